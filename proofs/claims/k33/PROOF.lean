import PyProof.Rows.All
import HandS.ForMost
import HandS.Exc
import HandS.WordsExc
import HandS.Wide
import HandS.Gcd
import HandS.IsInst
import HandS.Deep
import HandS.TupAny
import PyProof.ReprRoads
import HandS.Lambda
import HandS.Zip
import HandS.TupLe
import PyProof.Rows.InDataRows
import HandS.ExcInit
import KE.KExcSuper
import KE.KSuper
import KE.KExcIs
import PyProof.IsiBase
import HandS.RaiseMore
import HandS.WordsDict
import HandS.Conv
import HandS.EndBits
import HandS.Defaults
import KE.KRevSl
import HandS.Style
import KE.GoesZip
import KE.GoesMore
import KE.GoesEnum
import HandS.SortRule
import HandS.Star
import HandS.ReCall
import HandS.Strs
import PySem.Challenge.RW_whatthepicturesays_k33_whole_costs_of_ti
import KE.KNestM
set_option Elab.async false
set_option linter.all false
set_option maxRecDepth 100000
set_option maxHeartbeats 4000000
/-! DLBase: data in place of addresses. Rep, worlds, slots, the data-level judgements. -/
namespace DL
open PySem PySem.Spec PyProof.Rows L2

abbrev D := PyData
abbrev St := L2.St
def KT (K : PySem.W.Frag) (a : Addr) (xs : List V) : Prop := SqT K (fun _ => none) a xs
def kD : Key → D
  | .inl i => .int i
  | .inr x => .str x

/-! ### lambdas and exceptions as data: dicts that no dict is -/
structure LamC where
  params : Arguments
  body : Expr
  scope : Scope
  /-- the names that it takes from around, in the order of its slots -/
  names : List Str
  /-- their slots in the def that makes it -/
  ix : List Nat
/-- a law's lambdas, numbered; the tables of code objects -/
class Lams where
  tab : Nat → Option LamC
  tabs : List (Addr × Str)
/-- a lambda in the frame that made it: its number, the frame's cells -/
def fnO (n : Nat) (cl : List (Str × Addr)) : D := .dict [(.bool false, .int n), (.bool false, .list (cl.map fun p => .tuple [.str p.1, .int p.2]))]
/-- a lambda away from its frame: its number, what its names hold -/
def fnC (n : Nat) (ds : List D) : D := .dict [(.bool true, .int n), (.bool false, .list ds)]
/-- an exception of the class at C -/
def excD (C : Addr) (d : D) : D := .dict [(.bool true, .int C), (.bool true, d)]
def LamO [Lams] (f : Addr) (n : Nat) (cl : List (Str × Addr)) (c' : Addr) (q : Str) : HO := .ext fun h => ∃ L pm ctv, Lams.tab n = some L ∧ h.get? f = some (PySem.W.kla_obj "<lambda>" q L.params L.body L.scope cl pm c' ctv)
/-- a cell, known -/
def CellF (o : Obj) : HO := .frz o (.ext fun _ => True)
def ExcO (a C dd : Addr) : HO := .ext fun h => ∃ o vs, h.get? a = some o ∧ o.cls = .ref C ∧ o.dict = some dd ∧ o.data = .fields vs
/-- the cells of the names, what they hold -/
inductive CellsAt (A : Addr → Prop) (H : Hp) (cl : List (Str × Addr)) : List Str → List V → Prop
  | nil : CellsAt A H cl [] []
  | cons {y : Str} {ys : List Str} {v : V} {vs : List V} {c : Addr} {u : Value} {o : Obj} : cl.lookup y = some c → H c = some (CellF o) → o.data = .cell (some u) → ¬ A c → RelV v u → CellsAt A H cl ys vs → CellsAt A H cl (y :: ys) (v :: vs)
/-- what a lambda's cells are -/
structure ClOk (cl : List (Str × Addr)) (ys : List Str) : Prop where
  mem : ∀ y c, cl.lookup y = some c → y ∈ ys
  inj : ∀ x y c, cl.lookup x = some c → cl.lookup y = some c → x = y
/-- what an exception's class must bear -/
structure ExcK (K : PySem.W.Frag) (C : Addr) : Prop where
  hcl : (PySem.W.clsIn K C).isSome = true
  hga : PySem.W.findIn K (.ref C) "__getattribute__" = some (some (.builtin "BaseException.__getattribute__"))
  hgt : PySem.W.findIn K (.ref C) "__getattr__" = some none
  hdc : PySem.W.hasDictIn K C = true
  hsub : PySem.W.subIn K (.ref C) (.type "BaseException") = some true
  ha : PySem.W.findIn K (.ref C) "__class__" = some (some (.builtin "object.__class__"))
  hn : PySem.W.specialIn K (.builtin "object.__class__") "__get__" = some (some (.builtin "getset_descriptor.__get__"))
  htk : PySem.W.takesIn K (.builtin "object.__class__") = some true
  hm : PySem.W.mroIn K C (.type "object") = some true
  hno : ∀ T ∈ (["NoneType", "bool", "int", "str", "list", "tuple", "dict"] : List String), PySem.W.kitOne K (.ref C) (.type T) = some false
  hav : PySem.W.findIn K (.ref C) "value" = some none
section
variable [Lams]
mutual
/-- v is the data d in the heap H; nothing that it leans on is in A (what may change) -/
inductive Rep (K : PySem.W.Frag) (A : Addr → Prop) (H : Hp) : V → D → Prop
  | non : Rep K A H .non .none
  | bl (b : Bool) : Rep K A H (.bl b) (.bool b)
  | int (i : Int) : Rep K A H (.int i) (.int i)
  | str (x : Str) : x.length ≤ sizeLine → Rep K A H (.str x) (.str x)
  | lst {a : Addr} {xs : List V} {ds : List D} : H a = some (.lst xs) → ¬ A a → ds.length ≤ sizeLine → RepAll K A H xs ds → Rep K A H (.ref a) (.list ds)
  | tup {a : Addr} {xs : List V} {ds : List D} : (Rd H a (.tup xs) ∧ ¬ A a) ∨ KT K a xs → ds.length ≤ sizeLine → RepAll K A H xs ds → Rep K A H (.ref a) (.tuple ds)
  | dic {a : Addr} {kvs : List (Key × V)} {ps : List (D × D)} : H a = some (.dK kvs) → ¬ A a → RepKv K A H kvs ps → Rep K A H (.ref a) (.dict ps)
  | fno {f n c' : Nat} {cells : List (Str × Addr)} {q : Str} {L : LamC} : Lams.tab n = some L → H f = some (LamO f n (cloFrom cells L.scope.names []) c' q) → ¬ A f → H c' = some (LamX.CodeO c' q) → ¬ A c' → Rep K A H (.ref f) (fnO n cells)
  | fnc {f n c' : Nat} {cl : List (Str × Addr)} {q : Str} {L : LamC} {vs : List V} {ds : List D} : H f = some (LamO f n cl c' q) → ¬ A f → H c' = some (LamX.CodeO c' q) → ¬ A c' → Lams.tab n = some L → ClOk cl L.names → CellsAt A H cl L.names vs → RepAll K A H vs ds → Rep K A H (.ref f) (fnC n ds)
  | exc {a C dd : Addr} {v : V} {d : D} : H a = some (ExcO a C dd) → ¬ A a → H dd = some (.xd [("value", v)]) → ¬ A dd → ExcK K C → Rep K A H v d → Rep K A H (.ref a) (excD C d)
inductive RepAll (K : PySem.W.Frag) (A : Addr → Prop) (H : Hp) : List V → List D → Prop
  | nil : RepAll K A H [] []
  | cons {v : V} {vs : List V} {d : D} {ds : List D} : Rep K A H v d → RepAll K A H vs ds → RepAll K A H (v :: vs) (d :: ds)
inductive RepKv (K : PySem.W.Frag) (A : Addr → Prop) (H : Hp) : List (Key × V) → List (D × D) → Prop
  | nil : RepKv K A H [] []
  | cons {k : Key} {v : V} {vs : List (Key × V)} {d : D} {ds : List (D × D)} : Rep K A H v d → RepKv K A H vs ds → RepKv K A H ((k, v) :: vs) ((kD k, d) :: ds)
end

end
/-- what Rep leans on stays, and stays out of what may change -/
def Kp (A A' : Addr → Prop) (H H' : Hp) : Prop := ∀ a o, H a = some o → ¬ A a → H' a = some o ∧ ¬ A' a
theorem Kp.rd {A A' : Addr → Prop} {H H' : Hp} (h : Kp A A' H H') {a : Addr} {u : HO} (r : Rd H a u) (n : ¬ A a) : Rd H' a u ∧ ¬ A' a := by
  rcases r with r | ⟨o, r⟩
  · exact ⟨.inl (h a _ r n).1, (h a _ r n).2⟩
  · exact ⟨.inr ⟨o, (h a _ r n).1⟩, (h a _ r n).2⟩
theorem CellsAt.map {A A' : Addr → Prop} {H H' : Hp} {cl : List (Str × Addr)} (h : Kp A A' H H') : ∀ {ys : List Str} {vs : List V}, CellsAt A H cl ys vs → CellsAt A' H' cl ys vs
  | _, _, .nil => .nil
  | _, _, .cons l e d n r t => .cons l (h _ _ e n).1 d (h _ _ e n).2 r (t.map h)
section
variable [Lams]
variable {K : PySem.W.Frag} {A A' : Addr → Prop} {H H' : Hp}
mutual
theorem Rep.map (h : Kp A A' H H') : ∀ {v : V} {d : D}, Rep K A H v d → Rep K A' H' v d
  | _, _, .non => .non
  | _, _, .bl b => .bl b
  | _, _, .int i => .int i
  | _, _, .str x z => .str x z
  | _, _, .lst e n z r => .lst (h _ _ e n).1 (h _ _ e n).2 z (RepAll.map h r)
  | _, _, .tup s z r => .tup (s.elim (fun q => .inl (h.rd q.1 q.2)) .inr) z (RepAll.map h r)
  | _, _, .dic e n r => .dic (h _ _ e n).1 (h _ _ e n).2 (RepKv.map h r)
  | _, _, .fno t e n e2 n2 => .fno t (h _ _ e n).1 (h _ _ e n).2 (h _ _ e2 n2).1 (h _ _ e2 n2).2
  | _, _, .fnc e n e2 n2 t k c r => .fnc (h _ _ e n).1 (h _ _ e n).2 (h _ _ e2 n2).1 (h _ _ e2 n2).2 t k (c.map h) (RepAll.map h r)
  | _, _, .exc e n e2 n2 k r => .exc (h _ _ e n).1 (h _ _ e n).2 (h _ _ e2 n2).1 (h _ _ e2 n2).2 k (Rep.map h r)
theorem RepAll.map (h : Kp A A' H H') : ∀ {vs : List V} {ds : List D}, RepAll K A H vs ds → RepAll K A' H' vs ds
  | _, _, .nil => .nil
  | _, _, .cons r t => .cons (Rep.map h r) (RepAll.map h t)
theorem RepKv.map (h : Kp A A' H H') : ∀ {vs : List (Key × V)} {ds : List (D × D)}, RepKv K A H vs ds → RepKv K A' H' vs ds
  | _, _, .nil => .nil
  | _, _, .cons r t => .cons (Rep.map h r) (RepKv.map h t)
end
theorem RepAll.length : ∀ {vs : List V} {ds : List D}, RepAll K A H vs ds → vs.length = ds.length
  | _, _, .nil => rfl
  | _, _, .cons _ t => congrArg (· + 1) (RepAll.length t)
theorem RepAll.append : ∀ {vs us : List V} {ds es : List D}, RepAll K A H vs ds → RepAll K A H us es → RepAll K A H (vs ++ us) (ds ++ es)
  | _, _, _, _, .nil, s => s
  | _, _, _, _, .cons r t, s => .cons r (RepAll.append t s)
theorem RepAll.get : ∀ {vs : List V} {ds : List D} {i : Nat} {v : V}, RepAll K A H vs ds → vs[i]? = some v → ∃ d, ds[i]? = some d ∧ Rep K A H v d
  | _, _, _, _, .nil, e => by simp at e
  | _, _, 0, _, .cons r _, e => by
    simp only [List.getElem?_cons_zero, Option.some.injEq] at e
    subst e
    exact ⟨_, rfl, r⟩
  | _, _, i + 1, v, .cons _ t, e => by
    obtain ⟨d, e1, r⟩ := RepAll.get (i := i) (v := v) t (by simpa using e)
    exact ⟨d, by simpa using e1, r⟩
theorem RepAll.getD : ∀ {vs : List V} {ds : List D} {i : Nat} {d : D}, RepAll K A H vs ds → ds[i]? = some d → ∃ v, vs[i]? = some v ∧ Rep K A H v d
  | _, _, _, _, .nil, e => by simp at e
  | _, _, 0, _, .cons r _, e => by
    simp only [List.getElem?_cons_zero, Option.some.injEq] at e
    subst e
    exact ⟨_, rfl, r⟩
  | _, _, i + 1, v, .cons _ t, e => by
    obtain ⟨d, e1, r⟩ := RepAll.getD (i := i) (d := v) t (by simpa using e)
    exact ⟨d, by simpa using e1, r⟩
theorem RepAll.take : ∀ {vs : List V} {ds : List D} (n : Nat), RepAll K A H vs ds → RepAll K A H (vs.take n) (ds.take n)
  | _, _, 0, _ => .nil
  | _, _, _ + 1, .nil => .nil
  | _, _, n + 1, .cons r t => .cons r (RepAll.take n t)
theorem RepAll.drop : ∀ {vs : List V} {ds : List D} (n : Nat), RepAll K A H vs ds → RepAll K A H (vs.drop n) (ds.drop n)
  | _, _, 0, r => r
  | _, _, _ + 1, .nil => .nil
  | _, _, n + 1, .cons _ t => RepAll.drop n t
theorem RepAll.set {v : V} {d : D} (r : Rep K A H v d) : ∀ {vs : List V} {ds : List D} (n : Nat), RepAll K A H vs ds → RepAll K A H (vs.set n v) (ds.set n d)
  | _, _, _, .nil => .nil
  | _, _, 0, .cons _ t => .cons r t
  | _, _, n + 1, .cons q t => .cons q (RepAll.set r n t)
theorem RepAll.ints : ∀ {vs : List V} {ns : List Int}, RepAll K A H vs (ns.map PyData.int) → vs = ns.map V.int
  | [], [], _ => rfl
  | _, n :: ns, .cons (.int _) t => by rw [RepAll.ints t]; rfl
theorem RepAll.strs : ∀ {vs : List V} {ns : List Str}, RepAll K A H vs (ns.map PyData.str) → vs = ns.map V.str
  | [], [], _ => rfl
  | _, n :: ns, .cons (.str _ _) t => by rw [RepAll.strs t]; rfl
theorem RepAll.bools : ∀ {vs : List V} {ns : List Bool}, RepAll K A H vs (ns.map PyData.bool) → vs = ns.map V.bl
  | [], [], _ => rfl
  | _, n :: ns, .cons (.bl _) t => by rw [RepAll.bools t]; rfl
theorem RepAll.of_ints : ∀ (ns : List Int), RepAll K A H (ns.map V.int) (ns.map PyData.int)
  | [] => .nil
  | n :: ns => .cons (.int n) (RepAll.of_ints ns)
theorem RepAll.of_strs : ∀ (ns : List Str), (∀ y ∈ ns, y.length ≤ sizeLine) → RepAll K A H (ns.map V.str) (ns.map PyData.str)
  | [], _ => .nil
  | n :: ns, h => .cons (.str n (h n List.mem_cons_self)) (RepAll.of_strs ns fun y hy => h y (List.mem_cons_of_mem _ hy))
theorem KT.sq {a : Addr} {xs : List V} (h : KT K a xs) : SqT K H a xs := by
  rcases h with (h | ⟨_, h⟩) | h
  · cases h
  · cases h
  · exact .inr h
theorem sqT {a : Addr} {xs : List V} (h : (Rd H a (.tup xs) ∧ ¬ A a) ∨ KT K a xs) : SqT K H a xs := h.elim (fun q => .inl q.1) KT.sq
end

/-! ### the pot of a law's draws -/
def LIM : Nat := 2 ^ 22
def PotAt (n : Nat) (H : Hp) (b : Addr) : Prop := ∃ x y z : Int, H b = some (.lst [.int x, .int y, .int z]) ∧ 0 ≤ x ∧ x < 10 ^ 300 ∧ 0 ≤ y ∧ y < 2 ^ 61 ∧ 0 ≤ z ∧ z ≤ n
theorem PotAt.mono {n m : Nat} {H : Hp} {b : Addr} (h : PotAt n H b) (l : n ≤ m) : PotAt m H b := by
  obtain ⟨x, y, z, e, a1, a2, a3, a4, a5, a6⟩ := h
  exact ⟨x, y, z, e, a1, a2, a3, a4, a5, by omega⟩
theorem PotAt.some {n : Nat} {H : Hp} {b : Addr} (h : PotAt n H b) : H b ≠ none := by
  obtain ⟨x, y, z, e, _⟩ := h
  rw [e]
  simp

/-! ### the world of a call: what stood ahead of it, what may change, how many draws it may make -/
structure Wd where
  K : PySem.W.Frag
  A0 : Addr → Prop
  P : Addr → Prop
  H0 : Hp
  n0 : Nat
  c0 : Nat
  E : Value → D → Prop
  /-- the tables of code objects, their names -/
  T : List (Addr × Str)
/-- what may change in place -/
def Wd.vol (W : Wd) (b : Addr) : Prop := W.P b ∨ ∃ q, (b, q) ∈ W.T
theorem tab_some {H : Hp} {b : Addr} {q : Str} (h : LamX.TabS H b q) : H b ≠ none := by
  obtain ⟨ps, e, _⟩ := h
  rw [e]
  simp
theorem tabs_upd {T : List (Addr × Str)} {H : Hp} {a : Addr} {o : HO} (t : LamX.Tabs T H) (h : ∀ p ∈ T, p.1 ≠ a) (hc : ∀ φ, H a ≠ some (.ext φ)) : LamX.Tabs T (upd H a o) := fun p hp => by
  obtain ⟨ps, h1, h2, h3⟩ := t p hp
  refine ⟨ps, by rw [upd_ne (h p hp)]; exact h1, h2, fun pos cv e => ?_⟩
  obtain ⟨c, e1, e2⟩ := h3 pos cv e
  refine ⟨c, e1, ?_⟩
  rw [upd_ne fun z => hc _ (by rw [← z]; exact e2)]
  exact e2
structure Fin (W : Wd) (k : Nat) (H : Hp) : Prop where
  since : ∀ b o, W.H0 b = some o → ¬ W.vol b → H b = some o
  pots : ∀ b, W.P b → PotAt (W.n0 + k) H b
  tabs : LamX.Tabs W.T H
structure Wd.Ok [Lams] (W : Wd) : Prop where
  pdom : ∀ b, W.vol b → W.H0 b ≠ none
  sub : ∀ b, W.vol b → W.A0 b
  lim : W.n0 + W.c0 ≤ LIM
  tu : ∀ p ∈ W.T, ∀ q ∈ W.T, p.1 = q.1 → p.2 = q.2
  tt : W.T = Lams.tabs
theorem Fin.mono {W : Wd} {k j : Nat} {H : Hp} (f : Fin W k H) (l : k ≤ j) : Fin W j H := ⟨f.since, fun b hb => (f.pots b hb).mono (by omega), f.tabs⟩
theorem vol_some {W : Wd} {k : Nat} {H : Hp} {a : Addr} (hp : ∀ b, W.P b → PotAt k H b) (ht : LamX.Tabs W.T H) (p : W.vol a) : H a ≠ none := by
  rcases p with p | ⟨q, p⟩
  · exact (hp a p).some
  · exact tab_some (ht _ p)
theorem Fin.dom {W : Wd} {k : Nat} {H : Hp} (f : Fin W k H) {a : Addr} (h : W.H0 a ≠ none) : H a ≠ none := by
  by_cases p : W.vol a
  · exact vol_some f.pots f.tabs p
  · cases e : W.H0 a with
    | none => exact absurd e h
    | some o =>
      rw [f.since a o e p]
      simp

/-- something stands there, no code object -/
def Sol (H : Hp) (a : Addr) : Prop := H a ≠ none ∧ ∀ q, H a ≠ some (LamX.CodeO a q)
theorem sol_lst {H : Hp} {a : Addr} {xs : List V} (h : H a = some (.lst xs)) : Sol H a := ⟨by rw [h]; simp, fun q z => by rw [h] at z; cases z⟩
theorem vol_sol {W : Wd} {k : Nat} {H : Hp} {a : Addr} (hp : ∀ b, W.P b → PotAt k H b) (ht : LamX.Tabs W.T H) (p : W.vol a) : Sol H a := by
  rcases p with p | ⟨q, p⟩
  · obtain ⟨x, y, z, e, _⟩ := hp a p
    exact sol_lst e
  · obtain ⟨ps, e, _⟩ := ht _ p
    exact ⟨by rw [e]; simp, fun q z => by rw [e] at z; cases z⟩
/-- a slot: unknown; data; the pot; a list of its own that nothing else knows -/
inductive Sv where
  | un
  | dat (d : D)
  | pot
  | own (ds : List D)
  | scr (ns : List Int)
abbrev DEnv := List Sv
def nth : DEnv → Nat → Sv
  | [], _ => .un
  | s :: _, 0 => s
  | _ :: r, i + 1 => nth r i
theorem nth_set_self : ∀ {Δ : DEnv} {i : Nat} {s : Sv}, i < Δ.length → nth (Δ.set i s) i = s
  | [], _, _, h => absurd h (Nat.not_lt_zero _)
  | _ :: _, 0, _, _ => rfl
  | _ :: r, i + 1, _, h => nth_set_self (Δ := r) (i := i) (Nat.lt_of_succ_lt_succ h)
theorem nth_set_ne : ∀ {Δ : DEnv} {i j : Nat} {s : Sv}, j ≠ i → nth (Δ.set i s) j = nth Δ j
  | [], _, _, _, _ => rfl
  | _ :: _, 0, 0, _, h => absurd rfl h
  | _ :: _, 0, _ + 1, _, _ => rfl
  | _ :: _, _ + 1, 0, _, _ => rfl
  | _ :: r, i + 1, j + 1, _, h => nth_set_ne (Δ := r) (i := i) (j := j) fun e => h (by rw [e])
theorem nth_lt : ∀ {Δ : DEnv} {i : Nat}, nth Δ i ≠ .un → i < Δ.length
  | [], _, h => absurd rfl h
  | _ :: _, 0, _ => Nat.succ_pos _
  | _ :: r, i + 1, h => Nat.succ_lt_succ (nth_lt (Δ := r) (i := i) h)

def OwnA (σ : St) (Δ : DEnv) (a : Addr) : Prop := ∃ i ds, nth Δ i = .own ds ∧ σ[i]? = some (some (.ref a))
def AA (W : Wd) (σ : St) (Δ : DEnv) (a : Addr) : Prop := W.A0 a ∨ OwnA σ Δ a
/-- a law's script: a list of ints that stays -/
def ScrAt (K : PySem.W.Frag) (A : Addr → Prop) (H : Hp) (a : Addr) (ns : List Int) : Prop := (∃ o, H a = some (.frz o (.lst (ns.map V.int))) ∧ ¬ A a) ∨ SqL K (fun _ => none) a (ns.map V.int)
theorem ScrAt.map {K : PySem.W.Frag} {A A' : Addr → Prop} {H H' : Hp} {a : Addr} {ns : List Int} (h : Kp A A' H H') (r : ScrAt K A H a ns) : ScrAt K A' H' a ns := r.elim (fun ⟨o, e, n⟩ => .inl ⟨o, (h a _ e n).1, (h a _ e n).2⟩) .inr
theorem ScrAt.sq {K : PySem.W.Frag} {A : Addr → Prop} {H : Hp} {a : Addr} {ns : List Int} (r : ScrAt K A H a ns) : SqL K H a (ns.map V.int) := by
  rcases r with ⟨o, r, _⟩ | (h | ⟨_, h⟩) | h
  · exact .inl (.inr ⟨o, r⟩)
  · cases h
  · cases h
  · exact .inr h
section
variable [Lams]
def SlotOk (W : Wd) (σ : St) (A : Addr → Prop) (H : Hp) (i : Nat) : Sv → Prop
  | .un => True
  | .dat d => ∃ v, σ[i]? = some (some v) ∧ Rep W.K A H v d
  | .pot => ∃ a, σ[i]? = some (some (.ref a)) ∧ W.P a
  | .scr ns => ∃ a, σ[i]? = some (some (.ref a)) ∧ ScrAt W.K A H a ns
  | .own ds => ∃ a xs, σ[i]? = some (some (.ref a)) ∧ H a = some (.lst xs) ∧ RepAll W.K A H xs ds ∧ W.H0 a = none ∧ ¬ W.A0 a ∧ ds.length ≤ sizeLine
structure En (W : Wd) (k : Nat) (σ : St) (H : Hp) (Δ : DEnv) : Prop where
  len : Δ.length = σ.length
  sl : ∀ i, SlotOk W σ (AA W σ Δ) H i (nth Δ i)
  uniq : ∀ i j ds es a, nth Δ i = .own ds → nth Δ j = .own es → σ[i]? = some (some (.ref a)) → σ[j]? = some (some (.ref a)) → i = j
  fin : Fin W k H
  dom0 : ∀ a, W.A0 a → Sol H a

end
/-- an expression's work: what stood stays but the pots -/
structure Chg (W : Wd) (k : Nat) (H H' : Hp) : Prop where
  keep : ∀ b o, H b = some o → ¬ W.vol b → H' b = some o
  pots : ∀ b, W.P b → PotAt (W.n0 + k) H' b
  tabs : LamX.Tabs W.T H'
section
variable [Lams]
variable {W : Wd} {k j : Nat} {σ : St} {H H' H2 : Hp} {Δ : DEnv}
theorem Chg.trans (a : Chg W k H H') (b : Chg W j H' H2) : Chg W j H H2 := ⟨fun c o e n => b.keep c o (a.keep c o e n) n, b.pots, b.tabs⟩
theorem Chg.mono (a : Chg W k H H') (l : k ≤ j) : Chg W j H H' := ⟨a.keep, fun b p => (a.pots b p).mono (by omega), a.tabs⟩
theorem En.refl (e : En W k σ H Δ) : Chg W k H H := ⟨fun _ _ q _ => q, e.fin.pots, e.fin.tabs⟩
theorem Chg.kp (ok : W.Ok) (c : Chg W k H H') {A : Addr → Prop} (s : ∀ a, W.A0 a → A a) : Kp A A H H' := fun a o e n => ⟨c.keep a o e fun p => n (s a (ok.sub a p)), n⟩
theorem Chg.kpE (ok : W.Ok) (c : Chg W k H H') : Kp (AA W σ Δ) (AA W σ Δ) H H' := c.kp ok fun _ => .inl
theorem Fin.chg (f : Fin W k H) (c : Chg W j H H') : Fin W j H' := ⟨fun b o e n => c.keep b o (f.since b o e n) n, c.pots, c.tabs⟩
theorem Chg.dom (c : Chg W j H H') {a : Addr} (h : H a ≠ none) : H' a ≠ none := by
  by_cases p : W.vol a
  · exact vol_some c.pots c.tabs p
  · cases e : H a with
    | none => exact absurd e h
    | some o =>
      rw [c.keep a o e p]
      simp
theorem Chg.sol (c : Chg W j H H') {a : Addr} (h : Sol H a) : Sol H' a := by
  by_cases p : W.vol a
  · exact vol_sol c.pots c.tabs p
  · cases e : H a with
    | none => exact absurd e h.1
    | some o =>
      have z := c.keep a o e p
      refine ⟨by rw [z]; simp, fun q y => h.2 q ?_⟩
      rw [e, ← z]
      exact y
theorem En.chg (ok : W.Ok) (e : En W k σ H Δ) (c : Chg W j H H') : En W j σ H' Δ := by
  refine ⟨e.len, fun i => ?_, e.uniq, e.fin.chg c, fun a h => c.sol (e.dom0 a h)⟩
  have s := e.sl i
  revert s
  cases h : nth Δ i with
  | un => exact fun s => s
  | dat d =>
    rintro ⟨v, h1, h2⟩
    exact ⟨v, h1, h2.map (c.kpE ok)⟩
  | scr ns =>
    rintro ⟨v, h1, h2⟩
    exact ⟨v, h1, h2.map (c.kpE ok)⟩
  | pot => exact fun s => s
  | own ds =>
    rintro ⟨a, xs, h1, h2, h3, h4, h5⟩
    exact ⟨a, xs, h1, c.keep a _ h2 fun p => ok.pdom a p h4, h3.map (c.kpE ok), h4, h5⟩
theorem En.mono (e : En W k σ H Δ) (l : k ≤ j) : En W j σ H Δ := ⟨e.len, e.sl, e.uniq, e.fin.mono l, e.dom0⟩
theorem Chg.free (c : Chg W j H H') {p : Addr} (h : H' p = none) : H p = none := by
  cases e : H p with
  | none => rfl
  | some o =>
    by_cases q : W.vol p
    · exact absurd h (vol_some c.pots c.tabs q)
    · rw [c.keep p o e q] at h
      cases h
theorem Fin.free (f : Fin W k H) {p : Addr} (h : H p = none) : W.H0 p = none := by
  cases e : W.H0 p with
  | none => rfl
  | some o => exact absurd h (f.dom (by rw [e]; simp))
/-- a new object -/
theorem Fin.laid (f : Fin W k H) {p : Addr} {o : HO} (h : H p = none) : Chg W k H (upd H p o) :=
  ⟨fun b u e _ => by rw [upd_ne (ne_of_none e h)]; exact e, fun b q => by
    obtain ⟨x, y, z, e, r⟩ := f.pots b q
    exact ⟨x, y, z, by rw [upd_ne (ne_of_none e h)]; exact e, r⟩, f.tabs.ext fun b u e => by rw [upd_ne (ne_of_none e h)]; exact e⟩
theorem En.notA (e : En W k σ H Δ) {p : Addr} (h : H p = none) : ¬ AA W σ Δ p := by
  rintro (q | ⟨i, ds, h1, h2⟩)
  · exact (e.dom0 p q).1 h
  · have s := e.sl i
    rw [h1] at s
    obtain ⟨a, xs, g1, g2, _⟩ := s
    rw [h2] at g1
    cases g1
    rw [h] at g2
    cases g2
end
end DL
/-! DLExpr: the judgements over data for expressions. -/
namespace DL
open PySem PySem.Spec PyProof.Rows L2
variable [Lams]

/-- an exception that leaves: its class, its value -/
def EkOf (W : Wd) : XK := fun cls dopt H' => ∃ C dd v d, cls = .ref C ∧ ExcK W.K C ∧ dopt = some dd ∧ W.E cls d ∧ Fin W W.c0 H' ∧ H' dd = some (.xd [("value", v)]) ∧ W.H0 dd = none ∧ Rep W.K W.A0 H' v d
/-- a def's (or a block's) context -/
structure Cxt (X : Cx) (W : Wd) (N : List Str) (sc : Scope) (kk : Nat) : Prop where
  hN : X.N = N
  hsc : X.env.scope = sc
  nd : N.Nodup
  hr : Room kk X.A
  gd : X.A.guards = some []
  calm : X.calm = true
  hK : W.K = X.K
  ok : W.Ok
  tk : Takes X (fun cls d _ H => EkOf W cls d H)
  po : PassesOwn (model X.prog X.w) X.A X.env X.xe
theorem Cxt.px {X : Cx} {W : Wd} {N : List Str} {sc : Scope} {kk : Nat} (C : Cxt X W N sc kk) : Passes (L2.CX X.prog X.w) X (EkOf W) := passes_call C.tk fun _ _ _ _ h => h
theorem Cxt.gl {X : Cx} {W : Wd} {N : List Str} {sc : Scope} {kk : Nat} (C : Cxt X W N sc kk) {x : Str} (h : sc.names.lookup x = some .globalImplicit) : Gl X x := by
  show X.env.scope.names.lookup x = _
  rw [C.hsc]
  exact h
theorem Cxt.units {X : Cx} {W : Wd} {N : List Str} {sc : Scope} {kk : Nat} (C : Cxt X W N sc kk) : X.A.units + 100 < cLine := by
  have := C.hr.un
  omega

theorem pe_imp {X : Cx} {e : Expr} {t t' : TE} (h : PE X e t) (i : ∀ σ H Q, t' σ H Q → t σ H Q) : PE X e t' := ⟨fun pins s σ H Q I q => h.run pins s σ H Q I (i σ H Q q)⟩
theorem pt_imp {X : Cx} {e : Expr} {t t' : TT} (h : PT X e t) (i : ∀ σ H Q, t' σ H Q → t σ H Q) : PT X e t' := ⟨fun pins s σ H Q I q => h.run pins s σ H Q I (i σ H Q q)⟩
theorem pa_imp {X : Cx} {e : List Expr} {t t' : TA} (h : PA X e t) (i : ∀ σ H Q, t' σ H Q → t σ H Q) : PA X e t' := ⟨fun pos pins s σ H Q I q => h.run pos pins s σ H Q I (i σ H Q q)⟩
theorem ps_imp {X : Cx} {e : Stmt} {t t' : TS} (h : PS X e t) (i : ∀ D σ H, t' D σ H → t D σ H) : PS X e t' := ⟨fun pins s σ H Q I q => h.run pins s σ H Q I (i Q σ H q)⟩
theorem pss_imp {X : Cx} {e : List Stmt} {t t' : TS} (h : PSs X e t) (i : ∀ D σ H, t' D σ H → t D σ H) : PSs X e t' := ⟨fun pins s σ H Q I q => h.run pins s σ H Q I (i Q σ H q)⟩

abbrev TDE := DEnv → (D → Prop) → Prop
abbrev TDT := DEnv → (Bool → Prop) → Prop
abbrev TDL := DEnv → (List D → Prop) → Prop
/-- v is d; a list's own object may be one that changes -/
def RepB (K : PySem.W.Frag) (A : Addr → Prop) (H : Hp) (v : V) (d : D) : Prop := Rep K A H v d ∨ ∃ a xs ds, v = .ref a ∧ d = .list ds ∧ H a = some (.lst xs) ∧ RepAll K A H xs ds ∧ ds.length ≤ sizeLine
/-- g says what the expression gives; c: how many draws it makes at most -/
def lift (W : Wd) (g : TDE) (c : Nat) : TE := fun σ H Q => ∃ (k : Nat) (Δ : DEnv) (K : D → Prop), k + c ≤ W.c0 ∧ En W k σ H Δ ∧ g Δ K ∧ ∀ d v H', K d → Chg W (k + c) H H' → Rep W.K (AA W σ Δ) H' v d → Q v H'
/-- the same, of a value that is only looked at -/
def liftB (W : Wd) (g : TDE) (c : Nat) : TE := fun σ H Q => ∃ (k : Nat) (Δ : DEnv) (K : D → Prop), k + c ≤ W.c0 ∧ En W k σ H Δ ∧ g Δ K ∧ ∀ d v H', K d → Chg W (k + c) H H' → (Rep W.K (AA W σ Δ) H' v d ∨ ∃ a xs ds, v = .ref a ∧ d = .list ds ∧ H' a = some (.lst xs) ∧ RepAll W.K (AA W σ Δ) H' xs ds ∧ ds.length ≤ sizeLine ∧ OwnA σ Δ a) → Q v H'
/-- a new list that nothing else knows -/
def liftF (W : Wd) (g : TDL) (c : Nat) : TE := fun σ H Q => ∃ (k : Nat) (Δ : DEnv) (K : List D → Prop), k + c ≤ W.c0 ∧ En W k σ H Δ ∧ g Δ K ∧ ∀ ds a xs H', K ds → Chg W (k + c) H H' → H a = none → H' a = some (.lst xs) → ds.length ≤ sizeLine → RepAll W.K (fun b => AA W σ Δ b ∨ b = a) H' xs ds → Q (.ref a) H'
def liftL (W : Wd) (g : TDL) (c : Nat) : TA := fun σ H Q => ∃ (k : Nat) (Δ : DEnv) (K : List D → Prop), k + c ≤ W.c0 ∧ En W k σ H Δ ∧ g Δ K ∧ ∀ ds vs H', K ds → Chg W (k + c) H H' → RepAll W.K (AA W σ Δ) H' vs ds → Q vs H'
def liftT (W : Wd) (g : TDT) (c : Nat) : TT := fun σ H Q => ∃ (k : Nat) (Δ : DEnv) (K : Bool → Prop), k + c ≤ W.c0 ∧ En W k σ H Δ ∧ g Δ K ∧ ∀ b H', K b → Chg W (k + c) H H' → Q b H'
abbrev DE (X : Cx) (W : Wd) (e : Expr) (g : TDE) (c : Nat) : Prop := PE X e (lift W g c)
abbrev DB (X : Cx) (W : Wd) (e : Expr) (g : TDE) (c : Nat) : Prop := PE X e (liftB W g c)
abbrev DF (X : Cx) (W : Wd) (e : Expr) (g : TDL) (c : Nat) : Prop := PE X e (liftF W g c)
abbrev DA (X : Cx) (W : Wd) (es : List Expr) (g : TDL) (c : Nat) : Prop := PA X es (liftL W g c)
abbrev DT (X : Cx) (W : Wd) (e : Expr) (g : TDT) (c : Nat) : Prop := PT X e (liftT W g c)

/-- both ways of a test -/
def gIte (b : Bool) (P Q : Prop) : Prop := (b = true → P) ∧ (b = false → Q)
theorem gIte.use {b : Bool} {P Q : Prop} (h : gIte b P Q) : if b = true then P else Q := by
  cases b with
  | true => exact h.1 rfl
  | false => exact h.2 rfl

section
variable {X : Cx} {W : Wd} {N : List Str} {sc : Scope} {kk : Nat} {e a b : Expr} {es : List Expr} {c ca cb : Nat} {g ga gb : TDE} {pos p p2 : Pos}
theorem DE.bo (h : DE X W e g c) : DB X W e g c := pe_imp h fun σ H Q ⟨k, Δ, K, h1, h2, h3, h4⟩ => ⟨k, Δ, K, h1, h2, h3, fun d v H' hd hc r => h4 d v H' hd hc (.inl r)⟩
/-- a new list, as data -/
def gL (g : TDL) : TDE := fun Δ K => g Δ fun ds => K (.list ds)
theorem DF.da (C : Cxt X W N sc kk) {g : TDL} (h : DF X W e g c) : DE X W e (gL g) c := pe_imp h fun σ H Q ⟨k, Δ, K, h1, h2, h3, h4⟩ =>
  ⟨k, Δ, fun ds => K (.list ds), h1, h2, h3, fun ds a xs H' hd hc hn ha z r => h4 _ _ H' hd hc (.lst ha (h2.notA hn) z (r.map fun b o e n => ⟨e, fun q => n (.inl q)⟩))⟩

/-! ### names, constants -/
def gVar (i : Nat) : TDE := fun Δ K => match nth Δ i with
  | .dat d => K d
  | _ => False
def gVarB (i : Nat) : TDE := fun Δ K => match nth Δ i with
  | .dat d => K d
  | .own ds => K (.list ds)
  | _ => False
def gC (d : D) : TDE := fun _ K => K d
theorem de_var (C : Cxt X W N sc kk) {i : Nat} {x : Str} (hx : N[i]? = some x) (hv : Vis sc x) (hd : (x == ("__debug__" : Str)) = false := by decide +kernel) (hcd : (x == ("__classdict__" : Str)) = false := by decide +kernel) : DE X W (.Name x pos) (gVar i) 0 := by
  refine pe_imp (pe_var (i := i) (by rw [C.hN]; exact hx) (by rw [C.hsc]; exact hv) hd hcd) fun σ H Q ⟨k, Δ, K, h1, h2, h3, h4⟩ => ?_
  have s := h2.sl i
  unfold gVar at h3
  revert h3 s
  cases nth Δ i with
  | dat d =>
    rintro h3 ⟨v, e, r⟩
    exact ⟨v, e, h4 d v H h3 h2.refl r⟩
  | un => exact fun z => z.elim
  | pot => exact fun z => z.elim
  | scr ns => exact fun z => z.elim
  | own ds => exact fun z => z.elim
theorem db_var (C : Cxt X W N sc kk) {i : Nat} {x : Str} (hx : N[i]? = some x) (hv : Vis sc x) (hd : (x == ("__debug__" : Str)) = false := by decide +kernel) (hcd : (x == ("__classdict__" : Str)) = false := by decide +kernel) : DB X W (.Name x pos) (gVarB i) 0 := by
  refine pe_imp (pe_var (i := i) (by rw [C.hN]; exact hx) (by rw [C.hsc]; exact hv) hd hcd) fun σ H Q ⟨k, Δ, K, h1, h2, h3, h4⟩ => ?_
  have s := h2.sl i
  unfold gVarB at h3
  revert h3 s
  cases hn : nth Δ i with
  | dat d =>
    rintro h3 ⟨v, e, r⟩
    exact ⟨v, e, h4 d v H h3 h2.refl (.inl r)⟩
  | un => exact fun z => z.elim
  | pot => exact fun z => z.elim
  | scr ns => exact fun z => z.elim
  | own ds =>
    rintro h3 ⟨a, xs, e, ha, r, _, _, z⟩
    exact ⟨.ref a, e, h4 _ _ H h3 h2.refl (.inr ⟨a, xs, ds, rfl, rfl, ha, r, z, i, ds, hn, e⟩)⟩
theorem de_c {v : V} {d : D} (h : PE X e (tC v)) (r : ∀ A H, Rep W.K A H v d) : DE X W e (gC d) 0 := pe_imp h fun σ H Q ⟨k, Δ, K, h1, h2, h3, h4⟩ => h4 d v H h3 h2.refl (r _ _)
theorem de_int {i : Int} {j : Nat} : DE X W (.Constant (.int i) j pos) (gC (.int i)) 0 := de_c pe_int fun _ _ => .int i
theorem de_str {i : Str} {j : Nat} (h : i.length ≤ sizeLine := by decide +kernel) : DE X W (.Constant (.str i) j pos) (gC (.str i)) 0 := de_c pe_str fun _ _ => .str i h
theorem de_bl {i : Bool} {j : Nat} : DE X W (.Constant (.bool i) j pos) (gC (.bool i)) 0 := de_c pe_bl fun _ _ => .bl i
theorem de_non {j : Nat} : DE X W (.Constant .none j pos) (gC .none) 0 := de_c pe_non fun _ _ => .non
/-- a constant of the module -/
def KRep (K : PySem.W.Frag) (u : Value) (d : D) : Prop := ∃ v, RelV v u ∧ ∀ A H, Rep K A H v d
theorem de_glob (C : Cxt X W N sc kk) {x : Str} {u : Value} {d : D} (hg : sc.names.lookup x = some .globalImplicit) (hm : X.mg x = some u) (r : KRep X.K u d) (hd : (x == ("__debug__" : Str)) = false := by decide +kernel) : DE X W (.Name x pos) (gC d) 0 := by
  obtain ⟨v, r1, r2⟩ := r
  exact de_c (pe_glob (C.gl hg) hm r1 hd) (by rw [C.hK]; exact r2)
theorem KRep.int {K : PySem.W.Frag} {i : Int} {t : Tok} : KRep K (.int i t) (.int i) := ⟨.int i, ⟨t, rfl⟩, fun _ _ => .int i⟩
theorem KRep.str {K : PySem.W.Frag} {i : Str} {t : Tok} (h : i.length ≤ sizeLine) : KRep K (.str i t) (.str i) := ⟨.str i, ⟨t, rfl⟩, fun _ _ => .str i h⟩

/-! ### operators -/
def rD (Kf : PySem.W.Frag) (f : D → D → (D → Prop) → Prop) : R2 := fun x y H Q => ∃ (A : Addr → Prop) (dx dy : D) (K : D → Prop), (∀ a, A a → H a ≠ none) ∧ RepB Kf A H x dx ∧ RepB Kf A H y dy ∧ f dx dy K ∧
  ∀ d v H', K d → (∀ b o, H b = some o → H' b = some o) → Rep Kf A H' v d → Q v H'
abbrev DOp (X : Cx) (op : Value → Value → Sem Value) (f : D → D → (D → Prop) → Prop) : Prop := OpR X op (rD X.K f)
def gBin (f : D → D → (D → Prop) → Prop) (ga gb : TDE) : TDE := fun Δ K => ga Δ fun x => gb Δ fun y => f x y K
theorem Chg.of_ext {k : Nat} {H H' : Hp} (f : Fin W k H) (x : ∀ b o, H b = some o → H' b = some o) : Chg W k H H' := ⟨fun b o e _ => x b o e, fun b p => by
  obtain ⟨x1, y, z, e, r⟩ := f.pots b p
  exact ⟨x1, y, z, x b _ e, r⟩, f.tabs.ext x⟩
theorem En.dom (C : Cxt X W N sc kk) {k : Nat} {σ : St} {H : Hp} {Δ : DEnv} (e : En W k σ H Δ) : ∀ a, AA W σ Δ a → H a ≠ none := fun a h n => e.notA n h
theorem En.domS {k : Nat} {σ : St} {H : Hp} {Δ : DEnv} (e : En W k σ H Δ) : ∀ a, AA W σ Δ a → Sol H a := fun a h => by
  rcases h with h | ⟨i, ds, h1, h2⟩
  · exact e.dom0 a h
  · have s := e.sl i
    rw [h1] at s
    obtain ⟨a', xs, g1, g2, _⟩ := s
    rw [h2] at g1
    cases g1
    exact sol_lst g2
theorem RepB.of {σ : St} {H H' : Hp} {Δ : DEnv} {k j : Nat} {v : V} {d : D} (C : Cxt X W N sc kk) (en : En W k σ H Δ) (r : Rep W.K (AA W σ Δ) H v d ∨ ∃ a xs ds, v = .ref a ∧ d = .list ds ∧ H a = some (.lst xs) ∧ RepAll W.K (AA W σ Δ) H xs ds ∧ ds.length ≤ sizeLine ∧ OwnA σ Δ a) (hc : Chg W j H H') : RepB X.K (AA W σ Δ) H' v d := by
  rw [← C.hK]
  rcases r with r | ⟨a, xs, ds, e1, e2, e3, r, z, i, es, o1, o2⟩
  · exact .inl (r.map (hc.kpE C.ok))
  · refine .inr ⟨a, xs, ds, e1, e2, hc.keep a _ e3 fun q => ?_, r.map (hc.kpE C.ok), z⟩
    have s := en.sl i
    rw [o1] at s
    obtain ⟨a', xs', g1, g2, _, g4, _⟩ := s
    rw [o2] at g1
    cases g1
    exact C.ok.pdom a q g4
/-- two parts, then f of their values -/
theorem bin_use (C : Cxt X W N sc kk) {f : D → D → (D → Prop) → Prop} {r : R2} {ta tb : TE} (ha : ∀ σ H Q, liftB W ga ca σ H Q → ta σ H Q) (hb : ∀ σ H Q, liftB W gb cb σ H Q → tb σ H Q) (hr : ∀ x y H Q, rD X.K f x y H Q → r x y H Q) :
    ∀ σ H Q, lift W (gBin f ga gb) (ca + cb) σ H Q → tOp r ta tb σ H Q := fun σ H Q ⟨k, Δ, K, h1, h2, h3, h4⟩ => by
  refine ha _ _ _ ⟨k, Δ, _, by omega, h2, h3, fun dx x H1 q1 c1 r1 => ?_⟩
  have e1 := h2.chg C.ok c1
  refine hb _ _ _ ⟨k + ca, Δ, _, by omega, e1, q1, fun dy y H2 q2 c2 r2 => hr _ _ _ _ ?_⟩
  have e2 := e1.chg C.ok c2
  have rx : RepB X.K (AA W σ Δ) H2 x dx := RepB.of C e1 r1 c2
  have ry : RepB X.K (AA W σ Δ) H2 y dy := RepB.of C e2 r2 e2.refl
  refine ⟨AA W σ Δ, dx, dy, K, e2.dom C, rx, ry, q2, fun d v H' hd hx hv => ?_⟩
  have e : k + ca + cb = k + (ca + cb) := by omega
  exact h4 d v H' hd (c1.trans (e ▸ c2.trans (Chg.of_ext e2.fin hx))) (by rw [C.hK]; exact hv)
theorem de_bin (C : Cxt X W N sc kk) {op : Operator} {f : D → D → (D → Prop) → Prop} (ho : DOp X (binaryOp op) f) (ha : DB X W a ga ca) (hb : DB X W b gb cb) : DE X W (.BinOp a op b pos) (gBin f ga gb) (ca + cb) :=
  pe_imp (pe_op ho ha hb) (bin_use C (fun _ _ _ h => h) (fun _ _ _ h => h) fun _ _ _ _ h => h)
theorem de_cmp (C : Cxt X W N sc kk) {op : CmpOp} {f : D → D → (D → Prop) → Prop} (ho : DOp X (compareOp op) f) (ha : DB X W a ga ca) (hb : DB X W b gb cb) (hm : behindInMarks op b = false := by rfl) : DE X W (.Compare a [op] [b] pos) (gBin f ga gb) (ca + cb) :=
  pe_imp (pe_cmpR ho ha hb hm) (bin_use C (fun _ _ _ h => h) (fun _ _ _ h => h) fun _ _ _ _ h => h)
end
end DL
/-! DLExpr2: argument lists, displays, subscripts, slices, tests, calls of built-ins and methods. -/
namespace DL
open PySem PySem.Spec PyProof.Rows L2
variable [Lams]

/-- v is d, or a list of the def's own with the items of d -/
def RepO (W : Wd) (σ : St) (Δ : DEnv) (H : Hp) (v : V) (d : D) : Prop := Rep W.K (AA W σ Δ) H v d ∨ ∃ a xs ds, v = .ref a ∧ d = .list ds ∧ H a = some (.lst xs) ∧ RepAll W.K (AA W σ Δ) H xs ds ∧ ds.length ≤ sizeLine ∧ OwnA σ Δ a
inductive RepOs (W : Wd) (σ : St) (Δ : DEnv) (H : Hp) : List V → List D → Prop
  | nil : RepOs W σ Δ H [] []
  | cons {v : V} {vs : List V} {d : D} {ds : List D} : RepO W σ Δ H v d → RepOs W σ Δ H vs ds → RepOs W σ Δ H (v :: vs) (d :: ds)
inductive RepBs (K : PySem.W.Frag) (A : Addr → Prop) (H : Hp) : List V → List D → Prop
  | nil : RepBs K A H [] []
  | cons {v : V} {vs : List V} {d : D} {ds : List D} : RepB K A H v d → RepBs K A H vs ds → RepBs K A H (v :: vs) (d :: ds)
def liftLB (W : Wd) (g : TDL) (c : Nat) : TA := fun σ H Q => ∃ (k : Nat) (Δ : DEnv) (K : List D → Prop), k + c ≤ W.c0 ∧ En W k σ H Δ ∧ g Δ K ∧ ∀ ds vs H', K ds → Chg W (k + c) H H' → RepOs W σ Δ H' vs ds → Q vs H'
abbrev DAb (X : Cx) (W : Wd) (es : List Expr) (g : TDL) (c : Nat) : Prop := PA X es (liftLB W g c)
abbrev TDO := DEnv → (Option Int → Prop) → Prop
def liftP (W : Wd) (g : TDO) (c : Nat) : TO := fun σ H Q => ∃ (k : Nat) (Δ : DEnv) (K : Option Int → Prop), k + c ≤ W.c0 ∧ En W k σ H Δ ∧ g Δ K ∧ ∀ o H', K o → Chg W (k + c) H H' → Q o H'
abbrev DP (X : Cx) (W : Wd) (e : Option Expr) (g : TDO) (c : Nat) : Prop := PO X e (liftP W g c)
theorem po_imp {X : Cx} {e : Option Expr} {t t' : TO} (h : PO X e t) (i : ∀ σ H Q, t' σ H Q → t σ H Q) : PO X e t' := ⟨fun pins s σ H Q I q => h.run pins s σ H Q I (i σ H Q q)⟩

section
variable {X : Cx} {W : Wd} {N : List Str} {sc : Scope} {kk : Nat} {e a b : Expr} {es : List Expr} {c ca cb cc : Nat} {g ga gb gc : TDE} {pos p p2 : Pos} {k j : Nat} {σ : St} {Δ : DEnv} {H H' : Hp} {v : V} {d : D}
theorem RepO.chg (C : Cxt X W N sc kk) (en : En W k σ H Δ) (r : RepO W σ Δ H v d) (hc : Chg W j H H') : RepO W σ Δ H' v d := by
  rcases r with r | ⟨a, xs, ds, e1, e2, e3, r, z, i, es, o1, o2⟩
  · exact .inl (r.map (hc.kpE C.ok))
  · refine .inr ⟨a, xs, ds, e1, e2, hc.keep a _ e3 fun q => ?_, r.map (hc.kpE C.ok), z, i, es, o1, o2⟩
    have s := en.sl i
    rw [o1] at s
    obtain ⟨a', xs', g1, g2, _, g4, _⟩ := s
    rw [o2] at g1
    cases g1
    exact C.ok.pdom a q g4
theorem RepO.bo (C : Cxt X W N sc kk) (r : RepO W σ Δ H v d) : RepB X.K (AA W σ Δ) H v d := by
  rw [← C.hK]
  rcases r with r | ⟨a, xs, ds, e1, e2, e3, r, z, _⟩
  · exact .inl r
  · exact .inr ⟨a, xs, ds, e1, e2, e3, r, z⟩
theorem RepOs.bo (C : Cxt X W N sc kk) : ∀ {vs : List V} {ds : List D}, RepOs W σ Δ H vs ds → RepBs X.K (AA W σ Δ) H vs ds
  | _, _, .nil => .nil
  | _, _, .cons r t => .cons (r.bo C) (RepOs.bo C t)
theorem chg3 {H2 : Hp} (c1 : Chg W (k + ca) H H') (c2 : Chg W (k + ca + cb) H' H2) : Chg W (k + (ca + cb)) H H2 := by
  have e : k + ca + cb = k + (ca + cb) := by omega
  exact c1.trans (e ▸ c2)

/-! ### argument lists -/
def gN : TDL := fun _ K => K []
def gCo (ga : TDE) (gr : TDL) : TDL := fun Δ K => ga Δ fun x => gr Δ fun xs => K (x :: xs)
theorem da_nil : DA X W [] gN 0 := pa_imp pa_nil fun σ H Q ⟨k, Δ, K, h1, h2, h3, h4⟩ => h4 [] [] H h3 h2.refl .nil
theorem da_cons (C : Cxt X W N sc kk) {gr : TDL} (ha : DE X W e ga ca) (hr : DA X W es gr cb) (hs : starEach (e :: es) X.env = (false, eval e X.env) :: starEach es X.env := by rfl) : DA X W (e :: es) (gCo ga gr) (ca + cb) :=
  pa_imp (pa_cons ha hr hs) fun σ H Q ⟨k, Δ, K, h1, h2, h3, h4⟩ => ⟨k, Δ, _, by omega, h2, h3, fun dx x H1 q1 c1 r1 =>
    ⟨k + ca, Δ, _, by omega, h2.chg C.ok c1, q1, fun ds vs H2 q2 c2 r2 => h4 _ _ H2 q2 (chg3 c1 c2) (.cons (r1.map (c2.kpE C.ok)) r2)⟩⟩
theorem db_nil : DAb X W [] gN 0 := pa_imp pa_nil fun σ H Q ⟨k, Δ, K, h1, h2, h3, h4⟩ => h4 [] [] H h3 h2.refl .nil
theorem db_cons (C : Cxt X W N sc kk) {gr : TDL} (ha : DB X W e ga ca) (hr : DAb X W es gr cb) (hs : starEach (e :: es) X.env = (false, eval e X.env) :: starEach es X.env := by rfl) : DAb X W (e :: es) (gCo ga gr) (ca + cb) :=
  pa_imp (pa_cons ha hr hs) fun σ H Q ⟨k, Δ, K, h1, h2, h3, h4⟩ => ⟨k, Δ, _, by omega, h2, h3, fun dx x H1 q1 c1 r1 =>
    ⟨k + ca, Δ, _, by omega, h2.chg C.ok c1, q1, fun ds vs H2 q2 c2 r2 => h4 _ _ H2 q2 (chg3 c1 c2) (.cons (RepO.chg C (h2.chg C.ok c1) r1 c2) r2)⟩⟩

/-! ### displays -/
theorem Chg.laid (C : Cxt X W N sc kk) (en : En W k σ H Δ) {H1 : Hp} (c : Chg W j H H1) {q : Addr} {o : HO} (hq : H1 q = none) : Chg W j H (upd H1 q o) := c.trans (Fin.laid (en.fin.chg c) hq)
theorem kp_laid {A : Addr → Prop} {q : Addr} {o : HO} (hq : H q = none) : Kp A A H (upd H q o) := fun b u e n => ⟨by rw [upd_ne (ne_of_none e hq)]; exact e, n⟩
theorem kp_laidA {A : Addr → Prop} {q : Addr} {o : HO} (hq : H q = none) : Kp A (fun b => A b ∨ b = q) H (upd H q o) := fun b u e n => ⟨by rw [upd_ne (ne_of_none e hq)]; exact e, fun z => z.elim n (ne_of_none e hq)⟩
def gTup (ga : TDL) : TDE := fun Δ K => ga Δ fun xs => xs.length ≤ sizeLine ∧ K (.tuple xs)
def gLst (ga : TDL) : TDL := fun Δ K => ga Δ fun xs => xs.length ≤ sizeLine ∧ K xs
theorem de_tup (C : Cxt X W N sc kk) {x1} {gl : TDL} (h : DA X W es gl c) : DE X W (.Tuple es x1 pos) (gTup gl) c :=
  pe_imp (pe_tup h) fun σ H Q ⟨k, Δ, K, h1, h2, h3, h4⟩ => ⟨k, Δ, _, h1, h2, h3, fun ds vs H1 ⟨z, q1⟩ c1 r1 => ⟨by rw [r1.length]; exact z, fun q hq =>
    h4 _ _ _ q1 (c1.laid C h2 hq) (.tup (.inl ⟨.inl upd_same, (h2.chg C.ok c1).notA hq⟩) z (r1.map (kp_laid hq)))⟩⟩
theorem df_lst (C : Cxt X W N sc kk) {gl : TDL} (h : DA X W es gl c) : DF X W (.List es pos) (gLst gl) c :=
  pe_imp (pe_lst h) fun σ H Q ⟨k, Δ, K, h1, h2, h3, h4⟩ => ⟨k, Δ, _, h1, h2, h3, fun ds vs H1 ⟨z, q1⟩ c1 r1 => ⟨by rw [r1.length]; exact z, fun q hq =>
    h4 _ _ _ _ q1 (c1.laid C h2 hq) (c1.free hq) upd_same z (r1.map (kp_laidA hq))⟩⟩

/-! ### subscripts, slices -/
abbrev DIx (X : Cx) (f : D → D → (D → Prop) → Prop) : Prop := IxR X (rD X.K f)
theorem de_ix (C : Cxt X W N sc kk) {f : D → D → (D → Prop) → Prop} (hr : DIx X f) (ha : DB X W a ga ca) (hb : DB X W b gb cb) (hs : PlainIx b := by exact fun _ _ => rfl) : DE X W (.Subscript a b pos) (gBin f ga gb) (ca + cb) :=
  pe_imp (pe_ix hr ha hb hs) (bin_use C (fun _ _ _ h => h) (fun _ _ _ h => h) fun _ _ _ _ h => h)
def gNo : TDO := fun _ K => K none
def gPart (g : TDE) : TDO := fun Δ K => g Δ fun d => match d with
  | .int i => K (some i)
  | _ => False
theorem dp_none : DP X W none gNo 0 := po_imp po_none fun σ H Q ⟨k, Δ, K, h1, h2, h3, h4⟩ => h4 none H h3 h2.refl
theorem RepO.int (r : RepO W σ Δ H v (.int i)) : v = .int i := by
  rcases r with r | ⟨a, xs, ds, e1, e2, _⟩
  · cases r
    rfl
  · cases e2
theorem dp_some (h : DB X W e g c) : DP X W (some e) (gPart g) c := po_imp (po_some h) fun σ H Q ⟨k, Δ, K, h1, h2, h3, h4⟩ => ⟨k, Δ, _, h1, h2, h3, fun d v H' q c r => by
    cases d with
    | int i => exact ⟨i, RepO.int r, h4 (some i) H' q c⟩
    | _ => exact (show False from q).elim⟩
def rDS (Kf : PySem.W.Frag) (f : D → Option Int → Option Int → (D → Prop) → Prop) : V → Option Int → Option Int → Hp → VK → Prop := fun x lo hi H Q => ∃ (A : Addr → Prop) (dx : D) (K : D → Prop), (∀ a, A a → H a ≠ none) ∧ RepB Kf A H x dx ∧ f dx lo hi K ∧
  ∀ d v H', K d → (∀ b o, H b = some o → H' b = some o) → Rep Kf A H' v d → Q v H'
def rDSF (Kf : PySem.W.Frag) (f : D → Option Int → Option Int → (List D → Prop) → Prop) : V → Option Int → Option Int → Hp → VK → Prop := fun x lo hi H Q => ∃ (A : Addr → Prop) (dx : D) (K : List D → Prop), (∀ a, A a → H a ≠ none) ∧ RepB Kf A H x dx ∧ f dx lo hi K ∧
  ∀ ds a xs H', K ds → (∀ b o, H b = some o → H' b = some o) → H a = none → H' a = some (.lst xs) → ds.length ≤ sizeLine → RepAll Kf (fun b => A b ∨ b = a) H' xs ds → Q (.ref a) H'
def gSl (f : D → Option Int → Option Int → (D → Prop) → Prop) (ga : TDE) (gl gh : TDO) : TDE := fun Δ K => ga Δ fun x => gl Δ fun l => gh Δ fun h => f x l h K
def gSlF (f : D → Option Int → Option Int → (List D → Prop) → Prop) (ga : TDE) (gl gh : TDO) : TDL := fun Δ K => ga Δ fun x => gl Δ fun l => gh Δ fun h => f x l h K
theorem de_sl (C : Cxt X W N sc kk) {f : D → Option Int → Option Int → (D → Prop) → Prop} {lo hi : Option Expr} {gl gh : TDO} (hr : SlR X (rDS X.K f)) (ha : DB X W a ga ca) (hl : DP X W lo gl cb) (hh : DP X W hi gh cc) :
    DE X W (.Subscript a (.Slice lo hi none p2) pos) (gSl f ga gl gh) (ca + cb + cc) :=
  pe_imp (pe_slice hr ha hl hh) fun σ H Q ⟨k, Δ, K, h1, h2, h3, h4⟩ => ⟨k, Δ, _, by omega, h2, h3, fun dx x H1 q1 c1 r1 => by
    have e1 := h2.chg C.ok c1
    refine ⟨k + ca, Δ, _, by omega, e1, q1, fun l H2 q2 c2 => ?_⟩
    have e2 := e1.chg C.ok c2
    refine ⟨k + ca + cb, Δ, _, by omega, e2, q2, fun u H3 q3 c3 => ?_⟩
    have e3 := e2.chg C.ok c3
    refine ⟨AA W σ Δ, dx, K, e3.dom C, RepO.bo C (RepO.chg C e2 (RepO.chg C e1 r1 c2) c3), q3, fun d v H' hd hx hv => ?_⟩
    have e : k + ca + cb + cc = k + (ca + cb + cc) := by omega
    exact h4 d v H' hd ((c1.trans (c2.trans (e ▸ c3))).trans (e ▸ Chg.of_ext e3.fin hx)) (by rw [C.hK]; exact hv)⟩
theorem df_sl (C : Cxt X W N sc kk) {f : D → Option Int → Option Int → (List D → Prop) → Prop} {lo hi : Option Expr} {gl gh : TDO} (hr : SlR X (rDSF X.K f)) (ha : DB X W a ga ca) (hl : DP X W lo gl cb) (hh : DP X W hi gh cc) :
    DF X W (.Subscript a (.Slice lo hi none p2) pos) (gSlF f ga gl gh) (ca + cb + cc) :=
  pe_imp (pe_slice hr ha hl hh) fun σ H Q ⟨k, Δ, K, h1, h2, h3, h4⟩ => ⟨k, Δ, _, by omega, h2, h3, fun dx x H1 q1 c1 r1 => by
    have e1 := h2.chg C.ok c1
    refine ⟨k + ca, Δ, _, by omega, e1, q1, fun l H2 q2 c2 => ?_⟩
    have e2 := e1.chg C.ok c2
    refine ⟨k + ca + cb, Δ, _, by omega, e2, q2, fun u H3 q3 c3 => ?_⟩
    have e3 := e2.chg C.ok c3
    refine ⟨AA W σ Δ, dx, K, e3.dom C, RepO.bo C (RepO.chg C e2 (RepO.chg C e1 r1 c2) c3), q3, fun ds a xs H' hd hx hn ha hz hv => ?_⟩
    have e : k + ca + cb + cc = k + (ca + cb + cc) := by omega
    have c' : Chg W (k + (ca + cb + cc)) H H3 := c1.trans (c2.trans (e ▸ c3))
    exact h4 ds a xs H' hd (c'.trans (e ▸ Chg.of_ext e3.fin hx)) (c'.free hn) ha hz (by rw [C.hK]; exact hv)⟩

/-! ### tests, and, or, not, if -/
def gTB (g : TDE) : TDT := fun Δ K => g Δ fun d => match d with
  | .bool b => K b
  | _ => False
theorem RepO.bool {x : Bool} (r : RepO W σ Δ H v (.bool x)) : v = .bl x := by
  rcases r with r | ⟨a, xs, ds, e1, e2, _⟩
  · cases r
    rfl
  · cases e2
/-- a test whose value is a bool -/
theorem dt_val (h : DB X W e g c) (he : ∀ whole, isTrue e X.env whole = (do let v ← whole; standAt e.pos; holding [v] (truthy v)) := by intro _; rfl) : DT X W e (gTB g) c :=
  pt_imp (pt_val h he) fun σ H Q ⟨k, Δ, K, h1, h2, h3, h4⟩ => ⟨k, Δ, _, h1, h2, h3, fun d v H' q c r => by
    cases d with
    | bool x => exact ⟨x, RepO.bool r, h4 x H' q c⟩
    | _ => exact (show False from q).elim⟩
theorem dt_cmp (C : Cxt X W N sc kk) {op : CmpOp} {f : D → D → (D → Prop) → Prop} (ho : DOp X (compareOp op) f) (ha : DB X W a ga ca) (hb : DB X W b gb cb) (hm : behindInMarks op b = false := by rfl) : DT X W (.Compare a [op] [b] pos) (gTB (gBin f ga gb)) (ca + cb) :=
  pt_imp (pt_cmpR ho ha hb hm) fun σ H Q ⟨k, Δ, K, h1, h2, h3, h4⟩ => bin_use C (fun _ _ _ h => h) (fun _ _ _ h => h) (fun _ _ _ _ h => h) σ H _ ⟨k, Δ, _, h1, h2, h3, fun d v H' q c r => by
    cases d with
    | bool x => exact ⟨x, RepO.bool (.inl r), h4 x H' q c⟩
    | _ => exact (show False from q).elim⟩
def gNotT (g : TDT) : TDT := fun Δ K => g Δ fun b => K (!b)
theorem dt_not {g : TDT} (h : DT X W e g c) : DT X W (.UnaryOp .Not e pos) (gNotT g) c := pt_imp (pt_not h) fun σ H Q ⟨k, Δ, K, h1, h2, h3, h4⟩ => ⟨k, Δ, _, h1, h2, h3, fun b H' q c => h4 _ H' q c⟩
def gAndT (g u : TDT) : TDT := fun Δ K => g Δ fun b => gIte b (u Δ K) (K false)
def gOrT (g u : TDT) : TDT := fun Δ K => g Δ fun b => gIte b (K true) (u Δ K)
abbrev DW (X : Cx) (W : Wd) (e : Expr) (g : TDT) (c : Nat) : Prop := PW X e (liftT W g c)
theorem pw_imp {X : Cx} {e : Expr} {t t' : TT} (h : PW X e t) (i : ∀ σ H Q, t' σ H Q → t σ H Q) : PW X e t' := ⟨fun w pins s σ H Q I q => h.run w pins s σ H Q I (i σ H Q q)⟩
theorem chgL {k : Nat} (c1 : Chg W (k + ca) H H') : Chg W (k + (ca + cb)) H H' := c1.mono (by omega)
variable {rest : List Expr}
theorem dw_and1 {g : TDT} (h : DT X W e g c) : DW X W (.BoolOp .And [e] pos) g c := pw_and1 h
theorem dw_or1 {g : TDT} (h : DT X W e g c) : DW X W (.BoolOp .Or [e] pos) g c := pw_or1 h
theorem dw_and (C : Cxt X W N sc kk) {g u : TDT} (h : DT X W a g ca) (hr : DW X W (.BoolOp .And (b :: rest) pos) u cb) : DW X W (.BoolOp .And (a :: b :: rest) pos) (gAndT g u) (ca + cb) :=
  pw_imp (pw_and h hr) fun σ H Q ⟨k, Δ, K, h1, h2, h3, h4⟩ => ⟨k, Δ, _, by omega, h2, h3, fun x H1 q1 c1 => by
    cases x with
    | true => exact ⟨k + ca, Δ, K, by omega, h2.chg C.ok c1, q1.1 rfl, fun y H2 q2 c2 => h4 y H2 q2 (chg3 c1 c2)⟩
    | false => exact h4 false H1 (q1.2 rfl) (chgL c1)⟩
theorem dw_or (C : Cxt X W N sc kk) {g u : TDT} (h : DT X W a g ca) (hr : DW X W (.BoolOp .Or (b :: rest) pos) u cb) : DW X W (.BoolOp .Or (a :: b :: rest) pos) (gOrT g u) (ca + cb) :=
  pw_imp (pw_or h hr) fun σ H Q ⟨k, Δ, K, h1, h2, h3, h4⟩ => ⟨k, Δ, _, by omega, h2, h3, fun x H1 q1 c1 => by
    cases x with
    | false => exact ⟨k + ca, Δ, K, by omega, h2.chg C.ok c1, q1.2 rfl, fun y H2 q2 c2 => h4 y H2 q2 (chg3 c1 c2)⟩
    | true => exact h4 true H1 (q1.1 rfl) (chgL c1)⟩
theorem DW.t {g : TDT} (h : DW X W e g c) : DT X W e g c := PW.pt h
/-- .. as values -/
def gAndV (ga gb : TDE) : TDE := fun Δ K => ga Δ fun d => match d with
  | .bool x => gIte x (gb Δ K) (K (.bool false))
  | _ => False
def gOrV (ga gb : TDE) : TDE := fun Δ K => ga Δ fun d => match d with
  | .bool x => gIte x (K (.bool true)) (gb Δ K)
  | _ => False
def gNotV (ga : TDE) : TDE := fun Δ K => ga Δ fun d => match d with
  | .bool x => K (.bool (!x))
  | _ => False
theorem de_one {op} (h : DE X W e g c) : DE X W (.BoolOp op [e] pos) g c := pe_one h
theorem de_and (C : Cxt X W N sc kk) (ha : DE X W a ga ca) (hb : DE X W (.BoolOp .And (b :: rest) pos) gb cb) : DE X W (.BoolOp .And (a :: b :: rest) pos) (gAndV ga gb) (ca + cb) :=
  pe_imp (pe_and ha hb) fun σ H Q ⟨k, Δ, K, h1, h2, h3, h4⟩ => ⟨k, Δ, _, by omega, h2, h3, fun d x H1 q1 c1 r1 => by
    cases d with
    | bool y =>
      refine ⟨y, RepO.bool (.inl r1), ?_⟩
      cases y with
      | true => exact ⟨k + ca, Δ, K, by omega, h2.chg C.ok c1, q1.1 rfl, fun d' v H2 q2 c2 r2 => h4 d' v H2 q2 (chg3 c1 c2) r2⟩
      | false => exact h4 _ _ H1 (q1.2 rfl) (chgL c1) (.bl false)
    | _ => exact (show False from q1).elim⟩
theorem de_or (C : Cxt X W N sc kk) (ha : DE X W a ga ca) (hb : DE X W (.BoolOp .Or (b :: rest) pos) gb cb) : DE X W (.BoolOp .Or (a :: b :: rest) pos) (gOrV ga gb) (ca + cb) :=
  pe_imp (pe_or ha hb) fun σ H Q ⟨k, Δ, K, h1, h2, h3, h4⟩ => ⟨k, Δ, _, by omega, h2, h3, fun d x H1 q1 c1 r1 => by
    cases d with
    | bool y =>
      refine ⟨y, RepO.bool (.inl r1), ?_⟩
      cases y with
      | false => exact ⟨k + ca, Δ, K, by omega, h2.chg C.ok c1, q1.2 rfl, fun d' v H2 q2 c2 r2 => h4 d' v H2 q2 (chg3 c1 c2) r2⟩
      | true => exact h4 _ _ H1 (q1.1 rfl) (chgL c1) (.bl true)
    | _ => exact (show False from q1).elim⟩
theorem de_not (ha : DE X W a ga ca) : DE X W (.UnaryOp .Not a pos) (gNotV ga) ca :=
  pe_imp (pe_not ha) fun σ H Q ⟨k, Δ, K, h1, h2, h3, h4⟩ => ⟨k, Δ, _, h1, h2, h3, fun d x H1 q1 c1 r1 => by
    cases d with
    | bool y => exact ⟨y, RepO.bool (.inl r1), h4 _ _ H1 q1 c1 (.bl _)⟩
    | _ => exact (show False from q1).elim⟩
/-- a comparison's `not x`, x any test -/
def gIf (gt : TDT) (ga gb : TDE) : TDE := fun Δ K => gt Δ fun x => gIte x (ga Δ K) (gb Δ K)
theorem de_if (C : Cxt X W N sc kk) {t : Expr} {gt : TDT} {ct : Nat} (ht : DT X W t gt ct) (ha : DE X W a ga ca) (hb : DE X W b gb cb) : DE X W (.IfExp t a b pos) (gIf gt ga gb) (ct + (ca + cb)) :=
  pe_imp (pe_ifExp ht ha hb) fun σ H Q ⟨k, Δ, K, h1, h2, h3, h4⟩ => ⟨k, Δ, _, by omega, h2, h3, fun x H1 q1 c1 => by
    have e1 := h2.chg C.ok c1
    cases x with
    | true => exact ⟨k + ct, Δ, K, by omega, e1, q1.1 rfl, fun d v H2 q2 c2 r2 => h4 d v H2 q2 (c1.trans (c2.mono (by omega))) r2⟩
    | false => exact ⟨k + ct, Δ, K, by omega, e1, q1.2 rfl, fun d v H2 q2 c2 r2 => h4 d v H2 q2 (c1.trans (c2.mono (by omega))) r2⟩⟩
/-- unary minus -/
def gNeg (ga : TDE) : TDE := fun Δ K => ga Δ fun d => match d with
  | .int i => K (.int (-i))
  | _ => False
theorem de_neg (ha : DB X W a ga ca) : DE X W (.UnaryOp .USub a pos) (gNeg ga) ca :=
  pe_imp (pe_un un_neg ha) fun σ H Q ⟨k, Δ, K, h1, h2, h3, h4⟩ => ⟨k, Δ, _, h1, h2, h3, fun d x H1 q1 c1 r1 => by
    cases d with
    | int y => exact ⟨y, RepO.int r1, h4 _ _ H1 q1 c1 (.int _)⟩
    | _ => exact (show False from q1).elim⟩
/-- a op b op' c -/
def gChain (f f' : D → D → (D → Prop) → Prop) (ga gb gc : TDE) : TDE := fun Δ K => ga Δ fun x => gb Δ fun y => f x y fun z => match z with
  | .bool t => gIte t (gc Δ fun w => f' y w K) (K (.bool false))
  | _ => False
theorem chain_use (C : Cxt X W N sc kk) {f f' : D → D → (D → Prop) → Prop} : ∀ σ H Q, lift W (gChain f f' ga gb gc) (ca + (cb + cc)) σ H Q → tChain (rD X.K f) (rD X.K f') (liftB W ga ca) (liftB W gb cb) (liftB W gc cc) σ H Q := fun σ H Q ⟨k, Δ, K, h1, h2, h3, h4⟩ =>
  ⟨k, Δ, _, by omega, h2, h3, fun dx x H1 q1 c1 r1 => by
    have e1 := h2.chg C.ok c1
    refine ⟨k + ca, Δ, _, by omega, e1, q1, fun dy y H2 q2 c2 r2 => ?_⟩
    have e2 := e1.chg C.ok c2
    refine ⟨AA W σ Δ, dx, dy, _, e2.dom C, RepB.of C e1 r1 c2, RepB.of C e2 r2 e2.refl, q2, fun z v H3 q3 x3 r3 => ?_⟩
    have c3 := Chg.of_ext e2.fin x3
    cases z with
    | bool t =>
      refine ⟨t, ?_, ?_⟩
      · cases r3
        rfl
      cases t with
      | true =>
        have e3 := e2.chg C.ok c3
        refine ⟨k + ca + cb, Δ, _, by omega, e3, q3.1 rfl, fun dw w' H4 q4 c4 r4 => ?_⟩
        have e4 := e3.chg C.ok c4
        refine ⟨AA W σ Δ, dy, dw, K, e4.dom C, RepO.bo C (RepO.chg C e3 (RepO.chg C e2 r2 c3) c4), RepO.bo C r4, q4, fun d v H5 hd hx hv => ?_⟩
        have c5 := Chg.of_ext e4.fin hx
        have e : k + ca + cb + cc = k + (ca + (cb + cc)) := by omega
        exact h4 d v H5 hd (c1.trans (c2.trans (c3.trans (e ▸ (c4.trans c5))))) (by rw [C.hK]; exact hv)
      | false =>
        refine h4 _ _ H3 (q3.2 rfl) (c1.trans (c2.trans (c3.mono (by omega)))) (.bl false)
    | _ => exact (show False from q3).elim⟩
theorem de_chain (C : Cxt X W N sc kk) {op op' : CmpOp} {f f' : D → D → (D → Prop) → Prop} {c0 : Expr} (ho : DOp X (compareOp op) f) (ho' : DOp X (compareOp op') f') (ha : DB X W a ga ca) (hb : DB X W b gb cb) (hc : DB X W c0 gc cc) (hm : lastMarks [op, op'] [b, c0] = false := by with_unfolding_all rfl) :
    DE X W (.Compare a [op, op'] [b, c0] pos) (gChain f f' ga gb gc) (ca + (cb + cc)) := pe_imp (pe_chain ho ho' ha hb hc hm) (chain_use C)
theorem dt_chain (C : Cxt X W N sc kk) {op op' : CmpOp} {f f' : D → D → (D → Prop) → Prop} {c0 : Expr} (ho : DOp X (compareOp op) f) (ho' : DOp X (compareOp op') f') (ha : DB X W a ga ca) (hb : DB X W b gb cb) (hc : DB X W c0 gc cc) (hm : lastMarks [op, op'] [b, c0] = false := by with_unfolding_all rfl) :
    DT X W (.Compare a [op, op'] [b, c0] pos) (gTB (gChain f f' ga gb gc)) (ca + (cb + cc)) := pt_imp (pt_chain ho ho' ha hb hc hm) fun σ H Q ⟨k, Δ, K, h1, h2, h3, h4⟩ => chain_use C σ H _ ⟨k, Δ, _, h1, h2, h3, fun d v H' q c r => by
    cases d with
    | bool x => exact ⟨x, RepO.bool (.inl r), h4 x H' q c⟩
    | _ => exact (show False from q).elim⟩

/-! ### calls of built-ins, of methods of built-in types -/
def rDC (Kf : PySem.W.Frag) (f : List D → (D → Prop) → Prop) : List V → Hp → VK → Prop := fun xs H Q => ∃ (A : Addr → Prop) (ds : List D) (K : D → Prop), (∀ a, A a → H a ≠ none) ∧ RepBs Kf A H xs ds ∧ f ds K ∧
  ∀ d v H', K d → (∀ b o, H b = some o → H' b = some o) → Rep Kf A H' v d → Q v H'
def rDCF (Kf : PySem.W.Frag) (f : List D → (List D → Prop) → Prop) : List V → Hp → VK → Prop := fun xs H Q => ∃ (A : Addr → Prop) (ds : List D) (K : List D → Prop), (∀ a, A a → H a ≠ none) ∧ RepBs Kf A H xs ds ∧ f ds K ∧
  ∀ ds a xs H', K ds → (∀ b o, H b = some o → H' b = some o) → H a = none → H' a = some (.lst xs) → ds.length ≤ sizeLine → RepAll Kf (fun b => A b ∨ b = a) H' xs ds → Q (.ref a) H'
abbrev DCall (X : Cx) (f : Value) (r : List D → (D → Prop) → Prop) : Prop := CallR X f (rDC X.K r)
abbrev DCallF (X : Cx) (f : Value) (r : List D → (List D → Prop) → Prop) : Prop := CallR X f (rDCF X.K r)
def gCall (f : List D → (D → Prop) → Prop) (ga : TDL) : TDE := fun Δ K => ga Δ fun ds => f ds K
def gCallF (f : List D → (List D → Prop) → Prop) (ga : TDL) : TDL := fun Δ K => ga Δ fun ds => f ds K
theorem call_use (C : Cxt X W N sc kk) {f : List D → (D → Prop) → Prop} {gl : TDL} : ∀ σ H Q, lift W (gCall f gl) c σ H Q → tCB (rDC X.K f) (liftLB W gl c) σ H Q := fun σ H Q ⟨k, Δ, K, h1, h2, h3, h4⟩ =>
  ⟨k, Δ, _, h1, h2, h3, fun ds vs H1 q1 c1 r1 => by
    have e1 := h2.chg C.ok c1
    exact ⟨AA W σ Δ, ds, K, e1.dom C, r1.bo C, q1, fun d v H' hd hx hv => h4 d v H' hd (c1.trans (Chg.of_ext e1.fin hx)) (by rw [C.hK]; exact hv)⟩⟩
theorem callF_use (C : Cxt X W N sc kk) {f : List D → (List D → Prop) → Prop} {gl : TDL} : ∀ σ H Q, liftF W (gCallF f gl) c σ H Q → tCB (rDCF X.K f) (liftLB W gl c) σ H Q := fun σ H Q ⟨k, Δ, K, h1, h2, h3, h4⟩ =>
  ⟨k, Δ, _, h1, h2, h3, fun ds vs H1 q1 c1 r1 => by
    have e1 := h2.chg C.ok c1
    exact ⟨AA W σ Δ, ds, K, e1.dom C, r1.bo C, q1, fun ds' a xs H' hd hx hn ha hz hv => h4 ds' a xs H' hd (c1.trans (Chg.of_ext e1.fin hx)) (c1.free hn) ha hz (by rw [C.hK]; exact hv)⟩⟩
variable {x : Str} {id T : String} {gl : TDL}
theorem de_callB (C : Cxt X W N sc kk) {f : List D → (D → Prop) → Prop} (hc : DCall X (.builtin id) f) (hg : sc.names.lookup x = some .globalImplicit) (hm : X.mg x = none) (hv : bootBuiltins x = some (.builtin id)) (ha : DAb X W (e :: es) gl c)
    (hn : x ≠ "__name__" := by decide +kernel) (hdb : (x == ("__debug__" : Str)) = false := by decide +kernel) (he : starEach (e :: es) X.env = (false, eval e X.env) :: starEach es X.env := by rfl) (hpl : (backTo pos (starEach es X.env)).any (·.1) = false := by rfl) :
    DE X W (.Call (.Name x p) (e :: es) [] pos) (gCall f gl) c := pe_imp (pe_callB hc (C.gl hg) hm hv ha hn hdb he hpl) (call_use C)
theorem de_callT (C : Cxt X W N sc kk) {f : List D → (D → Prop) → Prop} (hc : DCall X (.type T) f) (hg : sc.names.lookup x = some .globalImplicit) (hm : X.mg x = none) (hv : bootBuiltins x = some (.type T)) (ha : DAb X W (e :: es) gl c)
    (hn : x ≠ "__name__" := by decide +kernel) (hdb : (x == ("__debug__" : Str)) = false := by decide +kernel) (he : starEach (e :: es) X.env = (false, eval e X.env) :: starEach es X.env := by rfl) (hpl : (backTo pos (starEach es X.env)).any (·.1) = false := by rfl) :
    DE X W (.Call (.Name x p) (e :: es) [] pos) (gCall f gl) c := pe_imp (pe_callTy hc (C.gl hg) hm hv ha hn hdb he hpl) (call_use C)
theorem df_callB (C : Cxt X W N sc kk) {f : List D → (List D → Prop) → Prop} (hc : DCallF X (.builtin id) f) (hg : sc.names.lookup x = some .globalImplicit) (hm : X.mg x = none) (hv : bootBuiltins x = some (.builtin id)) (ha : DAb X W (e :: es) gl c)
    (hn : x ≠ "__name__" := by decide +kernel) (hdb : (x == ("__debug__" : Str)) = false := by decide +kernel) (he : starEach (e :: es) X.env = (false, eval e X.env) :: starEach es X.env := by rfl) (hpl : (backTo pos (starEach es X.env)).any (·.1) = false := by rfl) :
    DF X W (.Call (.Name x p) (e :: es) [] pos) (gCallF f gl) c := pe_imp (pe_callB hc (C.gl hg) hm hv ha hn hdb he hpl) (callF_use C)
theorem df_callT (C : Cxt X W N sc kk) {f : List D → (List D → Prop) → Prop} (hc : DCallF X (.type T) f) (hg : sc.names.lookup x = some .globalImplicit) (hm : X.mg x = none) (hv : bootBuiltins x = some (.type T)) (ha : DAb X W (e :: es) gl c)
    (hn : x ≠ "__name__" := by decide +kernel) (hdb : (x == ("__debug__" : Str)) = false := by decide +kernel) (he : starEach (e :: es) X.env = (false, eval e X.env) :: starEach es X.env := by rfl) (hpl : (backTo pos (starEach es X.env)).any (·.1) = false := by rfl) :
    DF X W (.Call (.Name x p) (e :: es) [] pos) (gCallF f gl) c := pe_imp (pe_callTy hc (C.gl hg) hm hv ha hn hdb he hpl) (callF_use C)
/-- a name of the module for a built-in function (from math import gcd) -/
theorem de_callG (C : Cxt X W N sc kk) {f : List D → (D → Prop) → Prop} (hc : DCall X (.builtin id) f) (hg : sc.names.lookup x = some .globalImplicit) (hm : X.mg x = some (.builtin id)) (ha : DAb X W (e :: es) gl c)
    (hdb : (x == ("__debug__" : Str)) = false := by decide +kernel) (he : starEach (e :: es) X.env = (false, eval e X.env) :: starEach es X.env := by rfl) (hpl : (backTo pos (starEach es X.env)).any (·.1) = false := by rfl) :
    DE X W (.Call (.Name x p) (e :: es) [] pos) (gCall f gl) c := pe_imp (pe_callBfun hc (C.gl hg) hm ha hdb he hpl) (call_use C)
end
end DL
/-! DLStmt: targets, statements, loops over data. -/
namespace DL
open PySem PySem.Spec PyProof.Rows L2
variable [Lams]

structure DEnds where
  nx : DEnv → Prop
  rt : D → Prop
  bk : DEnv → Prop := fun _ => False
  ct : DEnv → Prop := fun _ => False
abbrev TDS := DEnds → DEnv → Prop
structure EndsOk (W : Wd) (k : Nat) (A : Addr → Prop) (H : Hp) (D2 : DEnds) (E : Ends) : Prop where
  nx : ∀ Δ' σ' H', D2.nx Δ' → En W k σ' H' Δ' → Kp A (AA W σ' Δ') H H' → E.nx σ' H'
  rt : ∀ d v H', D2.rt d → Fin W k H' → Rep W.K W.A0 H' v d → E.rt v H'
  bk : ∀ Δ' σ' H', D2.bk Δ' → En W k σ' H' Δ' → Kp A (AA W σ' Δ') H H' → E.bk σ' H'
  ct : ∀ Δ' σ' H', D2.ct Δ' → En W k σ' H' Δ' → Kp A (AA W σ' Δ') H H' → E.ct σ' H'
def liftS (W : Wd) (g : TDS) (c : Nat) : TS := fun E σ H => ∃ (k : Nat) (Δ : DEnv) (D2 : DEnds), k + c ≤ W.c0 ∧ En W k σ H Δ ∧ g D2 Δ ∧ EndsOk W (k + c) (AA W σ Δ) H D2 E
abbrev DS (X : Cx) (W : Wd) (s : Stmt) (g : TDS) (c : Nat) : Prop := PS X s (liftS W g c)
abbrev DSs (X : Cx) (W : Wd) (s : List Stmt) (g : TDS) (c : Nat) : Prop := PSs X s (liftS W g c)
theorem Kp.trans {A A' A'' : Addr → Prop} {H H' H'' : Hp} (a : Kp A A' H H') (b : Kp A' A'' H' H'') : Kp A A'' H H'' := fun c o e n => b c o (a c o e n).1 (a c o e n).2
theorem Kp.refl {A : Addr → Prop} {H : Hp} : Kp A A H H := fun _ _ e n => ⟨e, n⟩
section
variable {X : Cx} {W : Wd} {N : List Str} {sc : Scope} {kk : Nat} {e a b : Expr} {es : List Expr} {c ca cb cc : Nat} {g ga gb gc : TDE} {pos p p2 : Pos} {k j : Nat} {σ : St} {Δ : DEnv} {H H' : Hp} {v : V} {d : D}
theorem EndsOk.step {A A' : Addr → Prop} {D2 : DEnds} {E : Ends} (h : EndsOk W k A H D2 E) (q : Kp A A' H H') : EndsOk W k A' H' D2 E :=
  ⟨fun Δ' σ' H2 a b c => h.nx Δ' σ' H2 a b (q.trans c), h.rt, fun Δ' σ' H2 a b c => h.bk Δ' σ' H2 a b (q.trans c), fun Δ' σ' H2 a b c => h.ct Δ' σ' H2 a b (q.trans c)⟩
theorem EndsOk.le {A : Addr → Prop} {D2 : DEnds} {E : Ends} (h : EndsOk W j A H D2 E) (l : k ≤ j) : EndsOk W k A H D2 E :=
  ⟨fun Δ' σ' H2 a b c => h.nx Δ' σ' H2 a (b.mono l) c, fun d v H2 a b c => h.rt d v H2 a (b.mono l) c, fun Δ' σ' H2 a b c => h.bk Δ' σ' H2 a (b.mono l) c, fun Δ' σ' H2 a b c => h.ct Δ' σ' H2 a (b.mono l) c⟩

/-! ### blocks -/
def gNext : TDS := fun D Δ => D.nx Δ
def gSeq (g1 g2 : TDS) : TDS := fun D Δ => g1 { D with nx := g2 D } Δ
theorem dss_nil : DSs X W [] gNext 0 := pss_imp pss_nil fun E σ H ⟨k, Δ, D2, h1, h2, h3, h4⟩ => h4.nx Δ σ H h3 h2 Kp.refl
theorem dss_cons {s : Stmt} {r : List Stmt} {g1 g2 : TDS} (h : DS X W s g1 ca) (hr : DSs X W r g2 cb) : DSs X W (s :: r) (gSeq g1 g2) (ca + cb) :=
  pss_imp (pss_cons h hr) fun E σ H ⟨k, Δ, D2, h1, h2, h3, h4⟩ => ⟨k, Δ, { D2 with nx := g2 D2 }, by omega, h2, h3,
    ⟨fun Δ' σ' H' q e kp => ⟨k + ca, Δ', D2, by omega, e, q, (h4.le (by omega)).step kp⟩, (h4.le (by omega)).rt, (h4.le (by omega)).bk, (h4.le (by omega)).ct⟩⟩
theorem dss_one {s : Stmt} {g1 : TDS} (h : DS X W s g1 ca) : DSs X W [s] g1 ca := pss_one h
theorem ds_pass : DS X W (.Pass pos) gNext 0 := ps_imp ps_pass fun E σ H ⟨k, Δ, D2, h1, h2, h3, h4⟩ => h4.nx Δ σ H h3 h2 Kp.refl
def gBreak : TDS := fun D Δ => D.bk Δ
def gCont : TDS := fun D Δ => D.ct Δ
theorem ds_break : DS X W (.Break pos) gBreak 0 := ps_imp ps_break fun E σ H ⟨k, Δ, D2, h1, h2, h3, h4⟩ => h4.bk Δ σ H h3 h2 Kp.refl
theorem ds_cont : DS X W (.Continue pos) gCont 0 := ps_imp ps_continue fun E σ H ⟨k, Δ, D2, h1, h2, h3, h4⟩ => h4.ct Δ σ H h3 h2 Kp.refl
def gDrop (g : TDE) : TDS := fun D Δ => g Δ fun _ => D.nx Δ
theorem ds_expr (C : Cxt X W N sc kk) (h : DB X W e g c) (hs : swapsWith e none pos.line X.env = pure false := by rfl) : DS X W (.Expr e pos) (gDrop g) c :=
  ps_imp (ps_expr h hs) fun E σ H ⟨k, Δ, D2, h1, h2, h3, h4⟩ => ⟨k, Δ, _, h1, h2, h3, fun d v H' q c r => h4.nx Δ σ H' q (h2.chg C.ok c) (c.kpE C.ok)⟩
def gRet (g : TDE) : TDS := fun D Δ => g Δ D.rt
theorem Kp.toA0 {A : Addr → Prop} (s : ∀ a, W.A0 a → A a) : Kp A W.A0 H H := fun _ _ e n => ⟨e, fun q => n (s _ q)⟩
theorem ds_ret (C : Cxt X W N sc kk) (h : DE X W e g c) : DS X W (.Return (some e) pos) (gRet g) c :=
  ps_imp (ps_ret h) fun E σ H ⟨k, Δ, D2, h1, h2, h3, h4⟩ => ⟨k, Δ, _, h1, h2, h3, fun d v H' q c r => h4.rt d v H' q (h2.fin.chg c) (r.map (Kp.toA0 fun _ => .inl))⟩
/-- a list of the def's own is given back -/
theorem ds_retO (C : Cxt X W N sc kk) (h : DB X W e g c) : DS X W (.Return (some e) pos) (gRet g) c :=
  ps_imp (ps_ret h) fun E σ H ⟨k, Δ, D2, h1, h2, h3, h4⟩ => ⟨k, Δ, _, h1, h2, h3, fun d v H' q c r => h4.rt d v H' q (h2.fin.chg c) (by
    rcases r with r | ⟨a, xs, ds, e1, e2, e3, r, z, i, es, o1, o2⟩
    · exact r.map (Kp.toA0 fun _ => .inl)
    · subst e1 e2
      have s := h2.sl i
      rw [o1] at s
      obtain ⟨a', xs', g1, _, _, _, g5, _⟩ := s
      rw [o2] at g1
      cases g1
      exact .lst e3 g5 z (r.map (Kp.toA0 fun _ => .inl)))⟩
def gRetN : TDS := fun D _ => D.rt .none
theorem ds_retN : DS X W (.Return none pos) gRetN 0 := ps_imp ps_retN fun E σ H ⟨k, Δ, D2, h1, h2, h3, h4⟩ => h4.rt .none .non H h3 h2.fin .non
def gIfS (gt : TDT) (g1 g2 : TDS) : TDS := fun D Δ => gt Δ fun b => gIte b (g1 D Δ) (g2 D Δ)
theorem ds_if (C : Cxt X W N sc kk) {t : Expr} {s1 s2 : List Stmt} {gt : TDT} {g1 g2 : TDS} {ct : Nat} (ht : DT X W t gt ct) (ha : DSs X W s1 g1 ca) (hb : DSs X W s2 g2 cb) : DS X W (.If t s1 s2 pos) (gIfS gt g1 g2) (ct + (ca + cb)) :=
  ps_imp (ps_if ht ha hb) fun E σ H ⟨k, Δ, D2, h1, h2, h3, h4⟩ => ⟨k, Δ, _, by omega, h2, h3, fun x H1 q1 c1 => by
    have e1 := h2.chg C.ok c1
    cases x with
    | true => exact ⟨k + ct, Δ, D2, by omega, e1, q1.1 rfl, (h4.le (by omega)).step (c1.kpE C.ok)⟩
    | false => exact ⟨k + ct, Δ, D2, by omega, e1, q1.2 rfl, (h4.le (by omega)).step (c1.kpE C.ok)⟩⟩

/-! ### stores -/
theorem ownA_set {i : Nat} {s : Sv} {x : Option V} {a : Addr} (hs : ∀ ds, s ≠ .own ds) (h : OwnA (σ.set i x) (Δ.set i s) a) : OwnA σ Δ a := by
  obtain ⟨j, ds, h1, h2⟩ := h
  by_cases e : j = i
  · subst e
    by_cases l : j < Δ.length
    · rw [nth_set_self l] at h1
      exact absurd h1 (hs ds)
    · have z : (Δ.set j s) = Δ := List.set_eq_of_length_le (by omega)
      rw [z] at h1
      exact absurd (nth_lt (by rw [h1]; simp)) l
  · rw [nth_set_ne e] at h1
    rw [List.getElem?_set_ne (fun z => e z.symm)] at h2
    exact ⟨j, ds, h1, h2⟩
theorem aa_set {i : Nat} {s : Sv} {x : Option V} {a : Addr} (hs : ∀ ds, s ≠ .own ds) (h : AA W (σ.set i x) (Δ.set i s) a) : AA W σ Δ a := h.elim .inl fun q => .inr (ownA_set hs q)
theorem Kp.less {A A' : Addr → Prop} (h : ∀ a, A' a → A a) : Kp A A' H H := fun _ _ e n => ⟨e, fun q => n (h _ q)⟩
theorem SlotOk.mono {A A' : Addr → Prop} {s : Sv} (h : ∀ a, A' a → A a) {i : Nat} (q : SlotOk W σ A H i s) : SlotOk W σ A' H i s := by
  cases s with
  | un => trivial
  | dat d =>
    obtain ⟨v, e, r⟩ := q
    exact ⟨v, e, r.map (Kp.less h)⟩
  | scr ns =>
    obtain ⟨v, e, r⟩ := q
    exact ⟨v, e, r.map (Kp.less h)⟩
  | pot => exact q
  | own ds =>
    obtain ⟨a, xs, e1, e2, r, e3⟩ := q
    exact ⟨a, xs, e1, e2, r.map (Kp.less h), e3⟩
theorem slot_set {A : Addr → Prop} {s : Sv} {i j : Nat} {x : Option V} (e : j ≠ i) (h : SlotOk W σ A H j s) : SlotOk W (σ.set i x) A H j s := by
  have z : (σ.set i x)[j]? = σ[j]? := List.getElem?_set_ne fun z => e z.symm
  cases s with
  | un => trivial
  | dat d =>
    obtain ⟨v, e, r⟩ := h
    exact ⟨v, z.trans e, r⟩
  | scr ns =>
    obtain ⟨v, e, r⟩ := h
    exact ⟨v, z.trans e, r⟩
  | pot =>
    obtain ⟨a, e, r⟩ := h
    exact ⟨a, z.trans e, r⟩
  | own ds =>
    obtain ⟨a, xs, e1, r⟩ := h
    exact ⟨a, xs, z.trans e1, r⟩
/-- a slot gets new data, or is forgotten -/
theorem En.store (en : En W k σ H Δ) {i : Nat} {s : Sv} {x : Option V} (hs : ∀ ds, s ≠ .own ds) (hi : i < σ.length → SlotOk W (σ.set i x) (AA W σ Δ) H i s) : En W k (σ.set i x) H (Δ.set i s) := by
  refine ⟨by rw [List.length_set, List.length_set]; exact en.len, fun j => ?_, fun j l ds es a h1 h2 h3 h4 => ?_, en.fin, en.dom0⟩
  · refine SlotOk.mono (fun a q => aa_set hs q) ?_
    by_cases e : j = i
    · subst e
      by_cases l : j < Δ.length
      · rw [nth_set_self l]
        exact hi (by rw [← en.len]; exact l)
      · have z : (Δ.set j s) = Δ := List.set_eq_of_length_le (by omega)
        have z2 : (σ.set j x) = σ := List.set_eq_of_length_le (by rw [← en.len]; omega)
        rw [z, z2]
        exact en.sl j
    · rw [nth_set_ne e]
      exact slot_set e (en.sl j)
  · have f : ∀ {j : Nat} {ds : List D}, nth (Δ.set i s) j = .own ds → (σ.set i x)[j]? = some (some (.ref a)) → nth Δ j = .own ds ∧ σ[j]? = some (some (.ref a)) := fun {j ds} h1 h3 => by
      by_cases e : j = i
      · subst e
        by_cases l : j < Δ.length
        · rw [nth_set_self l] at h1
          exact absurd h1 (hs ds)
        · have z : (Δ.set j s) = Δ := List.set_eq_of_length_le (by omega)
          have z2 : (σ.set j x) = σ := List.set_eq_of_length_le (by rw [← en.len]; omega)
          rw [z] at h1
          rw [z2] at h3
          exact ⟨h1, h3⟩
      · rw [nth_set_ne e] at h1
        rw [List.getElem?_set_ne (fun z => e z.symm)] at h3
        exact ⟨h1, h3⟩
    exact en.uniq j l ds es a (f h1 h3).1 (f h2 h4).1 (f h1 h3).2 (f h2 h4).2
theorem En.dat (en : En W k σ H Δ) {i : Nat} (r : Rep W.K (AA W σ Δ) H v d) : En W k (σ.set i (some v)) H (Δ.set i (.dat d)) :=
  en.store (fun _ z => by cases z) fun l => ⟨v, List.getElem?_set_self l, r⟩
theorem kp_set {i : Nat} {s : Sv} {x : Option V} (hs : ∀ ds, s ≠ .own ds) : Kp (AA W σ Δ) (AA W (σ.set i x) (Δ.set i s)) H H := Kp.less fun _ q => aa_set hs q
/-- a slot gets a new list of its own: it lay at no address of H -/
theorem En.own (en : En W k σ H Δ) {i : Nat} {a : Addr} {xs : List V} {ds : List D} (hi : i < σ.length) (c : Chg W j H H') (hn : H a = none) (hl : H' a = some (.lst xs)) (hz : ds.length ≤ sizeLine) (r : RepAll W.K (fun b => AA W σ Δ b ∨ b = a) H' xs ds) (ok : W.Ok) :
    En W j (σ.set i (some (.ref a))) H' (Δ.set i (.own ds)) ∧ Kp (AA W σ Δ) (AA W (σ.set i (some (.ref a))) (Δ.set i (.own ds))) H H' := by
  have li : i < Δ.length := by rw [en.len]; exact hi
  have sub : ∀ b, AA W (σ.set i (some (.ref a))) (Δ.set i (.own ds)) b → AA W σ Δ b ∨ b = a := fun b q => by
    rcases q with q | ⟨j, es, h1, h2⟩
    · exact .inl (.inl q)
    · by_cases e : j = i
      · subst e
        rw [List.getElem?_set_self hi] at h2
        cases h2
        exact .inr rfl
      · rw [nth_set_ne e] at h1
        rw [List.getElem?_set_ne (fun z => e z.symm)] at h2
        exact .inl (.inr ⟨j, es, h1, h2⟩)
  have kp : Kp (AA W σ Δ) (AA W (σ.set i (some (.ref a))) (Δ.set i (.own ds))) H H' := fun b o e n => ⟨c.keep b o e fun q => n (.inl (ok.sub b q)), fun q => (sub b q).elim n fun z => by
    rw [z, hn] at e
    cases e⟩
  have hA0 : ¬ W.A0 a := fun q => (en.dom0 a q).1 hn
  refine ⟨⟨by rw [List.length_set, List.length_set]; exact en.len, fun l => ?_, fun j1 j2 d1 d2 b h1 h2 h3 h4 => ?_, en.fin.chg c, fun b q => c.sol (en.dom0 b q)⟩, kp⟩
  · by_cases e : l = i
    · subst e
      rw [nth_set_self li]
      exact ⟨a, xs, List.getElem?_set_self hi, hl, r.map (Kp.less sub), en.fin.free hn, hA0, hz⟩
    · rw [nth_set_ne e]
      have s := (en.chg ok c).sl l
      refine slot_set e ?_
      have s0 := en.sl l
      revert s s0
      cases h : nth Δ l with
      | un => exact fun _ _ => trivial
      | dat d =>
        rintro _ ⟨v, e1, r1⟩
        exact ⟨v, e1, r1.map kp⟩
      | scr ns =>
        rintro _ ⟨v, e1, r1⟩
        exact ⟨v, e1, r1.map kp⟩
      | pot => exact fun s _ => s
      | own es =>
        rintro ⟨b, ys, e1, e2, r1, e3⟩ ⟨b', ys', f1, f2, r2, f3⟩
        rw [e1] at f1
        cases f1
        have f2' := c.keep b _ f2 fun q => ok.pdom b q f3.1
        rw [e2] at f2'
        cases f2'
        exact ⟨b, ys, e1, e2, r2.map kp, e3⟩
  · have f : ∀ {j : Nat} {es : List D}, j ≠ i → nth (Δ.set i (.own ds)) j = .own es → (σ.set i (some (.ref a)))[j]? = some (some (.ref b)) → nth Δ j = .own es ∧ σ[j]? = some (some (.ref b)) := fun {j es} e h1 h3 => by
      rw [nth_set_ne e] at h1
      rw [List.getElem?_set_ne (fun z => e z.symm)] at h3
      exact ⟨h1, h3⟩
    have ne : ∀ {j : Nat} {es : List D}, j ≠ i → nth (Δ.set i (.own ds)) j = .own es → (σ.set i (some (.ref a)))[j]? = some (some (.ref b)) → b ≠ a := fun {j es} e h1 h3 z => by
      obtain ⟨g1, g2⟩ := f e h1 h3
      have s := en.sl j
      rw [g1] at s
      obtain ⟨b', ys, q1, q2, _⟩ := s
      rw [g2] at q1
      cases q1
      rw [z, hn] at q2
      cases q2
    by_cases e1 : j1 = i
    · by_cases e2 : j2 = i
      · rw [e1, e2]
      · subst e1
        rw [List.getElem?_set_self hi] at h3
        cases h3
        exact absurd rfl (ne e2 h2 h4)
    · by_cases e2 : j2 = i
      · subst e2
        rw [List.getElem?_set_self hi] at h4
        cases h4
        exact absurd rfl (ne e1 h1 h3)
      · exact en.uniq j1 j2 d1 d2 b (f e1 h1 h3).1 (f e2 h2 h4).1 (f e1 h1 h3).2 (f e2 h2 h4).2
end
end DL
/-! DLFun: defs, their calls, their bodies; the guards of repr are told. -/
namespace DL
open PySem PySem.Spec PyProof.Rows L2
variable [Lams]

/-- a def's promise where no repr is under way -/
structure FnG (P : Program) (w : World) (K : PySem.W.Frag) (mg : Str → Option Value) (base : Heap) (k : Nat) (f : Addr) (fd : FuncData) (ps : List Str) (sp : Sp) : Prop where
  len : ∀ vs H Q E, sp vs H Q E → vs.length = ps.length
  run : ∀ (A : Around) (outer : List Env) (s : Shared) (H : Hp) (args : Args) (us : List Value) (vs : List V) (Q : VK) (E : XK), A.guards = some [] → Room k A → Env0 P w K mg base A outer s H → BindsTo s fd args (ps.zip us) → Vals vs us →
    sp vs H Q E → codeAny (model P w) A (.call (.ref f) args) (CR (L2.CX P w) outer P w H s Q E) s
/-- how arguments come to parameters: n by place, ks by name, ds from the defaults -/
def BindG (K : PySem.W.Frag) (fd : FuncData) (ps : List Str) (n : Nat) (ks : List Str) (ds : List Value) : Prop :=
  ∀ (s : Shared) (us ws : List Value), K.In s.heap → us.length = n → ws.length = ks.length → BindsTo s fd ⟨us, ks.zip ws⟩ (ps.zip (us ++ (ws ++ ds)))
theorem BindG.plain {K : PySem.W.Frag} {fd : FuncData} {ps ks : List Str} {n : Nat} (h : ∀ us ws : List Value, us.length = n → ws.length = ks.length → bindArgs fd ⟨us, ks.zip ws⟩ = pure (ps.zip (us ++ ws))) : BindG K fd ps n ks [] := fun s us ws _ h1 h2 => by
  rw [List.append_nil]
  exact .of_eq (h us ws h1 h2)
section
variable {P : Program} {w : World} {K : PySem.W.Frag} {mg : Str → Option Value} {base : Heap} {k : Nat} {f : Addr} {fd : FuncData} {ps ks : List Str} {sp : Sp} {X : Cx} {E : XK} {x : Str} {p pos : Pos} {n : Nat} {ds : List Value} {dvs : List V}
theorem FnG.mono {j : Nat} (F : FnG P w K mg base k f fd ps sp) (h : k ≤ j) : FnG P w K mg base j f fd ps sp :=
  ⟨F.len, fun A outer s H args us vs Q E hg hr => F.run A outer s H args us vs Q E hg (hr.mono h)⟩
theorem FnG.of_ok (F : FnOk P w K mg base (L2.CX P w) k f fd ps sp) : FnG P w K mg base k f fd ps sp := ⟨F.len, fun A outer s H args us vs Q E _ => F.run A outer s H args us vs Q E⟩
/-- the callee's run, seen from the caller's body -/
theorem run_g {pins : List (Addr × Obj)} {σ : St} {H : Hp} {s : Shared} {Q : VK} {us ws : List Value} {vs zs : List V} (F : FnG X.prog X.w X.K X.mg X.base k f fd ps sp) (hr : Room k X.A) (hg : X.A.guards = some []) (hb : BindG X.K fd ps n ks ds) (hd : Vals dvs ds) (hx : Passes (L2.CX X.prog X.w) X E)
    (I : Inv X pins σ H s) (r : Vals vs us) (rz : Vals zs ws) (h1 : us.length = n) (h2 : ws.length = ks.length) (h : sp (vs ++ (zs ++ dvs)) H Q E) : wpAny (model X.prog X.w) X.A (call (.ref f) us (ks.zip ws)) (EP X pins σ Q) X.xe s := by
  have code := F.run X.A X.stack s H ⟨us, ks.zip ws⟩ (us ++ (ws ++ ds)) (vs ++ (zs ++ dvs)) Q E hg hr I.env0 (hb s us ws I.kIn h1 h2) (r.append (rz.append hd)) h
  refine wpAny_call (codeAny_mono code fun res s' q => ?_)
  match res, q with
  | .error e, q => exact hx pins σ H s e s' I q
  | .ok (.ret u), q => exact I.after q
theorem zip_nil_nil {us : List Value} (h : us.length = ([] : List Str).length) : us = [] := List.eq_nil_of_length_eq_zero h
/-- f(e, ..) -/
theorem pe_g {e : Expr} {es : List Expr} {t : TA} (F : FnG X.prog X.w X.K X.mg X.base k f fd ps sp) (hr : Room k X.A) (hg : X.A.guards = some []) (hgl : Gl X x) (hm : X.mg x = some (.ref f)) (hk : PySem.W.keepIn X.K (.ref f) = true) (hb : BindG X.K fd ps n [] ds) (hd : Vals dvs ds)
    (hx : Passes (L2.CX X.prog X.w) X E) (ha : PA X (e :: es) t) (hdb : (x == ("__debug__" : Str)) = false) (he : starEach (e :: es) X.env = (false, eval e X.env) :: starEach es X.env) (hpl : (backTo pos (starEach es X.env)).any (·.1) = false) :
    PE X (.Call (.Name x p) (e :: es) [] pos) (fun σ H Q => t σ H fun vs H1 => vs.length = n ∧ sp (vs ++ dvs) H1 Q E) := by
  refine ⟨fun pins s σ H Q I h => wpAny_Call_Name_kw (ld_glob I hgl hm ?_ hdb)⟩
  refine PySem.W.callWith_K (h₀ := X.base) I.ok.mod.kin hk ?_ he hpl
  refine thn (ha.run pos pins s σ H _ I h) ?_
  rintro us s1 ⟨vs, H1, I1, r, hn, q⟩
  exact ⟨I1.kIn, run_g (ws := []) (zs := []) F hr hg hb hd hx I1 r .nil (r.length.symm.trans hn) rfl q⟩
/-- f() -/
theorem pe_g0 (F : FnG X.prog X.w X.K X.mg X.base k f fd ps sp) (hr : Room k X.A) (hg : X.A.guards = some []) (hgl : Gl X x) (hm : X.mg x = some (.ref f)) (hk : PySem.W.keepIn X.K (.ref f) = true) (hb : BindG X.K fd ps 0 [] ds) (hd : Vals dvs ds)
    (hx : Passes (L2.CX X.prog X.w) X E) (hdb : (x == ("__debug__" : Str)) = false) : PE X (.Call (.Name x p) [] [] pos) (fun σ H Q => sp dvs H Q E) := by
  refine ⟨fun pins s σ H Q I h => wpAny_Call_Name_kw (ld_glob I hgl hm ?_ hdb)⟩
  exact PySem.W.callWith_K0 I.kIn hk (run_g (us := []) (ws := []) (vs := []) (zs := []) F hr hg hb hd hx I .nil .nil rfl rfl h)
/-- f(e, .., k = v, ..) -/
theorem pe_gk {e : Expr} {es : List Expr} {kws : List Keyword} {t tk : TA} (F : FnG X.prog X.w X.K X.mg X.base k f fd ps sp) (hr : Room k X.A) (hg : X.A.guards = some []) (hgl : Gl X x) (hm : X.mg x = some (.ref f)) (hk : PySem.W.keepIn X.K (.ref f) = true) (hb : BindG X.K fd ps n ks ds) (hd : Vals dvs ds)
    (hx : Passes (L2.CX X.prog X.w) X E) (ha : PA X (e :: es) t) (hkw : PK X kws tk) (hdb : (x == ("__debug__" : Str)) = false) (he : starEach (e :: es) X.env = (false, eval e X.env) :: starEach es X.env)
    (hall : (backToKw pos (keywordEach kws X.env)).all (·.1.isSome) = true) (hks : (backToKw pos (keywordEach kws X.env)).filterMap (·.1) = ks) (hpl : ((backTo pos (starEach (e :: es) X.env)).any (·.1) || (backToKw pos (keywordEach kws X.env)).any (·.1.isNone)) = false) :
    PE X (.Call (.Name x p) (e :: es) kws pos) (fun σ H Q => t σ H fun vs H1 => tk σ H1 fun zs H2 => vs.length = n ∧ zs.length = ks.length ∧ sp (vs ++ (zs ++ dvs)) H2 Q E) := by
  refine ⟨fun pins s σ H Q I h => wpAny_Call_Name_kw (ld_glob I hgl hm ?_ hdb)⟩
  refine PySem.W.callWith_KW (h₀ := X.base) I.ok.mod.kin hk hall ?_ hpl he
  refine thn (ha.run pos pins s σ H _ I h) ?_
  rintro us s1 ⟨vs, H1, I1, r, q⟩
  refine thn (hkw.run pos pins s1 σ H1 _ I1 q) ?_
  rintro ws s2 ⟨zs, H2, I2, rz, h1, h2, q2⟩
  refine ⟨I2.kIn, ?_⟩
  rw [hks]
  exact run_g F hr hg hb hd hx I2 r rz (r.length.symm.trans h1) (rz.length.symm.trans h2) q2
/-- f(k = v, ..) -/
theorem pe_gk0 {kws : List Keyword} {tk : TA} (F : FnG X.prog X.w X.K X.mg X.base k f fd ps sp) (hr : Room k X.A) (hg : X.A.guards = some []) (hgl : Gl X x) (hm : X.mg x = some (.ref f)) (hk : PySem.W.keepIn X.K (.ref f) = true) (hb : BindG X.K fd ps 0 ks ds) (hd : Vals dvs ds)
    (hx : Passes (L2.CX X.prog X.w) X E) (hkw : PK X kws tk) (hdb : (x == ("__debug__" : Str)) = false)
    (hall : (backToKw pos (keywordEach kws X.env)).all (·.1.isSome) = true) (hks : (backToKw pos (keywordEach kws X.env)).filterMap (·.1) = ks) (hpl : ((backTo pos (starEach [] X.env)).any (·.1) || (backToKw pos (keywordEach kws X.env)).any (·.1.isNone)) = false) :
    PE X (.Call (.Name x p) [] kws pos) (fun σ H Q => tk σ H fun zs H2 => zs.length = ks.length ∧ sp (zs ++ dvs) H2 Q E) := by
  refine ⟨fun pins s σ H Q I h => wpAny_Call_Name_kw (ld_glob I hgl hm ?_ hdb)⟩
  refine PySem.W.callWith_KW0 (h₀ := X.base) I.ok.mod.kin hk hall ?_ hpl
  refine thn (hkw.run pos pins s σ H _ I h) ?_
  rintro ws s2 ⟨zs, H2, I2, rz, h2, q2⟩
  refine ⟨I2.kIn, ?_⟩
  rw [hks]
  exact run_g (us := []) (vs := []) F hr hg hb hd hx I2 .nil rz rfl (rz.length.symm.trans h2) q2
end

/-! ### a def by its body -/
section
variable {P : Program} {w : World} {K : PySem.W.Frag} {mg : Str → Option Value} {base : Heap} {k : Nat} {f : Addr} {ps N : List Str} {sp : Sp} {scope : Scope} {body : List Stmt} {qual name : Str} {params : Arguments} {dV kV doc pm cdv ct oc : Value} {an od : Option Addr} {osl : Array (Option Value)}
theorem fn_g (lk : K.lookup f = some ⟨oc, od, .func (PySem.W.fnOf name qual params body scope dV kV doc pm an cdv ct), osl⟩) (hcd : PySem.W.codeIn K cdv qual = true) (S : FnScope N ps scope) (len : ∀ vs H Q E, sp vs H Q E → vs.length = ps.length)
    (hbody : ∀ (A : Around) (outer : List Env) (s : Shared) (H : Hp) (vs : List V) (Q : VK) (E : XK), (A.deeper (envOfC qual scope s.heap.objs.size f cdv)).guards = some [] → Room k (A.deeper (envOfC qual scope s.heap.objs.size f cdv)) → sp vs H Q E →
      ∃ t, PSs (cxOf (L2.CX P w) P w K mg base N qual scope f cdv A outer s H E) body t ∧ t { nx := fun _ H' => Q .non H', rt := Q } (start N vs) H) :
    FnG P w K mg base (k + 1) f (PySem.W.fnOf name qual params body scope dV kV doc pm an cdv ct) ps sp := by
  refine ⟨len, ?_⟩
  intro A outer s H args us vs Q E hg hr e0 hb r hsp
  have back : ∀ b o, base.get? b = some o → s.heap.get? b = some o := fun b o e => (e0.bs b o e).1
  have KX := e0.mod.kin.keeps back
  have cellish : ∀ y ∈ ps.zip us, scope.names.lookup y.1 = some .local ∨ (scope.names.lookup y.1 = some .cell ∧ ((cellsFrom (s.heap.objs.size + 1) scope.names []).lookup y.1).isSome = true) := by
    intro y hy
    refine (S.par y.1 (List.of_mem_zip (show (y.1, y.2) ∈ ps.zip us from hy)).1).imp id fun q => ⟨q, ?_⟩
    exact PySem.W.cellsFrom_some _ _ _ (.inl q)
  refine codeAny_call_function hr.depth (KX _ _ lk) rfl S.co S.gen rfl (PySem.W.codeRec_of KX hcd) (hb _ _ _ _ (wpAny_newFunctionEnv_cells S.kind cellish fun env he s1 x => ?_))
  subst he
  obtain ⟨t, ht, hq⟩ := hbody A outer s H vs Q E hg (hr.deeper _) hsp
  have I := inv_start (CX := L2.CX P w) (mg := mg) (E := E) (cd := cdv) (qual := qual) S hr.hd e0 (len _ _ _ _ hsp) r x
  refine ⟨(e0.mod.nolimit.keeps back).keeps x.toInCall.keep, codeAny_func (wpAny_mono (ht.run [] s1 (start N vs) H _ I hq) ?_ fun e s' hs => hs)⟩
  intro fl s' hs
  match fl, hs with
  | .ret u, ⟨v, σ', H', J, rv, q⟩ => exact ⟨v, H', J.os, J.bare, J.base, J.hok, rv, q⟩
  | .next, ⟨σ', H', J, q⟩ => exact ⟨.non, H', J.os, J.bare, J.base, J.hok, rfl, q⟩
  | .brk, ⟨_, _, _, q⟩ => exact q.elim
  | .cont, ⟨_, _, _, q⟩ => exact q.elim
end

/-! ### promises over data -/
inductive AV where
  | dat (d : D)
  | pot
  | scr (ns : List Int)
abbrev FSp := List AV → (D → Prop) → (Value → D → Prop) → Prop
inductive ArgsOk (K : PySem.W.Frag) (A P : Addr → Prop) (H : Hp) : List V → List AV → Prop
  | nil : ArgsOk K A P H [] []
  | dat {v : V} {d : D} {vs : List V} {as : List AV} : Rep K A H v d → ArgsOk K A P H vs as → ArgsOk K A P H (v :: vs) (.dat d :: as)
  | pot {a : Addr} {vs : List V} {as : List AV} : P a → ArgsOk K A P H vs as → ArgsOk K A P H (.ref a :: vs) (.pot :: as)
  | scr {a : Addr} {ns : List Int} {vs : List V} {as : List AV} : ScrAt K A H a ns → ArgsOk K A P H vs as → ArgsOk K A P H (.ref a :: vs) (.scr ns :: as)
theorem ArgsOk.length {K : PySem.W.Frag} {A P : Addr → Prop} {H : Hp} : ∀ {vs : List V} {as : List AV}, ArgsOk K A P H vs as → vs.length = as.length
  | _, _, .nil => rfl
  | _, _, .dat _ t => congrArg (· + 1) t.length
  | _, _, .pot _ t => congrArg (· + 1) t.length
  | _, _, .scr _ t => congrArg (· + 1) t.length
theorem ArgsOk.map {K : PySem.W.Frag} {A A' P : Addr → Prop} {H H' : Hp} (h : Kp A A' H H') : ∀ {vs : List V} {as : List AV}, ArgsOk K A P H vs as → ArgsOk K A' P H' vs as
  | _, _, .nil => .nil
  | _, _, .dat r t => .dat (r.map h) (t.map h)
  | _, _, .pot q t => .pot q (t.map h)
  | _, _, .scr q t => .scr (q.map h) (t.map h)
theorem ArgsOk.append {K : PySem.W.Frag} {A P : Addr → Prop} {H : Hp} : ∀ {vs us : List V} {as bs : List AV}, ArgsOk K A P H vs as → ArgsOk K A P H us bs → ArgsOk K A P H (vs ++ us) (as ++ bs)
  | _, _, _, _, .nil, s => s
  | _, _, _, _, .dat r t, s => .dat r (t.append s)
  | _, _, _, _, .pot q t, s => .pot q (t.append s)
  | _, _, _, _, .scr q t, s => .scr q (t.append s)
structure Entry (W : Wd) (K : PySem.W.Frag) (c : Nat) (H : Hp) : Prop where
  hK : W.K = K
  hH : W.H0 = H
  hc : W.c0 = c
  ok : W.Ok
  dom : ∀ a, W.A0 a → Sol H a
  pots : ∀ b, W.P b → PotAt W.n0 H b
  tabs : LamX.Tabs W.T H
def spD (K : PySem.W.Frag) (F : FSp) (c m : Nat) : Sp := fun vs H Q E => ∃ (W : Wd) (as : List AV) (Kd : D → Prop), Entry W K c H ∧ ArgsOk K W.A0 W.P H vs as ∧ as.length = m ∧ F as Kd W.E ∧ (∀ d v H', Kd d → Fin W c H' → Rep K W.A0 H' v d → Q v H') ∧
  ∀ C dd v d H', ExcK K C → W.E (.ref C) d → Fin W c H' → H' dd = some (.xd [("value", v)]) → H dd = none → Rep K W.A0 H' v d → E (.ref C) (some dd) H'
abbrev FnD (P : Program) (w : World) (K : PySem.W.Frag) (mg : Str → Option Value) (base : Heap) (k : Nat) (f : Addr) (fd : FuncData) (ps : List Str) (F : FSp) (c : Nat) : Prop := FnG P w K mg base k f fd ps (spD K F c ps.length)

abbrev TDA := DEnv → (List AV → Prop) → Prop
def liftA (W : Wd) (g : TDA) (c n : Nat) : TA := fun σ H Q => ∃ (k : Nat) (Δ : DEnv) (K : List AV → Prop), k + c ≤ W.c0 ∧ En W k σ H Δ ∧ g Δ K ∧ ∀ as vs H', K as → as.length = n → Chg W (k + c) H H' → ArgsOk W.K (AA W σ Δ) W.P H' vs as → Q vs H'
abbrev DAs (X : Cx) (W : Wd) (es : List Expr) (g : TDA) (c n : Nat) : Prop := PA X es (liftA W g c n)
abbrev DKw (X : Cx) (W : Wd) (es : List Keyword) (g : TDA) (c n : Nat) : Prop := PK X es (liftA W g c n)
theorem pk_imp {X : Cx} {e : List Keyword} {t t' : TA} (h : PK X e t) (i : ∀ σ H Q, t' σ H Q → t σ H Q) : PK X e t' := ⟨fun pos pins s σ H Q I q => h.run pos pins s σ H Q I (i σ H Q q)⟩
section
variable {X : Cx} {W : Wd} {N : List Str} {sc : Scope} {kk : Nat} {e a b : Expr} {es : List Expr} {kws : List Keyword} {c ca cb cc : Nat} {g ga gb gc : TDE} {pos p p2 : Pos} {k j : Nat} {σ : St} {Δ : DEnv} {H H' : Hp} {v : V} {d : D}
def gAn : TDA := fun _ K => K []
def gAd (ga : TDE) (gr : TDA) : TDA := fun Δ K => ga Δ fun x => gr Δ fun xs => K (.dat x :: xs)
def gAp (i : Nat) (gr : TDA) : TDA := fun Δ K => match nth Δ i with
  | .pot => gr Δ fun xs => K (.pot :: xs)
  | _ => False
theorem das_nil : DAs X W [] gAn 0 0 := pa_imp pa_nil fun σ H Q ⟨k, Δ, K, h1, h2, h3, h4⟩ => h4 [] [] H h3 rfl h2.refl .nil
theorem das_dat (C : Cxt X W N sc kk) {gr : TDA} (ha : DE X W e ga ca) (hr : DAs X W es gr cb j) (hs : starEach (e :: es) X.env = (false, eval e X.env) :: starEach es X.env := by rfl) : DAs X W (e :: es) (gAd ga gr) (ca + cb) (j + 1) :=
  pa_imp (pa_cons ha hr hs) fun σ H Q ⟨k, Δ, K, h1, h2, h3, h4⟩ => ⟨k, Δ, _, by omega, h2, h3, fun dx x H1 q1 c1 r1 =>
    ⟨k + ca, Δ, _, by omega, h2.chg C.ok c1, q1, fun ds vs H2 q2 l2 c2 r2 => h4 _ _ H2 q2 (congrArg (· + 1) l2) (chg3 c1 c2) (.dat (r1.map (c2.kpE C.ok)) r2)⟩⟩
theorem das_pot (C : Cxt X W N sc kk) {i : Nat} {x : Str} {gr : TDA} (hx : N[i]? = some x) (hv : Vis sc x) (hr : DAs X W es gr cb j) (hd : (x == ("__debug__" : Str)) = false := by decide +kernel) (hcd : (x == ("__classdict__" : Str)) = false := by decide +kernel)
    (hs : starEach ((.Name x pos) :: es) X.env = (false, eval (.Name x pos) X.env) :: starEach es X.env := by rfl) : DAs X W ((.Name x pos) :: es) (gAp i gr) cb (j + 1) :=
  pa_imp (pa_cons (pe_var (i := i) (by rw [C.hN]; exact hx) (by rw [C.hsc]; exact hv) hd hcd) hr hs) fun σ H Q ⟨k, Δ, K, h1, h2, h3, h4⟩ => by
    have s := h2.sl i
    unfold gAp at h3
    revert h3 s
    cases nth Δ i with
    | pot =>
      rintro h3 ⟨a, e, r⟩
      exact ⟨.ref a, e, k, Δ, _, h1, h2, h3, fun as vs H' q l c r' => h4 _ _ H' q (congrArg (· + 1) l) c (.pot r r')⟩
    | un => exact fun z => z.elim
    | dat d => exact fun z => z.elim
    | own ds => exact fun z => z.elim
    | scr ns => exact fun z => z.elim
def gAs (i : Nat) (gr : TDA) : TDA := fun Δ K => match nth Δ i with
  | .scr ns => gr Δ fun xs => K (.scr ns :: xs)
  | _ => False
theorem das_scr (C : Cxt X W N sc kk) {i : Nat} {x : Str} {gr : TDA} (hx : N[i]? = some x) (hv : Vis sc x) (hr : DAs X W es gr cb j) (hd : (x == ("__debug__" : Str)) = false := by decide +kernel) (hcd : (x == ("__classdict__" : Str)) = false := by decide +kernel)
    (hs : starEach ((.Name x pos) :: es) X.env = (false, eval (.Name x pos) X.env) :: starEach es X.env := by rfl) : DAs X W ((.Name x pos) :: es) (gAs i gr) cb (j + 1) :=
  pa_imp (pa_cons (pe_var (i := i) (by rw [C.hN]; exact hx) (by rw [C.hsc]; exact hv) hd hcd) hr hs) fun σ H Q ⟨k, Δ, K, h1, h2, h3, h4⟩ => by
    have s := h2.sl i
    unfold gAs at h3
    revert h3 s
    cases nth Δ i with
    | scr ns =>
      rintro h3 ⟨a, e, r⟩
      exact ⟨.ref a, e, k, Δ, _, h1, h2, h3, fun as vs H' q l c r' => h4 _ _ H' q (congrArg (· + 1) l) c (.scr (r.map (c.kpE C.ok)) r')⟩
    | un => exact fun z => z.elim
    | dat d => exact fun z => z.elim
    | own ds => exact fun z => z.elim
    | pot => exact fun z => z.elim
theorem dkw_nil : DKw X W [] gAn 0 0 := pk_imp pk_nil fun σ H Q ⟨k, Δ, K, h1, h2, h3, h4⟩ => h4 [] [] H h3 rfl h2.refl .nil
theorem dkw_dat (C : Cxt X W N sc kk) {gr : TDA} {nm : Option Str} (ha : DE X W e ga ca) (hr : DKw X W kws gr cb j) : DKw X W (⟨nm, e, p⟩ :: kws) (gAd ga gr) (ca + cb) (j + 1) :=
  pk_imp (pk_cons ha hr) fun σ H Q ⟨k, Δ, K, h1, h2, h3, h4⟩ => ⟨k, Δ, _, by omega, h2, h3, fun dx x H1 q1 c1 r1 =>
    ⟨k + ca, Δ, _, by omega, h2.chg C.ok c1, q1, fun ds vs H2 q2 l2 c2 r2 => h4 _ _ H2 q2 (congrArg (· + 1) l2) (chg3 c1 c2) (.dat (r1.map (c2.kpE C.ok)) r2)⟩⟩

/-- the callee's world, from the caller's -/
abbrev Wd.in (W : Wd) (k c : Nat) (σ : St) (Δ : DEnv) (H : Hp) : Wd := { K := W.K, A0 := AA W σ Δ, P := W.P, H0 := H, n0 := W.n0 + k, c0 := c, E := W.E, T := W.T }
theorem Fin.of_in (C : Cxt X W N sc kk) (en : En W k σ H Δ) (f : Fin (W.in k c σ Δ H) c H') : Chg W (k + c) H H' := ⟨fun b o e n => f.since b o e n, fun b p => by
  have := f.pots b p
  have e : W.n0 + k + c = W.n0 + (k + c) := by omega
  exact e ▸ this, f.tabs⟩
theorem sp_in (C : Cxt X W N sc kk) {F : FSp} {m : Nat} {as : List AV} {vs : List V} {K : D → Prop} {Q : VK} (h1 : k + c ≤ W.c0) (en : En W k σ H Δ) (r : ArgsOk W.K (AA W σ Δ) W.P H vs as) (hm : as.length = m) (hF : F as K W.E)
    (hQ : ∀ d v H', K d → Chg W (k + c) H H' → Rep W.K (AA W σ Δ) H' v d → Q v H') : spD X.K F c m vs H Q (EkOf W) := by
  refine ⟨W.in k c σ Δ H, as, K, ⟨C.hK, rfl, rfl, ⟨fun b p => vol_some en.fin.pots en.fin.tabs p, fun b p => .inl (C.ok.sub b p), (by have := C.ok.lim; show W.n0 + k + c ≤ LIM; omega), C.ok.tu, C.ok.tt⟩, en.domS, en.fin.pots, en.fin.tabs⟩, ?_, hm, hF, fun d v H' hd hf hr => ?_, fun cls dd v d H' hk hE hf hx hn hr => ?_⟩
  · rw [← C.hK]
    exact r
  · exact hQ d v H' hd (Fin.of_in C en hf) (by rw [C.hK]; exact hr)
  · exact ⟨cls, dd, v, d, rfl, (by rw [C.hK]; exact hk), rfl, hE, (en.fin.chg (Fin.of_in C en hf)).mono h1, hx, en.fin.free hn, by rw [C.hK]; exact hr.map (Kp.toA0 fun _ => .inl)⟩
def gFn (F : FSp) (E : Value → D → Prop) (dds : List AV) (ga : TDA) : TDE := fun Δ K => ga Δ fun as => F (as ++ dds) K E
def gFn2 (F : FSp) (E : Value → D → Prop) (dds : List AV) (ga gk : TDA) : TDE := fun Δ K => ga Δ fun as => gk Δ fun bs => F (as ++ (bs ++ dds)) K E
/-- what the defaults hold -/
structure Dfl (K : PySem.W.Frag) (dvs : List V) (ds : List Value) (dds : List AV) : Prop where
  vals : Vals dvs ds
  args : ∀ A P H, ArgsOk K A P H dvs dds
theorem Dfl.nil {K : PySem.W.Frag} : Dfl K [] [] [] := ⟨.nil, fun _ _ _ => .nil⟩
variable {f : Addr} {fd : FuncData} {ps ks : List Str} {F : FSp} {cF n kF : Nat} {ds : List Value} {dvs : List V} {dds : List AV} {x : Str} {gl gk : TDA}
theorem de_fn (C : Cxt X W N sc kk) {E : Value → D → Prop} (hE : W.E = E) (hF : FnD X.prog X.w X.K X.mg X.base kF f fd ps F cF) (hk : kF ≤ kk) (hg : sc.names.lookup x = some .globalImplicit) (hm : X.mg x = some (.ref f)) (hkp : PySem.W.keepIn X.K (.ref f) = true) (hb : BindG X.K fd ps n [] ds) (hd : Dfl X.K dvs ds dds) (ha : DAs X W (e :: es) gl c n) (hn : n + dds.length = ps.length)
    (hdb : (x == ("__debug__" : Str)) = false := by decide +kernel) (he : starEach (e :: es) X.env = (false, eval e X.env) :: starEach es X.env := by rfl) (hpl : (backTo pos (starEach es X.env)).any (·.1) = false := by rfl) :
    DE X W (.Call (.Name x p) (e :: es) [] pos) (gFn F E dds gl) (c + cF) := by
  subst hE
  exact pe_imp (pe_g (E := EkOf W) hF (C.hr.mono hk) C.gd (C.gl hg) hm hkp hb hd.vals C.px ha hdb he hpl) fun σ H Q ⟨k, Δ, K, h1, h2, h3, h4⟩ => ⟨k, Δ, _, by omega, h2, h3, fun as vs H1 q1 l1 c1 r1 => by
    have e1 := h2.chg C.ok c1
    refine ⟨r1.length.trans l1, sp_in C (k := k + c) (K := K) (by omega) e1 (r1.append (by rw [C.hK]; exact hd.args _ _ _)) (by rw [List.length_append, l1]; exact hn) q1 fun d v H' hd' hc' hr' => h4 d v H' hd' (chg3 c1 hc') hr'⟩⟩
theorem de_fn0 (C : Cxt X W N sc kk) {E : Value → D → Prop} (hE : W.E = E) (hF : FnD X.prog X.w X.K X.mg X.base kF f fd ps F cF) (hk : kF ≤ kk) (hg : sc.names.lookup x = some .globalImplicit) (hm : X.mg x = some (.ref f)) (hkp : PySem.W.keepIn X.K (.ref f) = true) (hb : BindG X.K fd ps 0 [] ds) (hd : Dfl X.K dvs ds dds) (hn : dds.length = ps.length)
    (hdb : (x == ("__debug__" : Str)) = false := by decide +kernel) : DE X W (.Call (.Name x p) [] [] pos) (gFn F E dds gAn) cF := by
  subst hE
  exact pe_imp (pe_g0 (E := EkOf W) hF (C.hr.mono hk) C.gd (C.gl hg) hm hkp hb hd.vals C.px hdb) fun σ H Q ⟨k, Δ, K, h1, h2, h3, h4⟩ => sp_in C (k := k) (K := K) h1 h2 (by rw [C.hK]; exact hd.args _ _ _) hn h3 h4
theorem de_fnk0 (C : Cxt X W N sc kk) {E : Value → D → Prop} (hE : W.E = E) (hF : FnD X.prog X.w X.K X.mg X.base kF f fd ps F cF) (hk : kF ≤ kk) (hg : sc.names.lookup x = some .globalImplicit) (hm : X.mg x = some (.ref f)) (hkp : PySem.W.keepIn X.K (.ref f) = true) (hb : BindG X.K fd ps 0 ks ds) (hd : Dfl X.K dvs ds dds) (ha : DKw X W kws gk c ks.length) (hn : ks.length + dds.length = ps.length)
    (hdb : (x == ("__debug__" : Str)) = false := by decide +kernel)
    (hall : (backToKw pos (keywordEach kws X.env)).all (·.1.isSome) = true := by rfl) (hks : (backToKw pos (keywordEach kws X.env)).filterMap (·.1) = ks := by rfl) (hpl : ((backTo pos (starEach [] X.env)).any (·.1) || (backToKw pos (keywordEach kws X.env)).any (·.1.isNone)) = false := by rfl) :
    DE X W (.Call (.Name x p) [] kws pos) (gFn F E dds gk) (c + cF) := by
  subst hE
  exact pe_imp (pe_gk0 (E := EkOf W) hF (C.hr.mono hk) C.gd (C.gl hg) hm hkp hb hd.vals C.px ha hdb hall hks hpl) fun σ H Q ⟨k, Δ, K, h1, h2, h3, h4⟩ => ⟨k, Δ, _, by omega, h2, h3, fun as vs H1 q1 l1 c1 r1 => by
    have e1 := h2.chg C.ok c1
    refine ⟨r1.length.trans l1, sp_in C (k := k + c) (K := K) (by omega) e1 (r1.append (by rw [C.hK]; exact hd.args _ _ _)) (by rw [List.length_append, l1]; exact hn) q1 fun d v H' hd' hc' hr' => h4 d v H' hd' (chg3 c1 hc') hr'⟩⟩
theorem de_fnk (C : Cxt X W N sc kk) {E : Value → D → Prop} (hE : W.E = E) (hF : FnD X.prog X.w X.K X.mg X.base kF f fd ps F cF) (hk : kF ≤ kk) (hg : sc.names.lookup x = some .globalImplicit) (hm : X.mg x = some (.ref f)) (hkp : PySem.W.keepIn X.K (.ref f) = true) (hb : BindG X.K fd ps n ks ds) (hd : Dfl X.K dvs ds dds) (ha : DAs X W (e :: es) gl ca n) (hkw : DKw X W kws gk cb ks.length) (hn : n + (ks.length + dds.length) = ps.length)
    (hdb : (x == ("__debug__" : Str)) = false := by decide +kernel) (he : starEach (e :: es) X.env = (false, eval e X.env) :: starEach es X.env := by rfl)
    (hall : (backToKw pos (keywordEach kws X.env)).all (·.1.isSome) = true := by rfl) (hks : (backToKw pos (keywordEach kws X.env)).filterMap (·.1) = ks := by rfl) (hpl : ((backTo pos (starEach (e :: es) X.env)).any (·.1) || (backToKw pos (keywordEach kws X.env)).any (·.1.isNone)) = false := by rfl) :
    DE X W (.Call (.Name x p) (e :: es) kws pos) (gFn2 F E dds gl gk) (ca + cb + cF) := by
  subst hE
  exact pe_imp (pe_gk (E := EkOf W) hF (C.hr.mono hk) C.gd (C.gl hg) hm hkp hb hd.vals C.px ha hkw hdb he hall hks hpl) fun σ H Q ⟨k, Δ, K, h1, h2, h3, h4⟩ => ⟨k, Δ, _, by omega, h2, h3, fun as vs H1 q1 l1 c1 r1 => by
    have e1 := h2.chg C.ok c1
    refine ⟨k + ca, Δ, _, by omega, e1, q1, fun bs ws H2 q2 l2 c2 r2 => ?_⟩
    have e2 := e1.chg C.ok c2
    refine ⟨r1.length.trans l1, r2.length.trans l2, sp_in C (k := k + ca + cb) (K := K) (by omega) e2 ((r1.map (c2.kpE C.ok)).append (r2.append (by rw [C.hK]; exact hd.args _ _ _))) (by rw [List.length_append, List.length_append, l1, l2]; exact hn) q2 fun d v H' hd' hc' hr' => ?_⟩
    have e : k + ca + cb + cF = k + (ca + cb + cF) := by omega
    exact h4 d v H' hd' (c1.trans (c2.trans (e ▸ hc'))) hr'⟩
end

/-! ### THE RULE: a def over data by its body -/
/-- the slots at the entry -/
def startD : List Str → List AV → DEnv
  | [], _ => []
  | _ :: N, [] => .un :: startD N []
  | _ :: N, .dat d :: as => .dat d :: startD N as
  | _ :: N, .pot :: as => .pot :: startD N as
  | _ :: N, .scr ns :: as => .scr ns :: startD N as
theorem startD_len : ∀ (N : List Str) (as : List AV), (startD N as).length = N.length
  | [], _ => rfl
  | _ :: N, [] => congrArg (· + 1) (startD_len N [])
  | _ :: N, .dat _ :: as => congrArg (· + 1) (startD_len N as)
  | _ :: N, .pot :: as => congrArg (· + 1) (startD_len N as)
  | _ :: N, .scr _ :: as => congrArg (· + 1) (startD_len N as)
theorem startD_own : ∀ (N : List Str) (as : List AV) (i : Nat) (ds : List D), nth (startD N as) i ≠ .own ds
  | [], _, _, _ => fun h => by cases h
  | _ :: N, [], 0, _ => fun h => by cases h
  | _ :: N, [], i + 1, ds => startD_own N [] i ds
  | _ :: N, .dat _ :: as, 0, _ => fun h => by cases h
  | _ :: N, .pot :: as, 0, _ => fun h => by cases h
  | _ :: N, .scr _ :: as, 0, _ => fun h => by cases h
  | _ :: N, .dat _ :: as, i + 1, ds => startD_own N as i ds
  | _ :: N, .pot :: as, i + 1, ds => startD_own N as i ds
  | _ :: N, .scr _ :: as, i + 1, ds => startD_own N as i ds
theorem start_cons {x : Str} {N : List Str} {v : V} {vs : List V} : L2.start (x :: N) (v :: vs) = some v :: L2.start N vs := by
  unfold L2.start
  simp
theorem start_nil {x : Str} {N : List Str} : L2.start (x :: N) [] = none :: L2.start N [] := by
  unfold L2.start
  simp [List.replicate_succ]
theorem startD_ok {W : Wd} {A : Addr → Prop} {H : Hp} : ∀ (N : List Str) {vs : List V} {as : List AV} (i : Nat), ArgsOk W.K A W.P H vs as → SlotOk W (L2.start N vs) A H i (nth (startD N as) i)
  | [], _, _, _, _ => trivial
  | _ :: N, _, _, 0, .nil => trivial
  | _ :: N, _, _, i + 1, .nil => by
    rw [start_nil]
    have h := startD_ok (W := W) (A := A) (H := H) N (vs := []) (as := []) i .nil
    show SlotOk W _ A H (i + 1) (nth (startD N []) i)
    revert h
    cases nth (startD N []) i <;> exact fun h => h
  | x :: N, _, _, 0, .dat (v := v) (vs := vs) r _ => by
    rw [start_cons]
    exact ⟨v, rfl, r⟩
  | x :: N, _, _, 0, .pot (a := a) q _ => by
    rw [start_cons]
    exact ⟨a, rfl, q⟩
  | x :: N, _, _, 0, .scr (a := a) q _ => by
    rw [start_cons]
    exact ⟨a, rfl, q⟩
  | x :: N, _, _, i + 1, .dat (vs := vs) (as := as) _ t => by
    rw [start_cons]
    have h := startD_ok N i t
    show SlotOk W _ A H (i + 1) (nth (startD N as) i)
    revert h
    cases nth (startD N as) i <;> exact fun h => h
  | x :: N, _, _, i + 1, .scr (vs := vs) (as := as) _ t => by
    rw [start_cons]
    have h := startD_ok N i t
    show SlotOk W _ A H (i + 1) (nth (startD N as) i)
    revert h
    cases nth (startD N as) i <;> exact fun h => h
  | x :: N, _, _, i + 1, .pot (vs := vs) (as := as) _ t => by
    rw [start_cons]
    have h := startD_ok N i t
    show SlotOk W _ A H (i + 1) (nth (startD N as) i)
    revert h
    cases nth (startD N as) i <;> exact fun h => h
section
variable {P : Program} {w : World} {K : PySem.W.Frag} {mg : Str → Option Value} {base : Heap} {k c cb : Nat} {f : Addr} {ps N : List Str} {F : FSp} {scope : Scope} {body : List Stmt} {qual name : Str} {params : Arguments} {dV kV doc pm cdv ct oc : Value} {an od : Option Addr} {osl : Array (Option Value)}
theorem fnd_of (lk : K.lookup f = some ⟨oc, od, .func (PySem.W.fnOf name qual params body scope dV kV doc pm an cdv ct), osl⟩) (hcd : PySem.W.codeIn K cdv qual = true) (S : FnScope N ps scope) {g : (Value → D → Prop) → TDS} (hcb : cb ≤ c) (hpn : ps.length ≤ N.length)
    (hbody : ∀ (X : Cx) (W : Wd) (E : Value → D → Prop), W.E = E → X.prog = P → X.w = w → X.K = K → X.mg = mg → X.base = base → (∀ x, X.fn x = true) → Cxt X W N scope k → DSs X W body (g E) cb)
    (vc : ∀ as Kd E, as.length = ps.length → F as Kd E → g E { nx := fun _ => Kd .none, rt := Kd } (startD N as)) :
    FnD P w K mg base (k + 1) f (PySem.W.fnOf name qual params body scope dV kV doc pm an cdv ct) ps F c := by
  refine fn_g lk hcd S (fun vs H Q E ⟨W, as, Kd, _, r, hl, _⟩ => r.length.trans hl) fun A outer s H vs Q E hg hr ⟨W, as, Kd, en, r, hl, hF, hQ, hE⟩ => ?_
  obtain ⟨hK, hH, hc, ok, dom, pots, tabs⟩ := en
  subst hK
  refine ⟨_, hbody (cxOf (L2.CX P w) P w W.K mg base N qual scope f cdv A outer s H E) W W.E rfl rfl rfl rfl rfl rfl (fun _ => rfl) ⟨rfl, rfl, S.nd, hr, hg, rfl, rfl, ok, ?_, ?_⟩, ?_⟩
  · refine (takes_of (E := E) rfl rfl rfl rfl).imp fun cls d σ H' h => ?_
    obtain ⟨C, dd, v, d', rfl, hk, rfl, h1, h2, h3, h4, h5⟩ := h
    exact hE C dd v d' H' hk h1 (hc ▸ h2) h3 (hH ▸ h4) h5
  · exact passes_of rfl
  · refine ⟨0, startD N as, _, by omega, ?_, vc as Kd W.E hl hF, ⟨fun Δ' σ' H' q e kp => ?_, fun d v H' q fin rr => ?_, fun _ _ _ q => q.elim, fun _ _ _ q => q.elim⟩⟩
    · refine ⟨?_, fun i => SlotOk.mono (A := W.A0) (fun a q => ?_) (startD_ok N i r), fun i j ds es a h1 => absurd h1 (startD_own N as i ds), ⟨fun b o e _ => hH ▸ e, fun b p => (pots b p).mono (by omega), tabs⟩, dom⟩
      · rw [startD_len]
        unfold L2.start
        rw [List.length_append, List.length_map, List.length_replicate]
        have h := r.length
        omega
      · exact q.elim id fun ⟨i, ds, h1, _⟩ => absurd h1 (startD_own N as i ds)
    · exact hQ .none .non H' q (e.fin.mono (by omega)) .non
    · exact hQ d v H' q (fin.mono (by omega)) rr
end
end DL
/-! DLLoop: assignments, lists of the def's own, for, while, comprehensions. -/
namespace DL
open PySem PySem.Spec PyProof.Rows L2
variable [Lams]
section
variable {X : Cx} {W : Wd} {N : List Str} {sc : Scope} {kk : Nat} {e a b : Expr} {es : List Expr} {c ca cb cc ct ci : Nat} {g ga gb gc : TDE} {pos p p2 : Pos} {k j : Nat} {σ : St} {Δ : DEnv} {H H' : Hp} {v : V} {d : D}
theorem kp_chg_set (C : Cxt X W N sc kk) {i : Nat} {s : Sv} {x : Option V} (c : Chg W j H H') (hs : ∀ ds, s ≠ .own ds) : Kp (AA W σ Δ) (AA W (σ.set i x) (Δ.set i s)) H H' := (c.kpE C.ok).trans (kp_set hs)

/-! ### targets -/
abbrev TDG := D → DEnv → (DEnv → Prop) → Prop
/-- but for the slots ts all is as it was -/
structure But (ts : List Nat) (σ σ' : St) (Δ Δ' : DEnv) : Prop where
  len : σ'.length = σ.length
  st : ∀ j, j ∉ ts → σ'[j]? = σ[j]?
  sv : ∀ j, j ∉ ts → nth Δ' j = nth Δ j
def liftG (W : Wd) (g : TDG) (ts : List Nat) : TG := fun v σ H Q => ∃ (k : Nat) (Δ : DEnv) (d : D) (K : DEnv → Prop), En W k σ H Δ ∧ Rep W.K (AA W σ Δ) H v d ∧ g d Δ K ∧ ∀ Δ' σ', K Δ' → En W k σ' H Δ' → Kp (AA W σ Δ) (AA W σ' Δ') H H → But ts σ σ' Δ Δ' → Q σ' H
def liftGs (W : Wd) (g : List D → DEnv → (DEnv → Prop) → Prop) (ts : List Nat) : TGs := fun vs σ H Q => ∃ (k : Nat) (Δ : DEnv) (ds : List D) (K : DEnv → Prop), En W k σ H Δ ∧ RepAll W.K (AA W σ Δ) H vs ds ∧ g ds Δ K ∧ ∀ Δ' σ', K Δ' → En W k σ' H Δ' → Kp (AA W σ Δ) (AA W σ' Δ') H H → But ts σ σ' Δ Δ' → Q σ' H
abbrev DG (X : Cx) (W : Wd) (e : Expr) (g : TDG) (ts : List Nat) : Prop := PG X e (liftG W g ts)
abbrev DGs (X : Cx) (W : Wd) (es : List Expr) (g : List D → DEnv → (DEnv → Prop) → Prop) (ts : List Nat) : Prop := PGs X es (liftGs W g ts)
theorem But.refl {ts : List Nat} : But ts σ σ Δ Δ := ⟨rfl, fun _ _ => rfl, fun _ _ => rfl⟩
theorem But.trans {ts us : List Nat} {σ' σ'' : St} {Δ' Δ'' : DEnv} (a : But ts σ σ' Δ Δ') (b : But us σ' σ'' Δ' Δ'') : But (ts ++ us) σ σ'' Δ Δ'' :=
  ⟨b.len.trans a.len, fun j h => (b.st j fun q => h (List.mem_append_right _ q)).trans (a.st j fun q => h (List.mem_append_left _ q)), fun j h => (b.sv j fun q => h (List.mem_append_right _ q)).trans (a.sv j fun q => h (List.mem_append_left _ q))⟩
theorem pg_imp {e : Expr} {t t' : TG} (h : PG X e t) (i : ∀ v σ H Q, t' v σ H Q → t v σ H Q) : PG X e t' := ⟨fun pins s σ H v u Q I r q => h.run pins s σ H v u Q I r (i v σ H Q q)⟩
theorem pgs_imp {e : List Expr} {t t' : TGs} (h : PGs X e t) (i : ∀ v σ H Q, t' v σ H Q → t v σ H Q) : PGs X e t' := ⟨fun pins s σ H v u Q I r q => h.run pins s σ H v u Q I r (i v σ H Q q)⟩
def gTo (i : Nat) : TDG := fun d Δ K => K (Δ.set i (.dat d))
theorem dg_name (C : Cxt X W N sc kk) {i : Nat} {x : Str} (hx : N[i]? = some x) (hl : Loc sc x) (hf : X.fn x = true ∨ sc.names.lookup x = some .local) : DG X W (.Name x pos) (gTo i) [i] :=
  pg_imp (pg_name (i := i) (by rw [C.hN]; exact C.nd) (by rw [C.hN]; exact hx) (by rw [C.hsc]; exact hl) (by rw [C.hsc]; exact hf)) fun v σ H Q ⟨k, Δ, d, K, h1, h2, h3, h4⟩ => h4 _ _ h3 (h1.dat h2) (kp_set fun _ z => by cases z) ⟨by rw [List.length_set], fun j h => List.getElem?_set_ne fun z => h (by rw [z]; exact List.mem_singleton_self _), fun j h => nth_set_ne fun z => h (by rw [z]; exact List.mem_singleton_self _)⟩
def gTo0 : List D → DEnv → (DEnv → Prop) → Prop := fun ds Δ K => match ds with
  | [] => K Δ
  | _ => False
def gToC (g : TDG) (r : List D → DEnv → (DEnv → Prop) → Prop) : List D → DEnv → (DEnv → Prop) → Prop := fun ds Δ K => match ds with
  | d :: ds => g d Δ fun Δ' => r ds Δ' K
  | [] => False
theorem dgs_nil : DGs X W [] gTo0 [] := pgs_imp pgs_nil fun vs σ H Q ⟨k, Δ, ds, K, h1, h2, h3, h4⟩ => by
  cases h2 with
  | nil => exact ⟨rfl, h4 _ _ h3 h1 Kp.refl But.refl⟩
  | cons _ _ => exact (show False from h3).elim
theorem dgs_cons {g : TDG} {r : List D → DEnv → (DEnv → Prop) → Prop} {ts us : List Nat} (h1 : DG X W e g ts) (h2 : DGs X W es r us) (hs : (assignEach (e :: es) X.env).map (·.2) = assign e X.env :: (assignEach es X.env).map (·.2) := by rfl) : DGs X W (e :: es) (gToC g r) (ts ++ us) :=
  pgs_imp (pgs_cons h1 h2 hs) fun vs σ H Q ⟨k, Δ, ds, K, q1, q2, q3, q4⟩ => by
    cases q2 with
    | nil => exact (show False from q3).elim
    | cons r1 rr => exact ⟨_, _, rfl, k, Δ, _, _, q1, r1, q3, fun Δ' σ' z e kp bt => ⟨k, Δ', _, K, e, rr.map kp, z, fun Δ2 σ2 z2 e2 kp2 bt2 => q4 Δ2 σ2 z2 e2 (kp.trans kp2) (bt.trans bt2)⟩⟩
/-- a, b = a tuple of so many -/
def gToT (n : Nat) (r : List D → DEnv → (DEnv → Prop) → Prop) : TDG := fun d Δ K => match d with
  | .tuple ds => ds.length = n ∧ r ds Δ K
  | _ => False
theorem dg_tup (C : Cxt X W N sc kk) {j n : Nat} {r : List D → DEnv → (DEnv → Prop) → Prop} {ts : List Nat} (h : DGs X W es r ts) (hn : (assignEach es X.env).length = n := by rfl) (hst : (assignEach es X.env).findIdx? (·.1) = none := by rfl) : DG X W (.Tuple es j pos) (gToT n r) ts :=
  pg_imp (pg_tup C.calm h hn hst) fun v σ H Q ⟨k, Δ, d, K, h1, h2, h3, h4⟩ => by
    cases h2 with
    | tup s z rr => exact ⟨_, _, rfl, by rw [← C.hK]; exact sqT s, rr.length.trans h3.1, k, Δ, _, K, h1, rr, h3.2, h4⟩
    | _ => exact (show False from h3).elim

/-! ### assignments -/
def gAsg (g : TDE) (t : TDG) : TDS := fun D Δ => g Δ fun d => t d Δ D.nx
theorem asg_use (C : Cxt X W N sc kk) {t : TDG} {ts : List Nat} : ∀ E σ H, liftS W (gAsg g t) c E σ H → tAsg (lift W g c) (liftG W t ts) E σ H := fun E σ H ⟨k, Δ, D2, h1, h2, h3, h4⟩ =>
  ⟨k, Δ, _, h1, h2, h3, fun d v H' q c r => ⟨_, Δ, d, D2.nx, h2.chg C.ok c, r, q, fun Δ' σ' q2 e kp _ => h4.nx Δ' σ' H' q2 e ((c.kpE C.ok).trans kp)⟩⟩
theorem ds_asg (C : Cxt X W N sc kk) {tg : Expr} {t : TDG} {ts : List Nat} (he : DE X W e g c) (hg : DG X W tg t ts) (hs : swapsWithSole [tg] e pos.line X.env = pure false := by rfl) (hw : swappedStores [tg] e X.env = pure none := by rfl) (h1 : (assignEach [tg] X.env).map (·.2) = [assign tg X.env] := by rfl) :
    DS X W (.Assign [tg] e pos) (gAsg g t) c := ps_imp (ps_asg he hg hs hw h1) (asg_use C)
def gSet (i : Nat) (g : TDE) : TDS := fun D Δ => g Δ fun d => D.nx (Δ.set i (.dat d))
theorem ds_set (C : Cxt X W N sc kk) {i : Nat} {x : Str} (hx : N[i]? = some x) (hl : Loc sc x) (hf : X.fn x = true ∨ sc.names.lookup x = some .local) (he : DE X W e g c) (hs : swapsWith e (some (.Name x p)) pos.line X.env = pure false := by rfl) : DS X W (.Assign [.Name x p] e pos) (gSet i g) c :=
  ps_imp (ps_set (i := i) (by rw [C.hN]; exact C.nd) (by rw [C.hN]; exact hx) (by rw [C.hsc]; exact hl) he hs (by rw [C.hsc]; exact hf)) fun E σ H ⟨k, Δ, D2, h1, h2, h3, h4⟩ =>
    ⟨k, Δ, _, h1, h2, h3, fun d v H' q c r => h4.nx _ _ _ q ((h2.chg C.ok c).dat r) (kp_chg_set C c fun _ z => by cases z)⟩
/-- x = a new list that the def changes later -/
def gSetF (i : Nat) (g : TDL) : TDS := fun D Δ => g Δ fun ds => i < Δ.length ∧ D.nx (Δ.set i (.own ds))
theorem ds_setF (C : Cxt X W N sc kk) {g : TDL} {i : Nat} {x : Str} (hx : N[i]? = some x) (hl : Loc sc x) (hf : X.fn x = true ∨ sc.names.lookup x = some .local) (he : DF X W e g c) (hs : swapsWith e (some (.Name x p)) pos.line X.env = pure false := by rfl) : DS X W (.Assign [.Name x p] e pos) (gSetF i g) c :=
  ps_imp (ps_set (i := i) (by rw [C.hN]; exact C.nd) (by rw [C.hN]; exact hx) (by rw [C.hsc]; exact hl) he hs (by rw [C.hsc]; exact hf)) fun E σ H ⟨k, Δ, D2, h1, h2, h3, h4⟩ =>
    ⟨k, Δ, _, h1, h2, h3, fun ds a xs H' ⟨li, q⟩ c hn ha hz r => by
      obtain ⟨e2, kp⟩ := h2.own (i := i) (by rw [← h2.len]; exact li) c hn ha hz r C.ok
      exact h4.nx _ _ _ q e2 kp⟩
/-- a, b = x, y: stored from the right, both after both are reckoned -/
def gPar (i j : Nat) (g : TDL) : TDS := fun D Δ => g Δ fun ds => match ds with
  | [d, e] => D.nx ((Δ.set i (.dat d)).set j (.dat e))
  | _ => False
theorem ds_par (C : Cxt X W N sc kk) {g : TDL} {i j : Nat} {x y : Str} {px py pt : Pos} {kt k2 pt2} (hx : N[i]? = some x) (hy : N[j]? = some y) (hij : i ≠ j) (lx : sc.names.lookup x = some .local) (ly : sc.names.lookup y = some .local) (ha : DA X W [a, b] g c)
    (hw : swappedStores [.Tuple [.Name x px, .Name y py] kt pt] (.Tuple [a, b] k2 pt2) X.env = pure (some [x, y]))
    (hs : swapsWithSole [.Tuple [.Name x px, .Name y py] kt pt] (.Tuple [a, b] k2 pt2) pos.line X.env = pure false := by rfl) : DS X W (.Assign [.Tuple [.Name x px, .Name y py] kt pt] (.Tuple [a, b] k2 pt2) pos) (gPar i j g) c :=
  ps_imp (ps_par C.calm (by rw [C.hN]; exact C.nd) (by rw [C.hN]; exact hx) (by rw [C.hN]; exact hy) hij (by rw [C.hsc]; exact lx) (by rw [C.hsc]; exact ly) ha hw hs) fun E σ H ⟨k, Δ, D2, h1, h2, h3, h4⟩ =>
    ⟨k, Δ, _, h1, h2, h3, fun ds vs H' q c r => by
      match ds, vs, r, q with
      | [d1, d2], [v1, v2], .cons r1 (.cons r2 .nil), q =>
        have s1 := (h2.chg C.ok c).dat (i := i) r1
        have s2 := s1.dat (i := j) (r2.map (kp_set (σ := σ) (Δ := Δ) (i := i) (x := some v1) (s := .dat d1) fun _ z => by cases z))
        exact ⟨v1, v2, rfl, h4.nx _ _ _ q s2 ((kp_chg_set C c fun _ z => by cases z).trans (kp_set fun _ z => by cases z))⟩⟩

/-! ### lists of the def's own -/
/-- from here on the list is data -/
def frz (i : Nat) (Δ : DEnv) : DEnv := match nth Δ i with
  | .own ds => Δ.set i (.dat (.list ds))
  | _ => Δ
theorem En.frz (en : En W k σ H Δ) (i : Nat) : En W k σ H (frz i Δ) ∧ Kp (AA W σ Δ) (AA W σ (DL.frz i Δ)) H H := by
  unfold DL.frz
  cases hn : nth Δ i with
  | own ds =>
    have s := en.sl i
    rw [hn] at s
    obtain ⟨a, xs, e1, e2, r, e3, e4, z⟩ := s
    have li : i < Δ.length := nth_lt (by rw [hn]; simp)
    have self : σ.set i (some (.ref a)) = σ := by
      obtain ⟨hl, hg⟩ := List.getElem?_eq_some_iff.mp e1
      rw [← hg]
      exact List.set_getElem_self hl
    have kp : Kp (AA W σ Δ) (AA W σ (Δ.set i (.dat (.list ds)))) H H := by
      have h := kp_set (W := W) (σ := σ) (Δ := Δ) (H := H) (i := i) (s := .dat (.list ds)) (x := some (.ref a)) fun _ z => by cases z
      rw [self] at h
      exact h
    have na : ¬ AA W σ (Δ.set i (.dat (.list ds))) a := by
      rintro (q | ⟨l, es, h1, h2⟩)
      · exact e4 q
      · by_cases e : l = i
        · rw [e, nth_set_self li] at h1
          cases h1
        · rw [nth_set_ne e] at h1
          exact e (en.uniq l i es ds a h1 hn h2 e1)
    refine ⟨?_, kp⟩
    refine ⟨by rw [List.length_set]; exact en.len, fun l => ?_, fun j1 j2 d1 d2 b h1 h2 h3 h4 => ?_, en.fin, en.dom0⟩
    · by_cases e : l = i
      · rw [e, nth_set_self li]
        exact ⟨.ref a, e1, .lst e2 na z (r.map kp)⟩
      · rw [nth_set_ne e]
        exact SlotOk.mono (fun b q => by
          have := aa_set (W := W) (σ := σ) (Δ := Δ) (i := i) (s := .dat (.list ds)) (x := some (.ref a)) (a := b) (fun _ z => by cases z)
          rw [self] at this
          exact this q) (en.sl l)
    · have f : ∀ {j : Nat} {es : List D}, nth (Δ.set i (.dat (.list ds))) j = .own es → nth Δ j = .own es := fun {j es} h => by
        by_cases e : j = i
        · rw [e, nth_set_self li] at h
          cases h
        · rw [nth_set_ne e] at h
          exact h
      exact en.uniq j1 j2 d1 d2 b (f h1) (f h2) h3 h4
  | un => exact ⟨en, Kp.refl⟩
  | dat d => exact ⟨en, Kp.refl⟩
  | scr ns => exact ⟨en, Kp.refl⟩
  | pot => exact ⟨en, Kp.refl⟩
def gFrz (i : Nat) (g : TDS) : TDS := fun D Δ => g D (frz i Δ)
theorem dss_frz {r : List Stmt} {g : TDS} (i : Nat) (h : DSs X W r g c) : DSs X W r (gFrz i g) c := pss_imp h fun E σ H ⟨k, Δ, D2, h1, h2, h3, h4⟩ => ⟨k, frz i Δ, D2, h1, (h2.frz i).1, h3, h4.step (h2.frz i).2⟩
theorem ds_frz {r : Stmt} {g : TDS} (i : Nat) (h : DS X W r g c) : DS X W r (gFrz i g) c := ps_imp h fun E σ H ⟨k, Δ, D2, h1, h2, h3, h4⟩ => ⟨k, frz i Δ, D2, h1, (h2.frz i).1, h3, h4.step (h2.frz i).2⟩

/-- the list of the def's own at slot i becomes ds -/
theorem En.change (ok : W.Ok) (en : En W k σ H Δ) {i : Nat} {a : Addr} {es ds : List D} {ys : List V} (hi : nth Δ i = .own es) (ha : σ[i]? = some (some (.ref a))) (r : RepAll W.K (AA W σ Δ) H ys ds) (hz : ds.length ≤ sizeLine) :
    En W k σ (upd H a (.lst ys)) (Δ.set i (.own ds)) ∧ Kp (AA W σ Δ) (AA W σ (Δ.set i (.own ds))) H (upd H a (.lst ys)) := by
  have li : i < Δ.length := nth_lt (by rw [hi]; simp)
  have sx := en.sl i
  rw [hi] at sx
  obtain ⟨a0, xs, e1, e2, r0, e3, e4, z0⟩ := sx
  rw [ha] at e1
  cases e1
  have same : ∀ b, AA W σ (Δ.set i (.own ds)) b → AA W σ Δ b := fun b q => q.elim .inl fun ⟨l, fs, h1, h2⟩ => by
    by_cases e : l = i
    · rw [e] at h2
      exact .inr ⟨i, es, hi, h2⟩
    · rw [nth_set_ne e] at h1
      exact .inr ⟨l, fs, h1, h2⟩
  have inA : AA W σ Δ a := .inr ⟨i, es, hi, ha⟩
  have kp : Kp (AA W σ Δ) (AA W σ (Δ.set i (.own ds))) H (upd H a (.lst ys)) := fun b o e n => ⟨by rw [upd_ne (show b ≠ a from fun z => n (by rw [z]; exact inA))]; exact e, fun q => n (same b q)⟩
  have nP : ¬ W.vol a := fun q => ok.pdom a q e3
  refine ⟨⟨by rw [List.length_set]; exact en.len, fun l => ?_, fun j1 j2 d1 d2 b h1 h2 h3 h4 => ?_, ⟨fun b o e n => ?_, fun b q => ?_, ?_⟩, fun b q => ?_⟩, kp⟩
  · by_cases e : l = i
    · rw [e, nth_set_self li]
      exact ⟨a, ys, ha, upd_same, r.map kp, e3, e4, hz⟩
    · rw [nth_set_ne e]
      have s := en.sl l
      revert s
      cases h : nth Δ l with
      | un => exact fun _ => trivial
      | dat d =>
        rintro ⟨v, g1, g2⟩
        exact ⟨v, g1, g2.map kp⟩
      | scr ns =>
        rintro ⟨v, g1, g2⟩
        exact ⟨v, g1, g2.map kp⟩
      | pot => exact fun s => s
      | own fs =>
        rintro ⟨b, zs, g1, g2, g3, g4⟩
        have nb : b ≠ a := fun z => e (en.uniq l i fs es a h hi (z ▸ g1) ha)
        exact ⟨b, zs, g1, by rw [upd_ne nb]; exact g2, g3.map kp, g4⟩
  · have f : ∀ {j : Nat} {fs : List D}, nth (Δ.set i (.own ds)) j = .own fs → ∃ gs, nth Δ j = .own gs := fun {j fs} h => by
      by_cases e : j = i
      · rw [e]
        exact ⟨es, hi⟩
      · rw [nth_set_ne e] at h
        exact ⟨fs, h⟩
    obtain ⟨g1, q1⟩ := f h1
    obtain ⟨g2, q2⟩ := f h2
    exact en.uniq j1 j2 g1 g2 b q1 q2 h3 h4
  · rw [upd_ne fun z => by rw [z, e3] at e; cases e]
    exact en.fin.since b o e n
  · obtain ⟨x, y, z, e, rest⟩ := en.fin.pots b q
    exact ⟨x, y, z, by rw [upd_ne (show b ≠ a from fun z => nP (.inl (by rw [← z]; exact q)))]; exact e, rest⟩
  · exact tabs_upd en.fin.tabs (fun p hp z => nP (.inr ⟨p.2, by rw [← z]; exact hp⟩)) fun φ z => by rw [e2] at z; cases z
  · have := en.dom0 b q
    by_cases e : b = a
    · rw [e]
      exact sol_lst upd_same
    · unfold Sol
      rw [upd_ne e]
      exact this
/-- xs.append(e) -/
def gApp (i : Nat) (g : TDE) : TDS := fun D Δ => match nth Δ i with
  | .own ds => g Δ fun d => ds.length < sizeLine ∧ D.nx (Δ.set i (.own (ds ++ [d])))
  | _ => False
theorem ds_app (C : Cxt X W N sc kk) {i : Nat} {x : Str} {apos cpos : Pos} (hx : N[i]? = some x) (hv : Vis sc x) (he : DE X W e g c) (hd : (x == ("__debug__" : Str)) = false := by decide +kernel) (hcd : (x == ("__classdict__" : Str)) = false := by decide +kernel)
    (hb : attributeBase (.Name x p) "append" X.env (eval (.Name x p) X.env) = eval (.Name x p) X.env := by rfl)
    (hfew : ((backTo cpos (starEach [e] X.env)).all (fun x => !x.1) && (backToKw cpos (keywordEach [] X.env)).all (fun x => x.1.isSome) && decide (([e] : List Expr).length + ([] : List Keyword).length + (if ([] : List Keyword).isEmpty then 0 else 1) < 30)) = true := by rfl)
    (hline : (apos.endLine == cpos.line) = true := by rfl) (hs : starEach [e] X.env = (false, eval e X.env) :: starEach [] X.env := by rfl) (hsw : swapsWith (.Call (.Attribute (.Name x p) "append" apos) [e] [] cpos) none pos.line X.env = pure false := by rfl) :
    DS X W (.Expr (.Call (.Attribute (.Name x p) "append" apos) [e] [] cpos) pos) (gApp i g) c := by
  refine ps_imp (ps_expr (pe_bm PySem.F.plainAttrs_list PySem.F.slot_list_append PySem.F.type_list_append mt_append (pe_var (i := i) (by rw [C.hN]; exact hx) (by rw [C.hsc]; exact hv) hd hcd) (pa_cons he pa_nil hs) hb hfew hline hs rfl) hsw) fun E σ H ⟨k, Δ, D2, h1, h2, h3, h4⟩ => ?_
  have s := h2.sl i
  unfold gApp at h3
  revert h3 s
  cases hn : nth Δ i with
  | own ds =>
    rintro h3 ⟨a, xs, e1, e2, r, e3, e4, z⟩
    refine ⟨.ref a, e1, .inl ⟨rfl, xs, .inl (.inl e2)⟩, k, Δ, _, h1, h2, h3, fun d v H' ⟨q1, q2⟩ c1 r1 => ?_⟩
    have e2' : H' a = some (.lst xs) := c1.keep a _ e2 fun q => C.ok.pdom a q e3
    have lz := r.length
    refine ⟨a, xs, v, rfl, rfl, e2', by omega, ?_⟩
    obtain ⟨en, kp⟩ := (h2.chg C.ok c1).change C.ok hn e1 ((r.map (c1.kpE C.ok)).append (.cons r1 .nil)) (by rw [List.length_append]; show ds.length + 1 ≤ _; omega)
    exact h4.nx _ _ _ q2 en ((c1.kpE C.ok).trans kp)
  | un => exact fun z => z.elim
  | dat d => exact fun z => z.elim
  | pot => exact fun z => z.elim
  | scr ns => exact fun z => z.elim
/-- xs.extend(e), e a list -/
def gExt (i : Nat) (g : TDE) : TDS := fun D Δ => match nth Δ i with
  | .own ds => g Δ fun d => match d with
    | .list es => ds.length + es.length ≤ sizeLine ∧ D.nx (Δ.set i (.own (ds ++ es)))
    | _ => False
  | _ => False
theorem ds_ext (C : Cxt X W N sc kk) {i : Nat} {x : Str} {apos cpos : Pos} (hx : N[i]? = some x) (hv : Vis sc x) (he : DB X W e g c) (hd : (x == ("__debug__" : Str)) = false := by decide +kernel) (hcd : (x == ("__classdict__" : Str)) = false := by decide +kernel)
    (hb : attributeBase (.Name x p) "extend" X.env (eval (.Name x p) X.env) = eval (.Name x p) X.env := by rfl)
    (hfew : ((backTo cpos (starEach [e] X.env)).all (fun x => !x.1) && (backToKw cpos (keywordEach [] X.env)).all (fun x => x.1.isSome) && decide (([e] : List Expr).length + ([] : List Keyword).length + (if ([] : List Keyword).isEmpty then 0 else 1) < 30)) = true := by rfl)
    (hline : (apos.endLine == cpos.line) = true := by rfl) (hs : starEach [e] X.env = (false, eval e X.env) :: starEach [] X.env := by rfl) (hsw : swapsWith (.Call (.Attribute (.Name x p) "extend" apos) [e] [] cpos) none pos.line X.env = pure false := by rfl) :
    DS X W (.Expr (.Call (.Attribute (.Name x p) "extend" apos) [e] [] cpos) pos) (gExt i g) c := by
  refine ps_imp (ps_expr (pe_bm PySem.F.plainAttrs_list PySem.F.slot_list_extend PySem.F.type_list_extend mt_extend (pe_var (i := i) (by rw [C.hN]; exact hx) (by rw [C.hsc]; exact hv) hd hcd) (pa_cons he pa_nil hs) hb hfew hline hs rfl) hsw) fun E σ H ⟨k, Δ, D2, h1, h2, h3, h4⟩ => ?_
  have s := h2.sl i
  unfold gExt at h3
  revert h3 s
  cases hn : nth Δ i with
  | own ds =>
    rintro h3 ⟨a, xs, e1, e2, r, e3, e4, z⟩
    refine ⟨.ref a, e1, .inl ⟨rfl, xs, .inl (.inl e2)⟩, k, Δ, _, h1, h2, h3, fun d v H' q c1 r1 => ?_⟩
    have e2' : H' a = some (.lst xs) := c1.keep a _ e2 fun q => C.ok.pdom a q e3
    have lz := r.length
    cases d with
    | list fs =>
      have q : ds.length + fs.length ≤ sizeLine ∧ D2.nx (Δ.set i (.own (ds ++ fs))) := q
      obtain ⟨b, ys, rfl, hb2, rb⟩ : ∃ b ys, v = .ref b ∧ H' b = some (.lst ys) ∧ RepAll W.K (AA W σ Δ) H' ys fs := by
        rcases r1 with r1 | ⟨b, ys, fs', g1, g2, g3, g4, _⟩
        · cases r1 with
          | lst g1 g2 g3 g4 => exact ⟨_, _, rfl, g1, g4⟩
        · cases g2
          exact ⟨b, ys, g1, g3, g4⟩
      have lf := rb.length
      refine ⟨a, b, xs, ys, rfl, rfl, e2', hb2, by omega, ?_⟩
      obtain ⟨en, kp⟩ := (h2.chg C.ok c1).change C.ok hn e1 ((r.map (c1.kpE C.ok)).append rb) (by rw [List.length_append]; exact q.1)
      exact h4.nx _ _ _ q.2 en ((c1.kpE C.ok).trans kp)
    | _ => exact (show False from q).elim
  | un => exact fun z => z.elim
  | dat d => exact fun z => z.elim
  | pot => exact fun z => z.elim
  | scr ns => exact fun z => z.elim
end
end DL
/-! DLLoop2: what is walked, for, while, comprehensions. -/
namespace DL
open PySem PySem.Spec PyProof.Rows L2
variable [Lams]

/-- J walks the items xs, whatever is laid meanwhile (and B stays) -/
structure Seqs (K : PySem.W.Frag) (A B : Addr → Prop) (J : It) (xs : List D) (H0 : Hp) : Prop where
  len : xs.length ≤ sizeLine
  item : ∀ (i : Nat) d H A', xs[i]? = some d → Kp A A' H0 H → (∀ b o, B b → H0 b = some o → H b = some o) → (∀ a, A' a → H a ≠ none) → J.go i H ∧ ∀ v H', J.yld i H v H' → (∀ b o, H b = some o → H' b = some o) ∧ Rep K A' H' v d
  stop : ∀ H A', Kp A A' H0 H → (∀ b o, B b → H0 b = some o → H b = some o) → J.stop xs.length H
def liftI (W : Wd) (g : TDL) (c : Nat) : TI := fun σ H R => ∃ (k : Nat) (Δ : DEnv) (K : List D → Prop), k + c ≤ W.c0 ∧ En W k σ H Δ ∧ g Δ K ∧ ∀ xs J H1, K xs → Chg W (k + c) H H1 → Seqs W.K (AA W σ Δ) (fun _ => False) J xs H1 → R J H1
def liftIb (W : Wd) (g : TDL) (c : Nat) : TI := fun σ H R => ∃ (k : Nat) (Δ : DEnv) (K : List D → Prop), k + c ≤ W.c0 ∧ En W k σ H Δ ∧ g Δ K ∧ ∀ xs J H1, K xs → Chg W (k + c) H H1 → Seqs W.K (AA W σ Δ) (OwnA σ Δ) J xs H1 → R J H1
abbrev DI (X : Cx) (W : Wd) (tg e : Expr) (g : TDL) (c : Nat) : Prop := PI X tg e (liftI W g c)
abbrev DIb (X : Cx) (W : Wd) (tg e : Expr) (g : TDL) (c : Nat) : Prop := PI X tg e (liftIb W g c)
theorem pi_imp {X : Cx} {tg e : Expr} {t t' : TI} (h : PI X tg e t) (i : ∀ σ H Q, t' σ H Q → t σ H Q) : PI X tg e t' := ⟨fun pins s σ H Q I q => h.run pins s σ H Q I (i σ H Q q)⟩
/-- a list, a tuple, a text -/
def iSeqV (K : PySem.W.Frag) (tl : TE) : TI := fun σ H R => tl σ H fun x H1 => (∃ a, x = .ref a ∧ (((∃ xs, SqL K H1 a xs) ∧ R (Itl K a) H1) ∨ ((∃ xs, SqT K H1 a xs) ∧ R (Itt K a) H1))) ∨ ∃ y, x = .str y ∧ R (Its y) H1
theorem pi_seqV {X : Cx} {tg l : Expr} {tl : TE} (hl : PE X l tl) : PI X tg l (iSeqV X.K tl) := by
  refine ⟨fun pins s σ H R I h => thn (hl.run pins s σ H _ I h) ?_⟩
  rintro v s1 ⟨x, H1, I1, r1, ⟨a, rfl, ⟨⟨xs, hq⟩, q⟩ | ⟨⟨xs, hq⟩, q⟩⟩ | ⟨y, rfl, q⟩⟩
  · cases r1
    obtain ⟨its, rv, pl, hz⟩ := I1.list hq
    exact wpAny_pyIter_list pl.isList (pi_one (tk := s1.toks) I1 _ (turn_list a _) ⟨_, Heap.get?_push_size _ rfl, rfl, rfl⟩ q)
  · cases r1
    obtain ⟨its, rv, tp, hz⟩ := I1.tuple hq
    exact wpAny_pyIter_tuple (show s1.heap.IsTuple a its.toArray from tp) (pi_one (tk := s1.toks) I1 _ (turn_tuple a _) ⟨_, Heap.get?_push_size _ rfl, rfl, rfl⟩ q)
  · obtain ⟨t, rfl⟩ := r1
    by_cases ha : y.cps.all (· < 128) = true
    · exact wpAny_pyIter_ascii ha (pi_one (tk := s1.toks) I1 _ (turn_str _ y t _ (.inl rfl)) ⟨_, Heap.get?_push_size _ rfl, rfl, rfl⟩ q)
    · exact wpAny_pyIter_wide (Bool.eq_false_iff.mpr ha) (pi_one (tk := s1.toks) I1 _ (turn_str _ y t _ (.inr rfl)) ⟨_, Heap.get?_push_size _ rfl, rfl, rfl⟩ q)
def signs (s : Str) : List D := s.cps.toList.map fun c => .str ⟨#[c]⟩
def gSeqI (g : TDE) : TDL := fun Δ K => g Δ fun d => match d with
  | .list xs => K xs
  | .tuple xs => K xs
  | .str s => K (signs s)
  | _ => False
theorem seqs_list {K : PySem.W.Frag} {A B : Addr → Prop} {H : Hp} {a : Addr} {xs : List V} {ds : List D} (e : H a = some (.lst xs)) (hb : ¬ A a ∨ B a) (z : ds.length ≤ sizeLine) (r : RepAll K A H xs ds) : Seqs K A B (Itl K a) ds H := by
  have st : ∀ H2 A', Kp A A' H H2 → (∀ b o, B b → H b = some o → H2 b = some o) → H2 a = some (.lst xs) := fun H2 A' kp kb => hb.elim (fun n => (kp a _ e n).1) fun q => kb a _ q e
  have one : ∀ {H2 : Hp} {ys : List V}, H2 a = some (.lst xs) → SqL K H2 a ys → True := fun _ _ => trivial
  refine ⟨z, fun i d H2 A' hd kp kb dm => ?_, fun H2 A' kp kb => ⟨xs, .inl (.inl (st H2 A' kp kb)), Nat.le_of_eq r.length⟩⟩
  obtain ⟨v, hv, rv⟩ := r.getD hd
  refine ⟨⟨xs, v, .inl (.inl (st H2 A' kp kb)), hv⟩, fun v' H' hy => ?_⟩
  obtain ⟨rfl, hy⟩ := hy
  have ev := hy xs (.inl (.inl (st _ A' kp kb)))
  rw [hv] at ev
  cases ev
  exact ⟨fun _ _ q => q, rv.map kp⟩
theorem seqs_tup {K : PySem.W.Frag} {A B : Addr → Prop} {H : Hp} {a : Addr} {xs : List V} {ds : List D} (s : (Rd H a (.tup xs) ∧ ¬ A a) ∨ KT K a xs) (z : ds.length ≤ sizeLine) (r : RepAll K A H xs ds) : Seqs K A B (Itt K a) ds H := by
  have st : ∀ H2 A', Kp A A' H H2 → SqT K H2 a xs := fun H2 A' kp => s.elim (fun q => .inl (kp.rd q.1 q.2).1) KT.sq
  refine ⟨z, fun i d H2 A' hd kp kb dm => ?_, fun H2 A' kp kb => ⟨xs, st H2 A' kp, Nat.le_of_eq r.length⟩⟩
  obtain ⟨v, hv, rv⟩ := r.getD hd
  refine ⟨⟨xs, v, st H2 A' kp, hv⟩, fun v' H' hy => ?_⟩
  obtain ⟨rfl, hy⟩ := hy
  have ev := hy xs (st _ A' kp)
  rw [hv] at ev
  cases ev
  exact ⟨fun _ _ q => q, rv.map kp⟩
theorem one_sign (c : Nat) : (⟨#[c]⟩ : Str).length ≤ sizeLine := by
  rw [sizeLine_eq]
  show 1 ≤ _
  omega
theorem seqs_str {K : PySem.W.Frag} {A B : Addr → Prop} {H : Hp} {y : Str} (z : y.length ≤ sizeLine) : Seqs K A B (Its y) (signs y) H := by
  have hl : (signs y).length = y.cps.size := by unfold signs; simp
  refine ⟨by rw [hl]; exact z, fun i d H2 A' hd kp kb dm => ?_, fun H2 A' kp kb => Nat.le_of_eq hl.symm⟩
  unfold signs at hd
  rw [List.getElem?_map, Array.getElem?_toList] at hd
  cases hc : y.cps[i]? with
  | none =>
    rw [hc] at hd
    cases hd
  | some c =>
    rw [hc] at hd
    cases hd
    refine ⟨(Array.getElem?_eq_some_iff.mp hc).1, fun v' H' hy => ?_⟩
    obtain ⟨rfl, c', hc', rfl⟩ := hy
    rw [hc] at hc'
    cases hc'
    exact ⟨fun _ _ q => q, .str _ (one_sign c)⟩
theorem seqs_range {K : PySem.W.Frag} {A B : Addr → Prop} {H : Hp} {lo : Int} {n : Nat} (z : n ≤ sizeLine) : Seqs K A B (Itr lo n) ((List.range n).map fun i => .int (lo + ((i : Nat) : Int))) H := by
  have hl : ((List.range n).map fun i => PyData.int (lo + ((i : Nat) : Int))).length = n := by simp
  refine ⟨by rw [hl]; exact z, fun i d H2 A' hd kp kb dm => ?_, fun H2 A' kp kb => Nat.le_of_eq hl.symm⟩
  have hi : i < n := by
    have := (List.getElem?_eq_some_iff.mp hd).1
    rw [hl] at this
    exact this
  rw [List.getElem?_map, List.getElem?_range hi] at hd
  cases hd
  refine ⟨hi, fun v' H' hy => ?_⟩
  obtain ⟨rfl, rfl⟩ := hy
  exact ⟨fun _ _ q => q, .int _⟩
section
variable {X : Cx} {W : Wd} {N : List Str} {sc : Scope} {kk : Nat} {e a b tg : Expr} {es : List Expr} {c ca cb cc ct ci ce : Nat} {g ga gb gc : TDE} {pos p p2 : Pos} {k j : Nat} {σ : St} {Δ : DEnv} {H H' : Hp} {v : V} {d : D}
theorem di_seq (C : Cxt X W N sc kk) (h : DE X W e g c) : DI X W tg e (gSeqI g) c :=
  pi_imp (pi_seqV h) fun σ H R ⟨k, Δ, K, h1, h2, h3, h4⟩ => ⟨k, Δ, _, h1, h2, h3, fun d v H' q c r => by
    cases r with
    | lst e n z r => exact .inl ⟨_, rfl, .inl ⟨⟨_, .inl (.inl e)⟩, h4 _ _ _ q c (by rw [← C.hK]; exact seqs_list e (.inl n) z r)⟩⟩
    | tup s z r => exact .inl ⟨_, rfl, .inr ⟨⟨_, by rw [← C.hK]; exact sqT s⟩, h4 _ _ _ q c (by rw [← C.hK]; exact seqs_tup s z r)⟩⟩
    | str y z => exact .inr ⟨y, rfl, h4 _ _ _ q c (seqs_str z)⟩
    | _ => exact (show False from q).elim⟩
theorem di_seqb (C : Cxt X W N sc kk) (h : DB X W e g c) : DIb X W tg e (gSeqI g) c :=
  pi_imp (pi_seqV h) fun σ H R ⟨k, Δ, K, h1, h2, h3, h4⟩ => ⟨k, Δ, _, h1, h2, h3, fun d v H' q c r => by
    rcases r with r | ⟨a, xs, ds, rfl, rfl, e, r, z, o⟩
    · cases r with
      | lst e n z r => exact .inl ⟨_, rfl, .inl ⟨⟨_, .inl (.inl e)⟩, h4 _ _ _ q c (by rw [← C.hK]; exact seqs_list e (.inl n) z r)⟩⟩
      | tup s z r => exact .inl ⟨_, rfl, .inr ⟨⟨_, by rw [← C.hK]; exact sqT s⟩, h4 _ _ _ q c (by rw [← C.hK]; exact seqs_tup s z r)⟩⟩
      | str y z => exact .inr ⟨y, rfl, h4 _ _ _ q c (seqs_str z)⟩
      | _ => exact (show False from q).elim
    · exact .inl ⟨_, rfl, .inl ⟨⟨_, .inl (.inl e)⟩, h4 _ _ _ q c (by rw [← C.hK]; exact seqs_list e (.inr o) z r)⟩⟩⟩
theorem Seqs.bo {K : PySem.W.Frag} {A B : Addr → Prop} {J : It} {xs : List D} (s : Seqs K A (fun _ => False) J xs H) : Seqs K A B J xs H := ⟨s.len, fun i d H2 A' hd kp _ => s.item i d H2 A' hd kp (fun _ _ z => z.elim), fun H2 A' kp _ => s.stop H2 A' kp fun _ _ z => z.elim⟩
theorem DI.bo {g : TDL} (h : DI X W tg e g c) : DIb X W tg e g c := pi_imp h fun σ H R ⟨k, Δ, K, h1, h2, h3, h4⟩ => ⟨k, Δ, K, h1, h2, h3, fun xs J H1 q c s => h4 xs J H1 q c s.bo⟩
def rangeD (lo hi : Int) : List D := (List.range (hi - lo).toNat).map fun i => .int (lo + ((i : Nat) : Int))
def gRg1 (g : TDE) : TDL := fun Δ K => g Δ fun d => match d with
  | .int n => -(2 ^ 62) ≤ n ∧ n ≤ sizeLine ∧ K (rangeD 0 n)
  | _ => False
def gRg2 (ga gb : TDE) : TDL := fun Δ K => ga Δ fun d => gb Δ fun e => match d, e with
  | .int m, .int n => -(2 ^ 62) ≤ m ∧ m < 2 ^ 62 ∧ -(2 ^ 62) ≤ n ∧ n < 2 ^ 62 ∧ n - m ≤ sizeLine ∧ K (rangeD m n)
  | _, _ => False
theorem di_range1 (C : Cxt X W N sc kk) (hg : sc.names.lookup ("range" : Str) = some .globalImplicit) (hm : X.mg ("range" : Str) = none) (ha : DB X W a g c) (hs : starEach [a] X.env = [(false, eval a X.env)] := by rfl) : DI X W tg (.Call (.Name "range" p) [a] [] pos) (gRg1 g) c :=
  pi_imp (pi_range1 (C.gl hg) hm (pa_cons ha pa_nil hs) hs) fun σ H R ⟨k, Δ, K, h1, h2, h3, h4⟩ => ⟨k, Δ, _, h1, h2, h3, fun d v H' q c r => by
    cases d with
    | int n =>
      have q : -(2 ^ 62) ≤ n ∧ n ≤ sizeLine ∧ K (rangeD 0 n) := q
      have hn : n < 2 ^ 62 := Int.lt_of_le_of_lt q.2.1 (by rw [sizeLine_eq]; decide)
      have hl : n.toNat ≤ sizeLine := by
        have := q.2.1
        omega
      refine ⟨n, by rw [RepO.int r], q.1, hn, h4 _ _ _ q.2.2 c ?_⟩
      have e : (n - 0).toNat = n.toNat := by rw [Int.sub_zero]
      unfold rangeD
      rw [e]
      exact seqs_range hl
    | _ => exact (show False from q).elim⟩
theorem di_range2 (C : Cxt X W N sc kk) (hg : sc.names.lookup ("range" : Str) = some .globalImplicit) (hm : X.mg ("range" : Str) = none) (ha : DB X W a ga ca) (hb : DB X W b gb cb) (hs : starEach [a, b] X.env = [(false, eval a X.env), (false, eval b X.env)] := by rfl) (hs2 : starEach [b] X.env = [(false, eval b X.env)] := by rfl)
    (hs3 : starEach [a, b] X.env = (false, eval a X.env) :: starEach [b] X.env := by rfl) : DI X W tg (.Call (.Name "range" p) [a, b] [] pos) (gRg2 ga gb) (ca + cb) :=
  pi_imp (pi_range2 (C.gl hg) hm (pa_cons ha (pa_cons hb pa_nil hs2) hs3) hs hs2) fun σ H R ⟨k, Δ, K, h1, h2, h3, h4⟩ => ⟨k, Δ, _, by omega, h2, h3, fun d v H1 q1 c1 r1 => by
    have e1 := h2.chg C.ok c1
    refine ⟨k + ca, Δ, _, by omega, e1, q1, fun d2 v2 H2 q2 c2 r2 => ?_⟩
    match d, d2, q2 with
    | .int m, .int n, q2 =>
      obtain ⟨m1, m2, n1, n2, z, q⟩ : -(2 ^ 62) ≤ m ∧ m < 2 ^ 62 ∧ -(2 ^ 62) ≤ n ∧ n < 2 ^ 62 ∧ n - m ≤ sizeLine ∧ K (rangeD m n) := q2
      refine ⟨m, n, by rw [RepO.int r1, RepO.int r2], ⟨m1, m2, n1, n2⟩, h4 _ _ _ q (chg3 c1 c2) ?_⟩
      exact seqs_range (by omega)⟩

/-! ### for -/
def gForC (cb m : Nat) (gi : TDL) (gt : TDG) (gb : TDS) : TDS := fun D Δ => gi Δ fun xs => xs.length * cb ≤ m ∧ ∃ I : Nat → DEnv → Prop, I 0 Δ ∧ (∀ i d Δ', xs[i]? = some d → I i Δ' → gt d Δ' fun Δ2 => gb { D with nx := I (i + 1), ct := I (i + 1), bk := D.nx } Δ2) ∧ ∀ Δ', I xs.length Δ' → D.nx Δ'
theorem for_use (C : Cxt X W N sc kk) {gi : TDL} {gt : TDG} {gb : TDS} {m : Nat} {ts : List Nat} : ∀ E σ H, liftS W (gForC cb m gi gt gb) (ci + m) E σ H → tFor (liftI W gi ci) (liftG W gt ts) (liftS W gb cb) E σ H := fun E σ H ⟨k, Δ, D2, h1, h2, h3, h4⟩ => by
  refine ⟨k, Δ, _, by omega, h2, h3, fun xs J H1 ⟨hm, I, i0, step, fin⟩ c1 S => ?_⟩
  have e1 := h2.chg C.ok c1
  refine ⟨fun i n σ' H' => n = xs.length - i ∧ i ≤ xs.length ∧ ∃ Δ', I i Δ' ∧ En W (k + ci + i * cb) σ' H' Δ' ∧ Kp (AA W σ Δ) (AA W σ' Δ') H1 H', ⟨xs.length, by simp, Nat.zero_le _, Δ, i0, by rw [Nat.zero_mul]; exact e1, Kp.refl⟩, ?_⟩
  rintro i n σ' H' ⟨rfl, hi, Δ', hI, en, kp⟩
  have hB : ∀ b o, (fun _ => False : Addr → Prop) b → H1 b = some o → H' b = some o := fun _ _ z => z.elim
  rcases Nat.lt_or_eq_of_le hi with hlt | heq
  · right
    obtain ⟨d, hd⟩ : ∃ d, xs[i]? = some d := ⟨xs[i], List.getElem?_eq_getElem hlt⟩
    obtain ⟨go, item⟩ := S.item i d H' (AA W σ' Δ') hd kp hB fun a q z => en.notA z q
    have bud : k + ci + i * cb + cb ≤ k + (ci + m) := by
      have h := Nat.mul_le_mul_right cb (show i + 1 ≤ xs.length from hlt)
      rw [Nat.add_mul, Nat.one_mul] at h
      omega
    refine ⟨go, fun σ4 H4 => ∃ Δ4, I (i + 1) Δ4 ∧ En W (k + ci + (i + 1) * cb) σ4 H4 Δ4 ∧ Kp (AA W σ Δ) (AA W σ4 Δ4) H1 H4, fun σ4 H4 ⟨Δ4, q1, q2, q3⟩ => ⟨xs.length - (i + 1), by omega, rfl, hlt, Δ4, q1, q2, q3⟩, fun v H2 hy => ?_⟩
    obtain ⟨hx, rv⟩ := item v H2 hy
    have c2 := Chg.of_ext en.fin hx
    refine ⟨k + ci + i * cb, Δ', d, _, en.chg C.ok c2, rv, step i d Δ' hd hI, fun Δ2 σ2 q e kp2 bt => ?_⟩
    have kpa := kp.trans ((c2.kpE C.ok).trans kp2)
    refine ⟨k + ci + i * cb, Δ2, _, by omega, e, q, ⟨fun Δ4 σ4 H4 q4 e4 kp4 => ⟨Δ4, q4, ?_, kpa.trans kp4⟩, fun d' v' H4 q4 f4 r4 => h4.rt d' v' H4 q4 (f4.mono bud) r4, fun Δ4 σ4 H4 q4 e4 kp4 => ?_, fun Δ4 σ4 H4 q4 e4 kp4 => ⟨Δ4, q4, ?_, kpa.trans kp4⟩⟩⟩
    · have : k + ci + i * cb + cb = k + ci + (i + 1) * cb := by rw [Nat.add_mul, Nat.one_mul, Nat.add_assoc (k + ci)]
      exact this ▸ e4
    · exact h4.nx Δ4 σ4 H4 q4 (e4.mono bud) ((c1.kpE C.ok).trans (kpa.trans kp4))
    · have : k + ci + i * cb + cb = k + ci + (i + 1) * cb := by rw [Nat.add_mul, Nat.one_mul, Nat.add_assoc (k + ci)]
      exact this ▸ e4
  · left
    subst heq
    exact ⟨S.stop H' (AA W σ' Δ') kp hB, h4.nx Δ' σ' H' (fin Δ' hI) (en.mono (by omega)) ((c1.kpE C.ok).trans kp)⟩
theorem ds_for (C : Cxt X W N sc kk) {tg iter : Expr} {body : List Stmt} {gi : TDL} {gt : TDG} {gb : TDS} {ts : List Nat} (m : Nat) (hi : DI X W tg iter gi ci) (hg : DG X W tg gt ts) (hb : DSs X W body gb cb) (hs : ∀ x, foldedSetIterable iter X.env x = pure x := by intro _; rfl) :
    DS X W (.For tg iter body [] pos) (gForC cb m gi gt gb) (ci + m) := ps_imp (ps_for C.po C.calm hi hg hb hs) (for_use C)
/-! ### while -/
def gWhC (cb M : Nat) (gt : TDT) (gb : TDS) : TDS := fun D Δ => ∃ I : Nat → DEnv → Prop, (∃ n, n * cb ≤ M ∧ I n Δ) ∧ ∀ n Δ', I n Δ' → gt Δ' fun b => gIte b (∃ n', n = n' + 1 ∧ gb { D with nx := I n', ct := I n', bk := D.nx } Δ') (D.nx Δ')
theorem while_use (C : Cxt X W N sc kk) {gt : TDT} {gb : TDS} {M : Nat} : ∀ E σ H, liftS W (gWhC (ct + cb) M gt gb) (ct + M) E σ H → tWhile (liftT W gt ct) (liftS W gb cb) E σ H := fun E σ H ⟨k, Δ, D2, h1, h2, ⟨I, ⟨n0, hn0, i0⟩, step⟩, h4⟩ => by
  refine ⟨fun n σ' H' => n ≤ n0 ∧ ∃ Δ', I n Δ' ∧ En W (k + (n0 - n) * (ct + cb)) σ' H' Δ' ∧ Kp (AA W σ Δ) (AA W σ' Δ') H H', ⟨n0, Nat.le_refl _, Δ, i0, by rw [Nat.sub_self, Nat.zero_mul]; exact h2, Kp.refl⟩, ?_⟩
  rintro n σ' H' ⟨hn, Δ', hI, en, kp⟩
  have b0 : (n0 - n) * (ct + cb) ≤ n0 * (ct + cb) := Nat.mul_le_mul_right _ (Nat.sub_le _ _)
  refine ⟨k + (n0 - n) * (ct + cb), Δ', _, by omega, en, step n Δ' hI, fun b H1 q c1 => ?_⟩
  have e1 := en.chg C.ok c1
  cases b with
  | false => exact h4.nx Δ' σ' H1 (q.2 rfl) (e1.mono (by omega)) (kp.trans (c1.kpE C.ok))
  | true =>
    obtain ⟨n', en', qb⟩ := q.1 rfl
    subst en'
    have e0 : (n0 - n') * (ct + cb) = (n0 - (n' + 1)) * (ct + cb) + (ct + cb) := by
      have : n0 - n' = n0 - (n' + 1) + 1 := by omega
      rw [this, Nat.add_mul, Nat.one_mul]
    have b1 : (n0 - n') * (ct + cb) ≤ n0 * (ct + cb) := Nat.mul_le_mul_right _ (Nat.sub_le _ _)
    have kpa := kp.trans (c1.kpE C.ok)
    refine ⟨fun σ4 H4 => ∃ Δ4, I n' Δ4 ∧ En W (k + (n0 - n') * (ct + cb)) σ4 H4 Δ4 ∧ Kp (AA W σ Δ) (AA W σ4 Δ4) H H4, fun σ4 H4 ⟨Δ4, q1, q2, q3⟩ => ⟨n', Nat.lt_succ_self _, by omega, Δ4, q1, q2, q3⟩, ?_⟩
    have eb : k + (n0 - (n' + 1)) * (ct + cb) + ct + cb = k + (n0 - n') * (ct + cb) := by omega
    refine ⟨k + (n0 - (n' + 1)) * (ct + cb) + ct, Δ', _, by omega, e1, qb, ⟨fun Δ4 σ4 H4 q4 e4 kp4 => ⟨Δ4, q4, eb ▸ e4, kpa.trans kp4⟩, fun d' v' H4 q4 f4 r4 => h4.rt d' v' H4 q4 (f4.mono (by omega)) r4, fun Δ4 σ4 H4 q4 e4 kp4 => ?_, fun Δ4 σ4 H4 q4 e4 kp4 => ⟨Δ4, q4, eb ▸ e4, kpa.trans kp4⟩⟩⟩
    exact h4.nx Δ4 σ4 H4 q4 (e4.mono (by omega)) (kpa.trans kp4)
theorem ds_while (C : Cxt X W N sc kk) {t : Expr} {body : List Stmt} {gt : TDT} {gb : TDS} (M : Nat) (ht : DT X W t gt ct) (hb : DSs X W body gb cb) : DS X W (.While t body [] pos) (gWhC (ct + cb) M gt gb) (ct + M) := ps_imp (ps_while C.po ht hb) (while_use C)
end
end DL
/-! DLComp: list comprehensions over data. -/
namespace DL
open PySem PySem.Spec PyProof.Rows L2
variable [Lams]

/-- the slots vs are forgotten -/
def clr : List Nat → DEnv → DEnv
  | [], Δ => Δ
  | v :: vs, Δ => (clr vs Δ).set v .un
def noOwn : Sv → Bool
  | .own _ => false
  | _ => true
theorem clr_len : ∀ (vs : List Nat) (Δ : DEnv), (clr vs Δ).length = Δ.length
  | [], _ => rfl
  | v :: vs, Δ => by
    unfold clr
    rw [List.length_set, clr_len vs Δ]
theorem nth_len {Δ : DEnv} {i : Nat} (h : Δ.length ≤ i) : nth Δ i = .un := by
  cases hn : nth Δ i with
  | un => rfl
  | _ => exact absurd (nth_lt (by rw [hn]; simp)) (Nat.not_lt.mpr h)
theorem clr_in : ∀ {vs : List Nat} {Δ : DEnv} {i : Nat}, i ∈ vs → nth (clr vs Δ) i = .un
  | v :: vs, Δ, i, h => by
    unfold clr
    by_cases e : i = v
    · subst e
      by_cases l : i < (clr vs Δ).length
      · exact nth_set_self l
      · exact nth_len (by rw [List.length_set]; omega)
    · rw [nth_set_ne e]
      exact clr_in ((List.mem_cons.mp h).resolve_left e)
theorem clr_out : ∀ {vs : List Nat} {Δ : DEnv} {i : Nat}, i ∉ vs → nth (clr vs Δ) i = nth Δ i
  | [], _, _, _ => rfl
  | v :: vs, Δ, i, h => by
    unfold clr
    rw [nth_set_ne fun e => h (by rw [e]; exact List.mem_cons_self)]
    exact clr_out fun q => h (List.mem_cons_of_mem _ q)
theorem wipe_in : ∀ {vs : List Nat} {σ : St} {i : Nat}, i ∈ vs → i < σ.length → (wipe σ vs)[i]? = some none
  | v :: vs, σ, i, h, l => by
    unfold wipe
    by_cases e : i = v
    · subst e
      exact List.getElem?_set_self (by rw [wipe_length]; exact l)
    · rw [List.getElem?_set_ne fun z => e z.symm]
      exact wipe_in ((List.mem_cons.mp h).resolve_left e) l
theorem wipe_not : ∀ {vs : List Nat} {σ : St} {i : Nat}, i ∉ vs → (wipe σ vs)[i]? = σ[i]?
  | [], _, _, _ => rfl
  | v :: vs, σ, i, h => by
    unfold wipe
    rw [List.getElem?_set_ne fun e => h (by rw [← e]; exact List.mem_cons_self)]
    exact wipe_not fun q => h (List.mem_cons_of_mem _ q)
theorem wipe_but {vs ts : List Nat} {σ σ2 : St} {Δ Δ2 : DEnv} (h : But ts (wipe σ vs) σ2 Δ Δ2) (hs : ∀ j ∈ ts, j ∈ vs) : wipe σ2 vs = wipe σ vs := by
  refine List.ext_getElem? fun i => ?_
  have hl : σ2.length = σ.length := h.len.trans (wipe_length σ vs)
  by_cases hi : i ∈ vs
  · by_cases l : i < σ.length
    · rw [wipe_in hi l, wipe_in hi (by rw [hl]; exact l)]
    · rw [List.getElem?_eq_none (by rw [wipe_length]; omega), List.getElem?_eq_none (by rw [wipe_length]; omega)]
  · rw [wipe_not hi, h.st i fun q => hi (hs i q)]
/-- a block's world: the list that is made, at D, changes too; nothing is raised out of it -/
abbrev Wd.blk (W : Wd) (D : Addr) : Wd := { W with A0 := fun a => W.A0 a ∨ a = D, E := fun _ _ => False }
section
variable {X : Cx} {W : Wd} {N : List Str} {sc : Scope} {kk : Nat} {e a b tg elt iter : Expr} {es ifs : List Expr} {c ca cb cc ct ci ce m : Nat} {g ga gb gc : TDE} {pos p p2 : Pos} {k j : Nat} {σ : St} {Δ : DEnv} {H H' H1 : Hp} {v : V} {d : D} {vs : List Nat}
theorem Cxt.blk (C : Cxt X W N sc kk) (L : Addr) (s : Shared) (H : Hp) (scope : Scope) (cl : List (Str × Addr)) (C' : Addr) (fp : List Addr) : Cxt (X.blk s H scope (compEnvC scope cl C' X.env) fp) (W.blk L) N (relS scope sc) kk := by
  refine ⟨C.hN, ?_, C.nd, C.hr, C.gd, C.calm, C.hK, ⟨C.ok.pdom, fun b p => .inl (C.ok.sub b p), C.ok.lim, C.ok.tu, C.ok.tt⟩, takes0.imp fun cls d _ H h => ?_, PassesOwn.never⟩
  · show relabel scope X.env = _
    rw [← C.hsc]
    rfl
  · obtain ⟨_, _, _, _, _, _, _, z, _⟩ := h
    exact z
theorem blk_sub {L : Addr} (hv : ∀ i ∈ vs, noOwn (nth Δ i) = true) {x : Addr} (h : AA (W.blk L) (wipe σ vs) (clr vs Δ) x) : AA W σ Δ x ∨ x = L := by
  rcases h with (h | h) | ⟨i, ds, h1, h2⟩
  · exact .inl (.inl h)
  · exact .inr h
  · by_cases hi : i ∈ vs
    · rw [clr_in hi] at h1
      cases h1
    · rw [clr_out hi] at h1
      rw [wipe_not hi] at h2
      exact .inl (.inr ⟨i, ds, h1, h2⟩)
theorem blk_sup {L : Addr} {ts : List Nat} {σ2 : St} {Δ2 : DEnv} (hv : ∀ i ∈ vs, noOwn (nth Δ i) = true) (bt : But ts (wipe σ vs) σ2 (clr vs Δ) Δ2) (hs : ∀ j ∈ ts, j ∈ vs) {x : Addr} (h : AA W σ Δ x ∨ x = L) : AA (W.blk L) σ2 Δ2 x := by
  rcases h with (h | ⟨i, ds, h1, h2⟩) | h
  · exact .inl (.inl h)
  · have hi : i ∉ vs := fun q => by
      have := hv i q
      rw [h1] at this
      cases this
    refine .inr ⟨i, ds, ?_, ?_⟩
    · rw [bt.sv i fun q => hi (hs i q), clr_out hi]
      exact h1
    · rw [bt.st i fun q => hi (hs i q), wipe_not hi]
      exact h2
  · exact .inl (.inr h)
theorem Chg.ofBlk {L : Addr} (c : Chg (W.blk L) k H H') : Chg W k H H' := ⟨c.keep, c.pots, c.tabs⟩
theorem Chg.toBlk {L : Addr} (c : Chg W k H H') : Chg (W.blk L) k H H' := ⟨c.keep, c.pots, c.tabs⟩
/-- into the block -/
theorem En.blk (ok : W.Ok) (en : En W k σ H1 Δ) {L : Addr} (hn : H1 L = none) (c : Chg W j H1 H) (hD : Sol H L) (hv : ∀ i ∈ vs, noOwn (nth Δ i) = true) :
    En (W.blk L) j (wipe σ vs) H (clr vs Δ) ∧ Kp (AA W σ Δ) (AA (W.blk L) (wipe σ vs) (clr vs Δ)) H1 H := by
  have kp : Kp (AA W σ Δ) (AA (W.blk L) (wipe σ vs) (clr vs Δ)) H1 H := fun b o e n => ⟨c.keep b o e fun q => n (.inl (ok.sub b q)), fun q => (blk_sub hv q).elim n fun z => by
    rw [z, hn] at e
    cases e⟩
  have fin := en.fin.chg c
  refine ⟨⟨by rw [clr_len, wipe_length]; exact en.len, fun i => ?_, fun i l ds es a h1 h2 h3 h4 => ?_, ⟨fin.since, fin.pots, fin.tabs⟩, fun a q => q.elim (fun q => c.sol (en.dom0 a q)) fun q => by rw [q]; exact hD⟩, kp⟩
  · by_cases hi : i ∈ vs
    · rw [clr_in hi]
      trivial
    · rw [clr_out hi]
      have s := en.sl i
      revert s
      cases nth Δ i with
      | un => exact fun _ => trivial
      | dat d =>
        rintro ⟨v, e1, r⟩
        exact ⟨v, (wipe_not hi).trans e1, r.map kp⟩
      | scr ns =>
        rintro ⟨v, e1, r⟩
        exact ⟨v, (wipe_not hi).trans e1, r.map kp⟩
      | pot =>
        rintro ⟨a, e1, q⟩
        exact ⟨a, (wipe_not hi).trans e1, q⟩
      | own ds =>
        rintro ⟨a, xs, e1, e2, r, e3, e4, z⟩
        refine ⟨a, xs, (wipe_not hi).trans e1, c.keep a _ e2 fun q => ok.pdom a q e3, r.map kp, e3, fun q => q.elim e4 fun z => ?_, z⟩
        rw [z, hn] at e2
        cases e2
  · have f : ∀ {i : Nat} {ds : List D}, nth (clr vs Δ) i = .own ds → (wipe σ vs)[i]? = some (some (.ref a)) → nth Δ i = .own ds ∧ σ[i]? = some (some (.ref a)) := fun {i ds} h1 h3 => by
      by_cases hi : i ∈ vs
      · rw [clr_in hi] at h1
        cases h1
      · rw [clr_out hi] at h1
        rw [wipe_not hi] at h3
        exact ⟨h1, h3⟩
    exact en.uniq i l ds es a (f h1 h3).1 (f h2 h4).1 (f h1 h3).2 (f h2 h4).2

/-! ### the rule -/
def exG (W : Wd) (g : TDG) (ts : List Nat) : TG := fun v σ H Q => ∃ D, liftG (W.blk D) g ts v σ H Q
def exT (W : Wd) (g : TDT) (c : Nat) : TT := fun σ H Q => ∃ D, liftT (W.blk D) g c σ H Q
def exE (W : Wd) (g : TDE) (c : Nat) : TE := fun σ H Q => ∃ D, lift (W.blk D) g c σ H Q
def gLcC (cb m : Nat) (vs : List Nat) (gi : TDL) (gg : TDG) (gt : TDT) (ge : TDE) : TDL := fun Δ K => gi Δ fun xs => (vs.all fun i => noOwn (nth Δ i)) = true ∧ xs.length * cb ≤ m ∧ ∃ S : Nat → List D → Prop, S 0 [] ∧
  (∀ i d ds, xs[i]? = some d → S i ds → gg d (clr vs Δ) fun Δ2 => gt Δ2 fun b => gIte b (ge Δ2 fun y => S (i + 1) (ds ++ [y])) (S (i + 1) ds)) ∧ ∀ ds, S xs.length ds → K ds
theorem lc_use (C : Cxt X W N sc kk) {gi : TDL} {gg : TDG} {gt : TDT} {ge : TDE} {ts : List Nat} (hts : ∀ j ∈ ts, j ∈ vs) : ∀ σ H Q, liftF W (gLcC (ct + ce) m vs gi gg gt ge) (ci + m) σ H Q → tLc (liftIb W gi ci) (exG W gg ts) (exT W gt ct) (exE W ge ce) vs σ H Q := fun σ H Q ⟨k, Δ, K, h1, h2, h3, h4⟩ => by
  refine ⟨k, Δ, _, by omega, h2, h3, fun xs J H1 ⟨hv, hm, S, s0, step, fin⟩ c1 Sq L hD => ?_⟩
  have hv : ∀ i ∈ vs, noOwn (nth Δ i) = true := List.all_eq_true.mp hv
  have e1 := h2.chg C.ok c1
  have nP : ¬ W.vol L := fun q => C.ok.pdom L q (e1.fin.free hD)
  refine ⟨fun i n H' => n = xs.length - i ∧ i ≤ xs.length ∧ ∃ acc ds, H' L = some (.lst acc) ∧ RepAll W.K (fun b => AA W σ Δ b ∨ b = L) H' acc ds ∧ S i ds ∧ ds.length ≤ i ∧ Chg W (k + ci + i * (ct + ce)) H1 H',
    ⟨xs.length, by simp, Nat.zero_le _, [], [], upd_same, .nil, s0, Nat.le_refl _, by rw [Nat.zero_mul]; exact Fin.laid e1.fin hD⟩, ?_⟩
  rintro i n H' ⟨rfl, hi, acc, ds, hacc, racc, hS, hlen, ch⟩
  obtain ⟨en, kp⟩ := e1.blk (vs := vs) C.ok hD ch (sol_lst hacc) hv
  have kb : ∀ b o, OwnA σ Δ b → H1 b = some o → H' b = some o := fun b o ⟨l, es, q1, q2⟩ e => ch.keep b o e fun q => by
    have s := e1.sl l
    rw [q1] at s
    obtain ⟨a', _, g1, _, _, g3, _⟩ := s
    rw [q2] at g1
    cases g1
    exact C.ok.pdom _ q g3
  rcases Nat.lt_or_eq_of_le hi with hlt | heq
  · right
    obtain ⟨d, hd⟩ : ∃ d, xs[i]? = some d := ⟨xs[i], List.getElem?_eq_getElem hlt⟩
    obtain ⟨go, item⟩ := Sq.item i d H' _ hd kp kb fun a q z => en.notA z q
    have bud : k + ci + i * (ct + ce) + (ct + ce) ≤ k + (ci + m) := by
      have h := Nat.mul_le_mul_right (ct + ce) (show i + 1 ≤ xs.length from hlt)
      rw [Nat.add_mul, Nat.one_mul] at h
      omega
    have nxt : k + ci + i * (ct + ce) + (ct + ce) = k + ci + (i + 1) * (ct + ce) := by rw [Nat.add_mul, Nat.one_mul, Nat.add_assoc (k + ci)]
    refine ⟨go, fun H6 => ∃ acc ds, H6 L = some (.lst acc) ∧ RepAll W.K (fun b => AA W σ Δ b ∨ b = L) H6 acc ds ∧ S (i + 1) ds ∧ ds.length ≤ i + 1 ∧ Chg W (k + ci + (i + 1) * (ct + ce)) H1 H6, fun H6 ⟨acc', ds', q1, q2, q3, q4, q5⟩ => ⟨xs.length - (i + 1), by omega, rfl, hlt, acc', ds', q1, q2, q3, q4, q5⟩, fun v H2 hy => ?_⟩
    obtain ⟨hx, rv⟩ := item v H2 hy
    have c2 : Chg (W.blk L) (k + ci + i * (ct + ce)) H' H2 := Chg.of_ext en.fin hx
    have okb : (W.blk L).Ok := ⟨C.ok.pdom, fun b p => .inl (C.ok.sub b p), C.ok.lim, C.ok.tu, C.ok.tt⟩
    have ex : Kp (fun b => AA W σ Δ b ∨ b = L) (fun b => AA W σ Δ b ∨ b = L) H' H2 := fun b o e n => ⟨hx b o e, n⟩
    refine ⟨L, k + ci + i * (ct + ce), _, d, _, en.chg okb c2, rv, step i d ds hd hS, fun Δ2 σ2 q e2 kp2 bt => ⟨wipe_but bt hts, ?_⟩⟩
    refine ⟨L, k + ci + i * (ct + ce), Δ2, _, (by have := C.ok; show k + ci + i * (ct + ce) + ct ≤ W.c0; omega), e2, q, fun b H3 q3 c3 => ?_⟩
    have e3 := e2.chg okb c3
    have keepD : ∀ {HA HB : Hp} {l : Nat}, Chg (W.blk L) l HA HB → HA L = some (.lst acc) → HB L = some (.lst acc) := fun c e => c.keep L _ e nP
    have kpA : ∀ {HA HB : Hp} {l : Nat}, Chg (W.blk L) l HA HB → Kp (fun b => AA W σ Δ b ∨ b = L) (fun b => AA W σ Δ b ∨ b = L) HA HB := fun c b o e n => ⟨c.keep b o e fun q => n (.inl (.inl (C.ok.sub b q))), n⟩
    have d2 : H2 L = some (.lst acc) := hx L _ hacc
    have r2 := racc.map ex
    cases b with
    | false =>
      refine ⟨acc, ds, keepD c3 d2, r2.map (kpA c3), q3.2 rfl, by omega, (ch.trans ?_)⟩
      exact nxt ▸ ((c2.trans c3).mono (by omega)).ofBlk
    | true =>
      refine ⟨L, k + ci + i * (ct + ce) + ct, Δ2, _, (by show k + ci + i * (ct + ce) + ct + ce ≤ W.c0; omega), e3, q3.1 rfl, fun y w H4 q4 c4 r4 => ?_⟩
      have d4 := keepD c4 (keepD c3 d2)
      have z1 := racc.length
      have z2 := Sq.len
      refine ⟨acc, d4, by omega, acc ++ [w], ds ++ [y], upd_same, ?_, q4, by rw [List.length_append]; show ds.length + 1 ≤ _; omega, ?_⟩
      · have kpD : Kp (fun b => AA W σ Δ b ∨ b = L) (fun b => AA W σ Δ b ∨ b = L) H4 (upd H4 L (.lst (acc ++ [w]))) := fun b o e n => ⟨by rw [upd_ne fun z => n (.inr z)]; exact e, n⟩
        exact (((r2.map (kpA c3)).map (kpA c4)).append (.cons (r4.map (Kp.less fun b q => blk_sup hv bt hts q)) .nil)).map kpD
      · have cc := ((c2.trans c3).trans c4).ofBlk
        have e : k + ci + i * (ct + ce) + ct + ce = k + ci + (i + 1) * (ct + ce) := by omega
        have c5 : Chg W (k + ci + (i + 1) * (ct + ce)) H1 H4 := e ▸ ch.trans cc
        refine ⟨fun b o q n => ?_, fun b q => ?_, tabs_upd c5.tabs (fun p hp z => nP (.inr ⟨p.2, by rw [← z]; exact hp⟩)) fun φ z => by rw [d4] at z; cases z⟩
        · rw [upd_ne fun z => by rw [z, hD] at q; cases q]
          exact c5.keep b o q n
        · obtain ⟨x1, x2, x3, q1, rest⟩ := c5.pots b q
          exact ⟨x1, x2, x3, by rw [upd_ne (show b ≠ L from fun z => nP (.inl (by rw [← z]; exact q)))]; exact q1, rest⟩
  · left
    subst heq
    refine ⟨Sq.stop H' _ kp kb, h4 ds L acc H' (fin ds hS) ?_ (c1.free hD) hacc (Nat.le_trans hlen Sq.len) racc⟩
    exact c1.trans (ch.mono (by omega))
theorem pg_ex {e : Expr} {t : Addr → TG} (h : ∀ D, PG X e (t D)) : PG X e (fun v σ H Q => ∃ D, t D v σ H Q) := ⟨fun pins s σ H v u Q I r ⟨D, q⟩ => (h D).run pins s σ H v u Q I r q⟩
theorem pe_ex {e : Expr} {t : Addr → TE} (h : ∀ D, PE X e (t D)) : PE X e (fun σ H Q => ∃ D, t D σ H Q) := ⟨fun pins s σ H Q I ⟨D, q⟩ => (h D).run pins s σ H Q I q⟩
structure PTsD (X : Cx) (W : Wd) (ifs : List Expr) (g : TDT) (c : Nat) : Prop where
  run : PTs X ifs (liftT W g c)
theorem pts_ex {t : Addr → TT} (h : ∀ D, PTs X ifs (t D)) : PTs X ifs (fun σ H Q => ∃ D, t D σ H Q) := ⟨fun pins s σ H Q I ⟨D, q⟩ => (h D).run pins s σ H Q I q⟩
def gYes : TDT := fun _ K => K true
theorem dts_nil : PTsD X W [] gYes 0 := ⟨⟨fun pins s σ H Q I ⟨k, Δ, K, h1, h2, h3, h4⟩ => pts_nil.run pins s σ H Q I (h4 true H h3 h2.refl)⟩⟩
theorem dts_one {t : Expr} {gt : TDT} (h : DT X W t gt c) : PTsD X W [t] gt c := ⟨pts_one h⟩
variable {scope : Scope} {own : List (Str × Nat)} {gi : TDL} {gg : TDG} {gt : TDT} {ge : TDE} {ts : List Nat}
abbrev Blk (X : Cx) (W : Wd) (scope : Scope) (Φ : Cx → Wd → Prop) : Prop := ∀ (D : Addr) (s : Shared) (H : Hp) (C : Addr) (cl : List (Str × Addr)) (fp : List Addr), Φ (X.blk s H scope (compEnvC scope cl C X.env) fp) (W.blk D)
theorem df_lc (C : Cxt X W N sc kk) (m : Nat) (hi : DIb X W tg iter gi ci) (ok : BlkOk N sc scope own) (hg : Blk X W scope fun X W => DG X W tg gg ts) (ht : Blk X W scope fun X W => PTsD X W ifs gt ct) (he : Blk X W scope fun X W => DE X W elt ge ce)
    (hts : ∀ j ∈ ts, j ∈ own.map (·.2)) (hs : ∀ x, foldedSetIterable iter X.env x = pure x := by intro _; rfl) : DF X W (.ListComp elt [⟨tg, iter, ifs, 0⟩] scope pos) (gLcC (ct + ce) m (own.map (·.2)) gi gg gt ge) (ci + m) :=
  pe_imp (pe_lc C.calm (by rw [C.hN]; exact C.nd) hi (by rw [C.hN, C.hsc]; exact ok) (fun s H C' cl fp => pg_ex fun D => hg D s H C' cl fp) (fun s H C' cl fp => pts_ex fun D => (ht D s H C' cl fp).run) (fun s H C' cl fp => pe_ex fun D => he D s H C' cl fp) hs) (lc_use C hts)
end
end DL
namespace DL
open PySem PySem.Spec PyProof.Rows L2
variable [Lams]
section
variable {X : Cx} {W : Wd} {N : List Str} {sc : Scope} {kk : Nat} {tg elt iter : Expr} {ifs : List Expr} {ct ci ce : Nat} {pos py spos : Pos} {scope : Scope} {own : List (Str × Nat)} {gi : TDL} {gg : TDG} {gt : TDT} {ge : TDE} {ts : List Nat} {y : Str} {i : Nat}
theorem sw_yes (C : Cxt X W N sc kk) {gs : List Comprehension} {l : Nat} (hk : sc.kind = .function) (hy : sc.names.lookup y = some .local) (hl : (py.line == pos.line) = true) (ha : (scope.names.any fun (n, k) => n == y && (k == .local || k == .cell)) = false) :
    swapsWith (.ListComp elt gs scope pos) (some (.Name y py)) l X.env = pure true := sw_true (by rw [C.hsc]; exact hk) (by rw [C.hsc]; exact hy) hl ha
theorem sw_no (C : Cxt X W N sc kk) {gs : List Comprehension} {l : Nat} (hy : sc.names.lookup y = some .cell) : swapsWith (.ListComp elt gs scope pos) (some (.Name y py)) l X.env = pure false := by
  have ky : X.env.kindOf y = some .cell := by
    show X.env.scope.names.lookup y = _
    rw [C.hsc]
    exact hy
  unfold swapsWith
  simp only [ky]
  rw [show ((some NameKind.cell : Option NameKind) == some NameKind.local) = false from rfl, Bool.and_false, Bool.false_and, Bool.false_and]
/-- x = [..], changed later -/
theorem ds_lcF (C : Cxt X W N sc kk) (m : Nat) (hx : N[i]? = some y) (hy : sc.names.lookup y = some .local) (hk : sc.kind = .function) (hl : (py.line == pos.line) = true) (ha : (scope.names.any fun (n, k) => n == y && (k == .local || k == .cell)) = false)
    (hi : DIb X W tg iter gi ci) (ok : BlkOk N sc scope own) (hg : Blk X W scope fun X W => DG X W tg gg ts) (ht : Blk X W scope fun X W => PTsD X W ifs gt ct) (he : Blk X W scope fun X W => DE X W elt ge ce) (hts : ∀ j ∈ ts, j ∈ own.map (·.2)) (hs : ∀ x, foldedSetIterable iter X.env x = pure x := by intro _; rfl) :
    DS X W (.Assign [.Name y py] (.ListComp elt [⟨tg, iter, ifs, 0⟩] scope pos) spos) (gSetF i (gLcC (ct + ce) m (own.map (·.2)) gi gg gt ge)) (ci + m) := by
  refine ps_imp (ps_setLc C.calm (by rw [C.hN]; exact C.nd) (i := i) (by rw [C.hN]; exact hx) (by rw [C.hsc]; exact hy) (sw_yes C hk hy hl ha) hi (by rw [C.hN, C.hsc]; exact ok) (fun s H C' cl fp => pg_ex fun D => hg D s H C' cl fp) (fun s H C' cl fp => pts_ex fun D => (ht D s H C' cl fp).run) (fun s H C' cl fp => pe_ex fun D => he D s H C' cl fp) hs) ?_
  rintro E σ H ⟨k, Δ, D2, h1, h2, h3, h4⟩
  refine lc_use C hts σ H _ ⟨k, Δ, _, h1, h2, h3, ?_⟩
  rintro ds a xs H' ⟨li, q⟩ c hn ha hz r
  obtain ⟨e2, kp⟩ := h2.own (i := i) (by rw [← h2.len]; exact li) c hn ha hz r C.ok
  exact h4.nx _ _ _ q e2 kp
/-- x = [..] -/
theorem ds_lc (C : Cxt X W N sc kk) (m : Nat) (hx : N[i]? = some y) (hy : sc.names.lookup y = some .local) (hk : sc.kind = .function) (hl : (py.line == pos.line) = true) (ha : (scope.names.any fun (n, k) => n == y && (k == .local || k == .cell)) = false)
    (hi : DIb X W tg iter gi ci) (ok : BlkOk N sc scope own) (hg : Blk X W scope fun X W => DG X W tg gg ts) (ht : Blk X W scope fun X W => PTsD X W ifs gt ct) (he : Blk X W scope fun X W => DE X W elt ge ce) (hts : ∀ j ∈ ts, j ∈ own.map (·.2)) (hs : ∀ x, foldedSetIterable iter X.env x = pure x := by intro _; rfl) :
    DS X W (.Assign [.Name y py] (.ListComp elt [⟨tg, iter, ifs, 0⟩] scope pos) spos) (gSet i (gL (gLcC (ct + ce) m (own.map (·.2)) gi gg gt ge))) (ci + m) := by
  refine ps_imp (ps_setLc C.calm (by rw [C.hN]; exact C.nd) (i := i) (by rw [C.hN]; exact hx) (by rw [C.hsc]; exact hy) (sw_yes C hk hy hl ha) hi (by rw [C.hN, C.hsc]; exact ok) (fun s H C' cl fp => pg_ex fun D => hg D s H C' cl fp) (fun s H C' cl fp => pts_ex fun D => (ht D s H C' cl fp).run) (fun s H C' cl fp => pe_ex fun D => he D s H C' cl fp) hs) ?_
  rintro E σ H ⟨k, Δ, D2, h1, h2, h3, h4⟩
  refine lc_use C hts σ H _ ⟨k, Δ, _, h1, h2, h3, ?_⟩
  rintro ds a xs H' q c hn ha hz r
  exact h4.nx _ _ _ q ((h2.chg C.ok c).dat (.lst ha (h2.notA hn) hz (r.map fun b o e n => ⟨e, fun q => n (.inl q)⟩))) (kp_chg_set C c fun _ z => by cases z)
end
end DL
/-! DLOps: operators and built-ins over data. -/
namespace DL
open PySem PySem.Spec PyProof.Rows L2
variable [Lams]
section
variable {K : PySem.W.Frag} {A : Addr → Prop} {H H' : Hp} {v : V}
theorem RepB.int {i : Int} (r : RepB K A H v (.int i)) : v = .int i := by
  rcases r with r | ⟨a, xs, ds, e1, e2, _⟩
  · cases r
    rfl
  · cases e2
theorem RepB.bool {i : Bool} (r : RepB K A H v (.bool i)) : v = .bl i := by
  rcases r with r | ⟨a, xs, ds, e1, e2, _⟩
  · cases r
    rfl
  · cases e2
theorem RepB.none (r : RepB K A H v .none) : v = .non := by
  rcases r with r | ⟨a, xs, ds, e1, e2, _⟩
  · cases r
    rfl
  · cases e2
theorem RepB.str {x : Str} (r : RepB K A H v (.str x)) : v = .str x ∧ x.length ≤ sizeLine := by
  rcases r with r | ⟨a, xs, ds, e1, e2, _⟩
  · cases r
    exact ⟨rfl, by assumption⟩
  · cases e2
theorem RepB.list {ds : List D} (r : RepB K A H v (.list ds)) : ∃ a xs, v = .ref a ∧ H a = some (.lst xs) ∧ RepAll K A H xs ds ∧ ds.length ≤ sizeLine := by
  rcases r with r | ⟨a, xs, ds, e1, e2, e3, r, z⟩
  · cases r with
    | lst e n z r => exact ⟨_, _, rfl, e, r, z⟩
  · cases e2
    exact ⟨a, xs, e1, e3, r, z⟩
theorem RepB.tup {ds : List D} (r : RepB K A H v (.tuple ds)) : ∃ a xs, v = .ref a ∧ SqT K H a xs ∧ RepAll K A H xs ds ∧ ds.length ≤ sizeLine ∧ Rep K A H (.ref a) (.tuple ds) := by
  rcases r with r | ⟨a, xs, ds, e1, e2, _⟩
  · cases r with
    | tup s z r => exact ⟨_, _, rfl, sqT s, r, z, .tup s z r⟩
  · cases e2
/-- a dict that is one -/
def realB : List (D × D) → Bool
  | (.bool _, _) :: _ => false
  | _ => true
theorem RepB.dict {ps : List (D × D)} (r : RepB K A H v (.dict ps)) (hr : realB ps = true) : ∃ a kvs, v = .ref a ∧ H a = some (.dK kvs) ∧ RepKv K A H kvs ps ∧ Rep K A H (.ref a) (.dict ps) := by
  rcases r with r | ⟨a, xs, ds, e1, e2, _⟩
  · cases r with
    | dic e n r => exact ⟨_, _, rfl, e, r, .dic e n r⟩
    | fno => cases hr
    | fnc => cases hr
    | exc => cases hr
  · cases e2
mutual
theorem Rep.dp : ∀ {v : V} {d : D}, Rep K A H v d → d.canLay0 = true → Dp K H v d
  | _, _, .non, _ => .non
  | _, _, .bl b, _ => .bl b
  | _, _, .int i, _ => .int i
  | _, _, .str x _, _ => .str x
  | _, _, .lst e _ _ r, h => .lst (.inl (.inl e)) (RepAll.dp r (by simpa [PyData.canLay0] using h))
  | _, _, .tup s _ r, h => .tup (sqT s) (RepAll.dp r (by simpa [PyData.canLay0] using h))
  | _, _, .dic _ _ _, h => by simp [PyData.canLay0] at h
  | _, _, .fno _ _ _ _ _, h => by simp [fnO, PyData.canLay0] at h
  | _, _, .fnc _ _ _ _ _ _ _ _, h => by simp [fnC, PyData.canLay0] at h
  | _, _, .exc _ _ _ _ _ _, h => by simp [excD, PyData.canLay0] at h
theorem RepAll.dp : ∀ {vs : List V} {ds : List D}, RepAll K A H vs ds → PyData.canLayAll0 ds = true → DpAll K H vs ds
  | _, _, .nil, _ => .nil
  | _, _, .cons r t, h => by
    have h' := h
    simp only [PyData.canLayAll0, Bool.and_eq_true] at h'
    exact .cons (Rep.dp r h'.1) (RepAll.dp t h'.2)
end
theorem RepB.dp {d : D} (r : RepB K A H v d) (h : d.canLay0 = true) : Dp K H v d := by
  rcases r with r | ⟨a, xs, ds, rfl, rfl, e, r, z⟩
  · exact r.dp h
  · exact .lst (.inl (.inl e)) (r.dp (by simpa [PyData.canLay0] using h))
theorem ext_laid {q : Addr} {o : HO} (hq : H q = .none) : ∀ b u, H b = some u → upd H q o b = some u := fun b u e => by
  rw [upd_ne (ne_of_none e hq)]
  exact e
theorem dom_not {q : Addr} (dm : ∀ a, A a → H a ≠ .none) (hq : H q = .none) : ¬ A q := fun z => dm q z hq
end

/-! ### arithmetic -/
def MulOk (i j : Int) : Prop := CMulW i j
def addD : D → D → (D → Prop) → Prop
  | .int i, .int j, K => K (.int (i + j))
  | .str x, .str y, K => x.length + y.length ≤ sizeLine ∧ K (.str (x ++ y))
  | .list xs, .list ys, K => xs.length + ys.length ≤ sizeLine ∧ K (.list (xs ++ ys))
  | .tuple xs, .tuple ys, K => xs.length + ys.length ≤ sizeLine ∧ K (.tuple (xs ++ ys))
  | _, _, _ => False
def subD : D → D → (D → Prop) → Prop
  | .int i, .int j, K => K (.int (i - j))
  | _, _, _ => False
def mulD : D → D → (D → Prop) → Prop
  | .int i, .int j, K => MulOk i j ∧ K (.int (i * j))
  | .str x, .int j, K => PySem.MulOk x j ∧ (Txt.mul x j).length ≤ sizeLine ∧ K (.str (Txt.mul x j))
  | .list xs, .int j, K => -(2 ^ 63) ≤ j ∧ j < 2 ^ 63 ∧ xs.length * j.toNat ≤ sizeLine ∧ K (.list (List.replicate j.toNat xs).flatten)
  | _, _, _ => False
def fdivD : D → D → (D → Prop) → Prop
  | .int i, .int j, K => CDivW i j ∧ K (.int (i / j))
  | _, _, _ => False
def modD : D → D → (D → Prop) → Prop
  | .int i, .int j, K => 0 < j ∧ K (.int (i % j))
  | _, _, _ => False
def powD : D → D → (D → Prop) → Prop
  | .int i, .int j, K => 0 ≤ j ∧ (Builtin.Int.intBits i : Int) * j ≤ 2 ^ 27 ∧ K (.int (i ^ j.toNat))
  | _, _, _ => False
theorem strLen_app (x y : Str) : (x ++ y).length = x.length + y.length := strLen_append x y
section
variable {X : Cx}
/-- an int operator of the hand layer, over data -/
theorem dop_ii {f : Value → Value → Sem Value} {Cd : Int → Int → Prop} {g : Int → Int → V} {gd : Int → Int → D} (h : OpR X f (rI Cd g)) (hg : ∀ i j A H, Rep X.K A H (g i j) (gd i j)) :
    DOp X f fun x y K => match x, y with
      | .int i, .int j => Cd i j ∧ K (gd i j)
      | _, _ => False := by
  intro pins s σ H x y v u Q I rx ry ⟨A, dx, dy, K, dm, r1, r2, q, hQ⟩
  match dx, dy, q with
  | .int i, .int j, q => exact h pins s σ H x y v u Q I rx ry ⟨i, j, r1.int, r2.int, q.1, hQ _ _ H q.2 (fun _ _ e => e) (hg i j A H)⟩
theorem dop_mono {f : Value → Value → Sem Value} {g g' : D → D → (D → Prop) → Prop} (h : DOp X f g) (m : ∀ x y K, g' x y K → g x y K) : DOp X f g' := fun pins s σ H x y v u Q I rx ry ⟨A, dx, dy, K, dm, r1, r2, q, hQ⟩ =>
  h pins s σ H x y v u Q I rx ry ⟨A, dx, dy, K, dm, r1, r2, m _ _ _ q, hQ⟩
theorem dop_add : DOp X (binaryOp .Add) addD := by
  intro pins s σ H x y v u Q I rx ry ⟨A, dx, dy, K, dm, r1, r2, q, hQ⟩
  match dx, dy, q with
  | .int i, .int j, q => exact op_add pins s σ H x y v u Q I rx ry ⟨i, j, r1.int, r2.int, hQ _ _ H q (fun _ _ e => e) (.int _)⟩
  | .str i, .str j, q => exact op_add_str pins s σ H x y v u Q I rx ry ⟨i, j, r1.str.1, r2.str.1, q.1, hQ _ _ H q.2 (fun _ _ e => e) (.str _ (by rw [strLen_app]; exact q.1))⟩
  | .list xs, .list ys, q =>
    obtain ⟨a, vs, rfl, ha, ra, _⟩ := r1.list
    obtain ⟨b, us, rfl, hb, rb, _⟩ := r2.list
    have l1 := ra.length
    have l2 := rb.length
    exact op_cat pins s σ H _ _ v u Q I rx ry ⟨a, b, vs, us, rfl, rfl, ha, hb, by have := q.1; omega, fun p hp => hQ _ _ _ q.2 (ext_laid hp) (.lst upd_same (dom_not dm hp) (by rw [List.length_append]; exact q.1) ((ra.append rb).map (kp_laid hp)))⟩
  | .tuple xs, .tuple ys, q =>
    obtain ⟨a, vs, rfl, ha, ra, _, wa⟩ := r1.tup
    obtain ⟨b, us, rfl, hb, rb, _, wb⟩ := r2.tup
    have l1 := ra.length
    have l2 := rb.length
    refine op_catA pins s σ H _ _ v u Q I rx ry ⟨a, b, vs, us, rfl, rfl, ha, hb, by have := q.1; omega, fun z => ?_, fun _ z => ?_, fun _ _ p hp => hQ _ _ _ q.2 (ext_laid hp) (.tup (.inl ⟨.inl upd_same, dom_not dm hp⟩) (by rw [List.length_append]; exact q.1) ((ra.append rb).map (kp_laid hp)))⟩
    · subst z
      have z : xs = [] := List.eq_nil_of_length_eq_zero l1.symm
      subst z
      exact hQ _ _ H q.2 (fun _ _ e => e) wb
    · subst z
      have z : ys = [] := List.eq_nil_of_length_eq_zero l2.symm
      subst z
      refine hQ _ _ H q.2 (fun _ _ e => e) ?_
      rw [List.append_nil]
      exact wa
theorem dop_sub : DOp X (binaryOp .Sub) subD := by
  intro pins s σ H x y v u Q I rx ry ⟨A, dx, dy, K, dm, r1, r2, q, hQ⟩
  match dx, dy, q with
  | .int i, .int j, q => exact op_sub pins s σ H x y v u Q I rx ry ⟨i, j, r1.int, r2.int, hQ _ _ H q (fun _ _ e => e) (.int _)⟩
theorem RepAll.rep {K : PySem.W.Frag} {A : Addr → Prop} {H : Hp} {vs : List V} {ds : List D} (r : RepAll K A H vs ds) : ∀ n : Nat, RepAll K A H (List.replicate n vs).flatten (List.replicate n ds).flatten
  | 0 => .nil
  | n + 1 => by
    rw [List.replicate_succ, List.replicate_succ, List.flatten_cons, List.flatten_cons]
    exact r.append (RepAll.rep r n)
theorem flat_len {α : Type} (l : List α) : ∀ n : Nat, (List.replicate n l).flatten.length = l.length * n
  | 0 => by simp
  | n + 1 => by rw [List.replicate_succ, List.flatten_cons, List.length_append, flat_len l n, Nat.mul_succ, Nat.add_comm]
theorem dop_mul : DOp X (binaryOp .Mult) mulD := by
  intro pins s σ H x y v u Q I rx ry ⟨A, dx, dy, K, dm, r1, r2, q, hQ⟩
  match dx, dy, q with
  | .int i, .int j, q => exact op_mulW pins s σ H x y v u Q I rx ry ⟨i, j, r1.int, r2.int, q.1, hQ _ _ H q.2 (fun _ _ e => e) (.int _)⟩
  | .str z, .int j, q =>
    obtain ⟨rfl, _⟩ := r1.str
    obtain rfl := r2.int
    obtain ⟨t, rfl⟩ := rx
    obtain ⟨t2, rfl⟩ := ry
    exact PySem.SB.mul q.1 fun t' k => ⟨.str _, H, I.tok _, ⟨t', rfl⟩, hQ _ _ H q.2.2 (fun _ _ e => e) (.str _ q.2.1)⟩
  | .list xs, .int j, q =>
    obtain ⟨a, vs, rfl, ha, ra, _⟩ := r1.list
    have l1 := ra.length
    exact op_rep pins s σ H _ _ v u Q I rx ry ⟨a, j, vs, rfl, r2.int, ha, q.1, q.2.1, by rw [l1]; exact q.2.2.1, fun p hp => hQ _ _ _ q.2.2.2 (ext_laid hp) (.lst upd_same (dom_not dm hp) (by rw [flat_len]; exact q.2.2.1) ((ra.rep _).map (kp_laid hp)))⟩
theorem dop_fdiv : DOp X (binaryOp .FloorDiv) fdivD := by
  intro pins s σ H x y v u Q I rx ry ⟨A, dx, dy, K, dm, r1, r2, q, hQ⟩
  match dx, dy, q with
  | .int i, .int j, q => exact op_fdivW pins s σ H x y v u Q I rx ry ⟨i, j, r1.int, r2.int, q.1, hQ _ _ H q.2 (fun _ _ e => e) (.int _)⟩
theorem dop_mod : DOp X (binaryOp .Mod) modD := by
  intro pins s σ H x y v u Q I rx ry ⟨A, dx, dy, K, dm, r1, r2, q, hQ⟩
  match dx, dy, q with
  | .int i, .int j, q => exact op_mod pins s σ H x y v u Q I rx ry ⟨i, j, r1.int, r2.int, q.1, hQ _ _ H q.2 (fun _ _ e => e) (.int _)⟩
theorem op_powW : OpR X (binaryOp .Pow) (rI (fun i j => 0 ≤ j ∧ (Builtin.Int.intBits i : Int) * j ≤ 2 ^ 27) fun i j => .int (i ^ j.toNat)) := opI fun _ _ _ _ _ _ _ hc q => pow_int hc.1 hc.2 q
theorem dop_pow : DOp X (binaryOp .Pow) powD := by
  intro pins s σ H x y v u Q I rx ry ⟨A, dx, dy, K, dm, r1, r2, q, hQ⟩
  match dx, dy, q with
  | .int i, .int j, q => exact op_powW pins s σ H x y v u Q I rx ry ⟨i, j, r1.int, r2.int, ⟨q.1, q.2.1⟩, hQ _ _ H q.2.2 (fun _ _ e => e) (.int _)⟩

/-! ### comparisons -/
def eqD : D → D → (D → Prop) → Prop
  | .int i, .int j, K => K (.bool (decide (i = j)))
  | .str i, .str j, K => K (.bool (decide (i = j)))
  | .bool i, .bool j, K => K (.bool (decide (i = j)))
  | x, y, K => SeqAt.shaped x = true ∧ SeqAt.shaped y = true ∧ K (.bool (PyData.eqv x y))
def neD : D → D → (D → Prop) → Prop
  | .int i, .int j, K => K (.bool (!decide (i = j)))
  | .str i, .str j, K => K (.bool (!decide (i = j)))
  | .bool i, .bool j, K => K (.bool (!decide (i = j)))
  | x, y, K => SeqAt.shaped x = true ∧ SeqAt.shaped y = true ∧ K (.bool (!PyData.eqv x y))
theorem scalInt (i j : Int) : decide ((.int i : V) = .int j) = decide (i = j) := by
  by_cases h : i = j
  · rw [decide_eq_true h, decide_eq_true (congrArg V.int h)]
  · rw [decide_eq_false h, decide_eq_false fun q => h (V.int.inj q)]
theorem scalStr (i j : Str) : decide ((.str i : V) = .str j) = decide (i = j) := by
  by_cases h : i = j
  · rw [decide_eq_true h, decide_eq_true (congrArg V.str h)]
  · rw [decide_eq_false h, decide_eq_false fun q => h (V.str.inj q)]
theorem scalBl (i j : Bool) : decide ((.bl i : V) = .bl j) = decide (i = j) := by
  by_cases h : i = j
  · rw [decide_eq_true h, decide_eq_true (congrArg V.bl h)]
  · rw [decide_eq_false h, decide_eq_false fun q => h (V.bl.inj q)]
theorem dop_eq (hu : X.A.units + 100 < cLine) : DOp X (compareOp .Eq) eqD := by
  intro pins s σ H x y v u Q I rx ry ⟨A, dx, dy, K, dm, r1, r2, q, hQ⟩
  have deep : SeqAt.shaped dx = true ∧ SeqAt.shaped dy = true ∧ K (.bool (PyData.eqv dx dy)) → wpAny (model X.prog X.w) X.A (compareOp .Eq v u) (EP X pins σ Q) X.xe s := fun q =>
    op_eqD (by omega) pins s σ H x y v u Q I rx ry ⟨dx, dy, r1.dp (SeqAt.canLay_of_shaped q.1), r2.dp (SeqAt.canLay_of_shaped q.2.1), q.1, q.2.1, hQ _ _ H q.2.2 (fun _ _ e => e) (.bl _)⟩
  unfold eqD at q
  split at q
  · exact op_eq pins s σ H x y v u Q I rx ry (by rw [r1.int, r2.int]; exact ⟨rfl, by rw [scalInt]; exact hQ _ _ H q (fun _ _ e => e) (.bl _)⟩)
  · exact op_eq pins s σ H x y v u Q I rx ry (by rw [r1.str.1, r2.str.1]; exact ⟨rfl, by rw [scalStr]; exact hQ _ _ H q (fun _ _ e => e) (.bl _)⟩)
  · exact op_eq pins s σ H x y v u Q I rx ry (by rw [r1.bool, r2.bool]; exact ⟨rfl, by rw [scalBl]; exact hQ _ _ H q (fun _ _ e => e) (.bl _)⟩)
  · exact deep q
theorem dop_ne (hu : X.A.units + 100 < cLine) : DOp X (compareOp .NotEq) neD := by
  intro pins s σ H x y v u Q I rx ry ⟨A, dx, dy, K, dm, r1, r2, q, hQ⟩
  have deep : SeqAt.shaped dx = true ∧ SeqAt.shaped dy = true ∧ K (.bool (!PyData.eqv dx dy)) → wpAny (model X.prog X.w) X.A (compareOp .NotEq v u) (EP X pins σ Q) X.xe s := fun q =>
    op_neD (by omega) pins s σ H x y v u Q I rx ry ⟨dx, dy, r1.dp (SeqAt.canLay_of_shaped q.1), r2.dp (SeqAt.canLay_of_shaped q.2.1), q.1, q.2.1, hQ _ _ H q.2.2 (fun _ _ e => e) (.bl _)⟩
  unfold neD at q
  split at q
  · exact op_ne pins s σ H x y v u Q I rx ry (by rw [r1.int, r2.int]; exact ⟨rfl, by rw [scalInt]; exact hQ _ _ H q (fun _ _ e => e) (.bl _)⟩)
  · exact op_ne pins s σ H x y v u Q I rx ry (by rw [r1.str.1, r2.str.1]; exact ⟨rfl, by rw [scalStr]; exact hQ _ _ H q (fun _ _ e => e) (.bl _)⟩)
  · exact op_ne pins s σ H x y v u Q I rx ry (by rw [r1.bool, r2.bool]; exact ⟨rfl, by rw [scalBl]; exact hQ _ _ H q (fun _ _ e => e) (.bl _)⟩)
  · exact deep q
def ltD : D → D → (D → Prop) → Prop
  | .int i, .int j, K => K (.bool (decide (i < j)))
  | .str i, .str j, K => K (.bool (decide (i.cps.toList < j.cps.toList)))
  | _, _, _ => False
def leD : D → D → (D → Prop) → Prop
  | .int i, .int j, K => K (.bool (decide (i ≤ j)))
  | _, _, _ => False
def gtD : D → D → (D → Prop) → Prop
  | .int i, .int j, K => K (.bool (decide (j < i)))
  | _, _, _ => False
def geD : D → D → (D → Prop) → Prop
  | .int i, .int j, K => K (.bool (decide (j ≤ i)))
  | _, _, _ => False
theorem dop_lt : DOp X (compareOp .Lt) ltD := by
  intro pins s σ H x y v u Q I rx ry ⟨A, dx, dy, K, dm, r1, r2, q, hQ⟩
  match dx, dy, q with
  | .int i, .int j, q => exact op_lt pins s σ H x y v u Q I rx ry ⟨i, j, r1.int, r2.int, hQ _ _ H q (fun _ _ e => e) (.bl _)⟩
  | .str i, .str j, q => exact op_lt_str pins s σ H x y v u Q I rx ry ⟨i, j, r1.str.1, r2.str.1, hQ _ _ H q (fun _ _ e => e) (.bl _)⟩
theorem dop_le : DOp X (compareOp .LtE) leD := by
  intro pins s σ H x y v u Q I rx ry ⟨A, dx, dy, K, dm, r1, r2, q, hQ⟩
  match dx, dy, q with
  | .int i, .int j, q => exact op_le pins s σ H x y v u Q I rx ry ⟨i, j, r1.int, r2.int, hQ _ _ H q (fun _ _ e => e) (.bl _)⟩
theorem dop_gt : DOp X (compareOp .Gt) gtD := by
  intro pins s σ H x y v u Q I rx ry ⟨A, dx, dy, K, dm, r1, r2, q, hQ⟩
  match dx, dy, q with
  | .int i, .int j, q => exact op_gt pins s σ H x y v u Q I rx ry ⟨i, j, r1.int, r2.int, hQ _ _ H q (fun _ _ e => e) (.bl _)⟩
theorem dop_ge : DOp X (compareOp .GtE) geD := by
  intro pins s σ H x y v u Q I rx ry ⟨A, dx, dy, K, dm, r1, r2, q, hQ⟩
  match dx, dy, q with
  | .int i, .int j, q => exact op_ge pins s σ H x y v u Q I rx ry ⟨i, j, r1.int, r2.int, hQ _ _ H q (fun _ _ e => e) (.bl _)⟩
/-- is None, is not None; is True .. -/
def isNo : D → Bool
  | .none => true
  | _ => false
def isD : D → D → (D → Prop) → Prop
  | x, .none, K => K (.bool (isNo x))
  | .bool a, .bool b, K => K (.bool (decide (a = b)))
  | _, _, _ => False
def isnotD : D → D → (D → Prop) → Prop
  | x, .none, K => K (.bool (!isNo x))
  | .bool a, .bool b, K => K (.bool (!decide (a = b)))
  | _, _, _ => False
theorem isNone_of {K : PySem.W.Frag} {A : Addr → Prop} {H : Hp} {v : V} {d : D} (r : RepB K A H v d) : decide (v = .non) = isNo d := by
  rcases r with r | ⟨a, xs, ds, rfl, rfl, _⟩
  · cases r <;> rfl
  · rfl
theorem dop_is : DOp X (compareOp .Is) isD := by
  intro pins s σ H x y v u Q I rx ry ⟨A, dx, dy, K, dm, r1, r2, q, hQ⟩
  unfold isD at q
  split at q
  · exact op_isN pins s σ H x y v u Q I rx ry ⟨r2.none, hQ _ _ H (by rw [isNone_of r1]; exact q) (fun _ _ e => e) (.bl _)⟩
  · exact op_is_bl pins s σ H x y v u Q I rx ry ⟨_, _, r1.bool, r2.bool, hQ _ _ H q (fun _ _ e => e) (.bl _)⟩
  · exact q.elim
theorem dop_isnot : DOp X (compareOp .IsNot) isnotD := by
  intro pins s σ H x y v u Q I rx ry ⟨A, dx, dy, K, dm, r1, r2, q, hQ⟩
  unfold isnotD at q
  split at q
  · refine op_notN pins s σ H x y v u Q I rx ry ⟨r2.none, hQ _ _ H ?_ (fun _ _ e => e) (.bl _)⟩
    rw [isNone_of r1]
    exact q
  · exact op_isnot_bl pins s σ H x y v u Q I rx ry ⟨_, _, r1.bool, r2.bool, hQ _ _ H q (fun _ _ e => e) (.bl _)⟩
  · exact q.elim
/-- x in y: a sign in a text, an item of a list or tuple -/
def inD : D → D → (D → Prop) → Prop
  | .str x, .str y, K => ∃ c : Nat, x = ⟨#[c]⟩ ∧ K (.bool (decide (c ∈ y.cps.toList)))
  | x, .list ys, K => SeqAt.shaped x = true ∧ SeqAt.shaped (.list ys) = true ∧ K (.bool (ys.any fun z => PyData.eqv z x))
  | x, .tuple ys, K => SeqAt.shaped x = true ∧ SeqAt.shaped (.tuple ys) = true ∧ K (.bool (ys.any fun z => PyData.eqv z x))
  | _, _, _ => False
def notinD : D → D → (D → Prop) → Prop
  | .str x, .str y, K => ∃ c : Nat, x = ⟨#[c]⟩ ∧ K (.bool (!decide (c ∈ y.cps.toList)))
  | x, .list ys, K => SeqAt.shaped x = true ∧ SeqAt.shaped (.list ys) = true ∧ K (.bool (!ys.any fun z => PyData.eqv z x))
  | x, .tuple ys, K => SeqAt.shaped x = true ∧ SeqAt.shaped (.tuple ys) = true ∧ K (.bool (!ys.any fun z => PyData.eqv z x))
  | _, _, _ => False
theorem dop_in (hu : X.A.units + 100 < cLine) : DOp X (compareOp .In) inD := by
  intro pins s σ H x y v u Q I rx ry ⟨A, dx, dy, K, dm, r1, r2, q, hQ⟩
  unfold inD at q
  split at q
  · obtain ⟨c, rfl, q⟩ := q
    exact op_in_sign pins s σ H x y v u Q I rx ry ⟨c, _, r1.str.1, r2.str.1, hQ _ _ H q (fun _ _ e => e) (.bl _)⟩
  · obtain ⟨h1, h2, q⟩ := q
    exact op_inD (by omega) pins s σ H x y v u Q I rx ry ⟨_, _, r1.dp (SeqAt.canLay_of_shaped h1), r2.dp (SeqAt.canLay_of_shaped h2), h1, h2, hQ _ _ H q (fun _ _ e => e) (.bl _)⟩
  · obtain ⟨h1, h2, q⟩ := q
    obtain ⟨as, t1⟩ := Dp.reads I _ x v (r1.dp (SeqAt.canLay_of_shaped h1)) rx
    obtain ⟨bs, t2⟩ := Dp.reads I _ y u (r2.dp (SeqAt.canLay_of_shaped h2)) ry
    exact SeqAt.in_tuple_reads t2 t1 (SeqAt.canLay_of_shaped h2) (SeqAt.canLay_of_shaped h1) (room_in_shaped h1 (by omega)) ⟨.bl _, H, I, rfl, hQ _ _ H q (fun _ _ e => e) (.bl _)⟩
  · exact q.elim
theorem dop_notin (hu : X.A.units + 100 < cLine) : DOp X (compareOp .NotIn) notinD := by
  intro pins s σ H x y v u Q I rx ry ⟨A, dx, dy, K, dm, r1, r2, q, hQ⟩
  unfold notinD at q
  split at q
  · obtain ⟨c, rfl, q⟩ := q
    exact op_notIn_sign pins s σ H x y v u Q I rx ry ⟨c, _, r1.str.1, r2.str.1, hQ _ _ H q (fun _ _ e => e) (.bl _)⟩
  · obtain ⟨h1, h2, q⟩ := q
    exact op_notInD (by omega) pins s σ H x y v u Q I rx ry ⟨_, _, r1.dp (SeqAt.canLay_of_shaped h1), r2.dp (SeqAt.canLay_of_shaped h2), h1, h2, hQ _ _ H q (fun _ _ e => e) (.bl _)⟩
  · obtain ⟨h1, h2, q⟩ := q
    obtain ⟨as, t1⟩ := Dp.reads I _ x v (r1.dp (SeqAt.canLay_of_shaped h1)) rx
    obtain ⟨bs, t2⟩ := Dp.reads I _ y u (r2.dp (SeqAt.canLay_of_shaped h2)) ry
    exact SeqAt.notIn_tuple_reads t2 t1 (SeqAt.canLay_of_shaped h2) (SeqAt.canLay_of_shaped h1) (room_in_shaped h1 (by omega)) ⟨.bl _, H, I, rfl, hQ _ _ H q (fun _ _ e => e) (.bl _)⟩
  · exact q.elim

/-! ### subscripts, slices -/
def ixD : D → D → (D → Prop) → Prop
  | .list xs, .int i, K => ∃ d, atI xs i = some d ∧ K d
  | .tuple xs, .int i, K => ∃ d, atI xs i = some d ∧ K d
  | .str x, .int i, K => ∃ c, atI x.cps.toList i = some c ∧ K (.str ⟨#[c]⟩)
  | _, _, _ => False
theorem RepAll.at {K : PySem.W.Frag} {A : Addr → Prop} {H : Hp} {vs : List V} {ds : List D} {i : Int} {d : D} (r : RepAll K A H vs ds) (h : atI ds i = some d) : ∃ v, atI vs i = some v ∧ Rep K A H v d := by
  unfold atI at h ⊢
  rw [r.length]
  cases hn : ixN ds.length i with
  | none =>
    rw [hn] at h
    cases h
  | some j =>
    rw [hn] at h
    exact r.getD h
theorem dix : DIx X ixD := by
  intro value slice pins s σ H x y v u Q I rx ry ⟨A, dx, dy, K, dm, r1, r2, q, hQ⟩ hs
  match dx, dy, q with
  | .list xs, .int i, q =>
    obtain ⟨d, hd, q⟩ := q
    obtain ⟨a, vs, rfl, ha, ra, _⟩ := r1.list
    obtain ⟨w, hw, rw'⟩ := ra.at hd
    exact ix_list value slice pins s σ H _ y v u Q I rx ry ⟨a, vs, i, w, rfl, r2.int, .inl (.inl ha), hw, hQ _ _ H q (fun _ _ e => e) rw'⟩ hs
  | .tuple xs, .int i, q =>
    obtain ⟨d, hd, q⟩ := q
    obtain ⟨a, vs, rfl, ha, ra, _⟩ := r1.tup
    obtain ⟨w, hw, rw'⟩ := ra.at hd
    exact ix_tup value slice pins s σ H _ y v u Q I rx ry ⟨a, vs, i, w, rfl, r2.int, ha, hw, hQ _ _ H q (fun _ _ e => e) rw'⟩ hs
  | .str z, .int i, q =>
    obtain ⟨c, hc, q⟩ := q
    exact ix_str value slice pins s σ H _ y v u Q I rx ry ⟨z, i, c, r1.str.1, r2.int, r1.str.2, hc, hQ _ _ H q (fun _ _ e => e) (.str _ (one_sign c))⟩ hs
def cutL {α : Type} (xs : List α) (lo hi : Option Int) : List α := (xs.drop (HT.sIx xs.length 0 lo)).take (HT.sIx xs.length xs.length hi - HT.sIx xs.length 0 lo)
theorem cutL_len {α : Type} (xs : List α) (lo hi : Option Int) : (cutL xs lo hi).length ≤ xs.length := by
  unfold cutL
  rw [List.length_take, List.length_drop]
  omega
theorem RepAll.cut {K : PySem.W.Frag} {A : Addr → Prop} {H : Hp} {vs : List V} {ds : List D} (r : RepAll K A H vs ds) (lo hi : Option Int) : RepAll K A H (cutV vs lo hi) (cutL ds lo hi) := by
  unfold cutV cutL
  rw [r.length]
  exact (r.drop _).take _
def slD : D → Option Int → Option Int → (D → Prop) → Prop
  | .tuple xs, lo, hi, K => K (.tuple (cutL xs lo hi))
  | .str x, lo, hi, K => K (.str (cutS x lo hi))
  | .list xs, lo, hi, K => K (.list (cutL xs lo hi))
  | _, _, _, _ => False
def slFD : D → Option Int → Option Int → (List D → Prop) → Prop
  | .list xs, lo, hi, K => K (cutL xs lo hi)
  | _, _, _, _ => False
theorem dsl : SlR X (rDS X.K slD) := by
  intro pins s σ H x v vl vu lo hi sl Q I rx hs pl pu ⟨A, dx, K, dm, r1, q, hQ⟩
  match dx, q with
  | .tuple xs, q =>
    obtain ⟨a, vs, rfl, ha, ra, z, wa⟩ := r1.tup
    refine sl_tupA pins s σ H _ v vl vu lo hi sl Q I rx hs pl pu ⟨a, vs, rfl, ha, fun h => ?_, fun _ p hp => hQ _ _ _ q (ext_laid hp) (.tup (.inl ⟨.inl upd_same, dom_not dm hp⟩) (Nat.le_trans (cutL_len _ _ _) z) ((ra.cut lo hi).map (kp_laid hp)))⟩
    refine hQ _ _ H q (fun _ _ e => e) ?_
    have e : cutL xs lo hi = xs := by
      unfold cutL
      rw [← ra.length, h.1, h.2, List.drop_zero, Nat.sub_zero, ra.length]
      exact List.take_length
    rw [e]
    exact wa
  | .str z, q =>
    exact sl_str pins s σ H _ v vl vu lo hi sl Q I rx hs pl pu ⟨z, r1.str.1, r1.str.2, hQ _ _ H q (fun _ _ e => e) (.str _ (Nat.le_trans (cutS_length _ _ _) r1.str.2))⟩
  | .list xs, q =>
    obtain ⟨a, vs, rfl, ha, ra, z⟩ := r1.list
    exact sl_list pins s σ H _ v vl vu lo hi sl Q I rx hs pl pu ⟨a, vs, rfl, .inl (.inl ha), fun p hp => hQ _ _ _ q (ext_laid hp) (.lst upd_same (dom_not dm hp) (Nat.le_trans (cutL_len _ _ _) z) ((ra.cut lo hi).map (kp_laid hp)))⟩
theorem dslF : SlR X (rDSF X.K slFD) := by
  intro pins s σ H x v vl vu lo hi sl Q I rx hs pl pu ⟨A, dx, K, dm, r1, q, hQ⟩
  match dx, q with
  | .list xs, q =>
    obtain ⟨a, vs, rfl, ha, ra, z⟩ := r1.list
    exact sl_list pins s σ H _ v vl vu lo hi sl Q I rx hs pl pu ⟨a, vs, rfl, .inl (.inl ha), fun p hp => hQ _ _ _ _ q (ext_laid hp) hp upd_same (Nat.le_trans (cutL_len _ _ _) z) ((ra.cut lo hi).map (kp_laidA hp))⟩
end
end DL
/-! DLLam: known cells; a lambda's promise, its body, its call. -/
namespace DL
open PySem PySem.Spec PyProof.Rows L2
variable [Lams]

/-! ### cells that are known for a while -/
def erase (cs : List Addr) (H : Hp) : Hp := fun b => if b ∈ cs then none else H b
def back (cs : List Addr) (H H' : Hp) : Hp := fun b => if b ∈ cs then H b else H' b
def frzC (h : Heap) (cs : List Addr) (H : Hp) : Hp := fun b => if b ∈ cs then (h.get? b).map CellF else H b
theorem erase_in {cs : List Addr} {H : Hp} {b : Addr} (h : b ∈ cs) : erase cs H b = none := if_pos h
theorem erase_out {cs : List Addr} {H : Hp} {b : Addr} (h : b ∉ cs) : erase cs H b = H b := if_neg h
theorem back_in {cs : List Addr} {H H' : Hp} {b : Addr} (h : b ∈ cs) : back cs H H' b = H b := if_pos h
theorem back_out {cs : List Addr} {H H' : Hp} {b : Addr} (h : b ∉ cs) : back cs H H' b = H' b := if_neg h
theorem frzC_in {g : Heap} {cs : List Addr} {H : Hp} {b : Addr} {o : Obj} (h : b ∈ cs) (e : g.get? b = some o) : frzC g cs H b = some (CellF o) := by
  unfold frzC
  rw [if_pos h, e]
  rfl
theorem frzC_out {g : Heap} {cs : List Addr} {H : Hp} {b : Addr} (h : b ∉ cs) : frzC g cs H b = H b := if_neg h
theorem erase_some {cs : List Addr} {H : Hp} {b : Addr} {o : HO} (h : erase cs H b = some o) : b ∉ cs ∧ H b = some o := by
  by_cases m : b ∈ cs
  · rw [erase_in m] at h
    cases h
  · rw [erase_out m] at h
    exact ⟨m, h⟩
section
variable {P : Program} {w : World} {K : PySem.W.Frag} {mg : Str → Option Value} {base : Heap} {A : Around} {outer : List Env} {s s' : Shared} {H H' : Hp} {h : Heap} {cs : List Addr} {Q : VK} {E : XK} {u : Value}
theorem ok_of (x : HOk P w H h) (h1 : ∀ a o, H' a = some o → H a = some o ∨ ∃ u, o = CellF u ∧ h.get? a = some u) (h2 : ∀ a o, H a = some o → (∀ u, o ≠ CellF u) → H' a = some o) : HOk P w H' h := fun a o e => by
  rcases h1 a o e with q | ⟨u, rfl, q⟩
  · exact (x a o q).stay (fun b u _ r => r) (fun b r => h2 b _ r fun u z => by cases z) fun b xs r => h2 b _ r fun u z => by cases z
  · exact ⟨q, trivial, ⟨u, q⟩, fun _ _ _ _ => trivial⟩
def AllF (cs : List Addr) (H : Hp) : Prop := ∀ c ∈ cs, ∃ o, H c = some (CellF o)
theorem AllF.ne (hc : AllF cs H) {b : Addr} {o : HO} (e : H b = some o) (n : ∀ u, o ≠ CellF u) : b ∉ cs := fun m => by
  obtain ⟨u, q⟩ := hc b m
  rw [e] at q
  exact n u (Option.some.inj q)
theorem ok_erase (hc : AllF cs H) (x : HOk P w H h) : HOk P w (erase cs H) h := ok_of x (fun a o e => .inl (erase_some e).2) fun a o e n => by
  rw [erase_out (hc.ne e n)]
  exact e
theorem env_erase (hc : AllF cs H) (e0 : Env0 P w K mg base A outer s H) : Env0 P w K mg base A outer s (erase cs H) := by
  have nn : ∀ b, H b = none → erase cs H b = none := fun b n => by
    by_cases m : b ∈ cs
    · exact erase_in m
    · rw [erase_out m]
      exact n
  exact ⟨e0.frames, e0.mod, fun b o e => ⟨(e0.bs b o e).1, nn b (e0.bs b o e).2⟩, e0.bsz, e0.funs, fun b hb => nn b (e0.frf b hb), ok_erase hc e0.hok, e0.bare⟩
/-- behind a lambda's body: its cells are known again -/
theorem ce_thaw (hc : AllF cs H) (e0 : Env0 P w K mg base A outer s H) (c : CE outer P w (erase cs H) s (fun v H' => (∀ b ∈ cs, H' b = none) → Q v (back cs H H')) u s') : CE outer P w H s Q u s' := by
  obtain ⟨v, H', os, bare, un, hok, r, q⟩ := c
  have nin : ∀ {b : Addr}, H b = none → b ∉ cs := fun {b} n m => by
    obtain ⟨u, z⟩ := hc b m
    rw [n] at z
    cases z
  have ken : ∀ {b : Addr}, H b = none → erase cs H b = none := fun {b} n => by
    rw [erase_out (nin n)]
    exact n
  have kc : ∀ b o, b ∈ cs → H b = some (CellF o) → s'.heap.get? b = some o := fun b o m e => by
    have z : s.heap.get? b = some o := (e0.hok b _ e).1
    refine un.keep b o z (erase_in m) (fun hb => ?_) (by simp)
    have := e0.frf b hb
    rw [e] at this
    cases this
  have gone : ∀ b ∈ cs, H' b = none := fun b m => by
    obtain ⟨o, e⟩ := hc b m
    exact un.free b o (e0.hok b _ e).1 (erase_in m) (by simp)
  refine ⟨v, back cs H H', os, bare, ⟨fun b o e n hb hx => un.keep b o e (ken n) hb hx, fun b o e n hb hx => un.slot b o e (ken n) hb hx, fun b o e n hx => ?_, un.there, fun b xs e => ?_, fun b o u e => ?_, fun b ps e => ?_⟩, ?_, r, q gone⟩
  · rw [back_out (nin n)]
    exact un.free b o e (ken n) hx
  · have m : b ∉ cs := hc.ne e fun u z => by cases z
    rw [back_out m]
    exact un.tups b xs (by rw [erase_out m]; exact e)
  · by_cases m : b ∈ cs
    · rw [back_in m]
      exact e
    · rw [back_out m]
      exact un.frzs b o u (by rw [erase_out m]; exact e)
  · have m : b ∉ cs := hc.ne e fun u z => by cases z
    rw [back_out m]
    exact un.tbls b ps (by rw [erase_out m]; exact e)
  · refine ok_of hok (fun b o e => ?_) fun b o e n => ?_
    · by_cases m : b ∈ cs
      · rw [back_in m] at e
        obtain ⟨u, z⟩ := hc b m
        rw [e] at z
        cases z
        exact .inr ⟨u, rfl, kc b u m e⟩
      · rw [back_out m] at e
        exact .inl e
    · rw [back_out fun m => by rw [gone b m] at e; cases e]
      exact e
theorem cx_thaw (hc : AllF cs H) (e0 : Env0 P w K mg base A outer s H) (c : L2.CX P w outer (erase cs H) s (fun cls d H' => (∀ b ∈ cs, H' b = none) → E cls d (back cs H H')) u s') : L2.CX P w outer H s E u s' := by
  obtain ⟨a, B, H', cls, d, rfl, fl, hok, un, na, os, bare, q⟩ := c
  have nin : ∀ {b : Addr}, H b = none → b ∉ cs := fun {b} n m => by
    obtain ⟨u, z⟩ := hc b m
    rw [n] at z
    cases z
  have ken : ∀ {b : Addr}, H b = none → erase cs H b = none := fun {b} n => by
    rw [erase_out (nin n)]
    exact n
  have kc : ∀ b o, b ∈ cs → H b = some (CellF o) → B.get? b = some o := fun b o m e => by
    have z : s.heap.get? b = some o := (e0.hok b _ e).1
    refine un.keep b o z (erase_in m) fun hb => ?_
    have := e0.frf b hb
    rw [e] at this
    cases this
  have gone : ∀ b ∈ cs, H' b = none := fun b m => by
    obtain ⟨o, e⟩ := hc b m
    exact un.free b o (e0.hok b _ e).1 (erase_in m)
  refine ⟨a, B, back cs H H', cls, d, rfl, fl, ?_, ⟨fun b o e n hb => un.keep b o e (ken n) hb, fun b o e hb => un.slot b o e hb, fun b o e n => ?_, un.there, fun b xs e => ?_, fun b o u e => ?_, fun b ps e => ?_⟩, ?_, os, bare, q gone⟩
  · refine ok_of hok (fun b o e => ?_) fun b o e n => ?_
    · by_cases m : b ∈ cs
      · rw [back_in m] at e
        obtain ⟨u, z⟩ := hc b m
        rw [e] at z
        cases z
        exact .inr ⟨u, rfl, kc b u m e⟩
      · rw [back_out m] at e
        exact .inl e
    · rw [back_out fun m => by rw [gone b m] at e; cases e]
      exact e
  · rw [back_out (nin n)]
    exact un.free b o e (ken n)
  · have m : b ∉ cs := hc.ne e fun u z => by cases z
    rw [back_out m]
    exact un.tups b xs (by rw [erase_out m]; exact e)
  · by_cases m : b ∈ cs
    · rw [back_in m]
      exact e
    · rw [back_out m]
      exact un.frzs b o u (by rw [erase_out m]; exact e)
  · have m : b ∉ cs := hc.ne e fun u z => by cases z
    rw [back_out m]
    exact un.tbls b ps (by rw [erase_out m]; exact e)
  · rw [back_out fun m => ?_]
    · exact na
    · obtain ⟨o, e⟩ := hc a m
      have z := kc a o m e
      rw [fl.2.1] at z
      cases z
/-- a call's cells are known within the call alone -/
theorem hok_frz (hn : ∀ c ∈ cs, H c = none) (x : HOk P w H h) : HOk P w (frzC h cs H) h := ok_of x (fun a o e => by
  by_cases m : a ∈ cs
  · unfold frzC at e
    rw [if_pos m] at e
    cases g : h.get? a with
    | none =>
      rw [g] at e
      cases e
    | some ob =>
      rw [g] at e
      exact .inr ⟨ob, (Option.some.inj e).symm, rfl⟩
  · rw [frzC_out m] at e
    exact .inl e) fun a o e n => by
  rw [frzC_out fun m => by rw [hn a m] at e; cases e]
  exact e
theorem env_frz (hn : ∀ c ∈ cs, H c = none ∧ base.get? c = none ∧ c ∉ frs outer) (e0 : Env0 P w K mg base A outer s H) : Env0 P w K mg base A outer s (frzC s.heap cs H) :=
  ⟨e0.frames, e0.mod, fun b o e => ⟨(e0.bs b o e).1, by
    rw [frzC_out fun m => by rw [(hn b m).2.1] at e; cases e]
    exact (e0.bs b o e).2⟩, e0.bsz, e0.funs, fun b hb => by
    rw [frzC_out fun m => (hn b m).2.2 hb]
    exact e0.frf b hb, hok_frz (fun c m => (hn c m).1) e0.hok, e0.bare⟩
theorem ce_frz (hn : ∀ c ∈ cs, H c = none) (hg : ∀ c ∈ cs, ∃ o, s.heap.get? c = some o) (c : CE outer P w (frzC s.heap cs H) s (fun v H' => (∀ b ∈ cs, H' b = frzC s.heap cs H b) → Q v (erase cs H')) u s') : CE outer P w H s Q u s' := by
  obtain ⟨v, H', os, bare, un, hok, r, q⟩ := c
  have fz : ∀ b o, b ∈ cs → s.heap.get? b = some o → H' b = some (CellF o) := fun b o m e => un.frzs b o _ (frzC_in m e)
  have fc : ∀ b ∈ cs, H' b = frzC s.heap cs H b := fun b m => by
    obtain ⟨o, e⟩ := hg b m
    rw [fz b o m e, frzC_in m e]
  have hc : AllF cs H' := fun b m => by
    obtain ⟨o, e⟩ := hg b m
    exact ⟨o, fz b o m e⟩
  refine ⟨v, erase cs H', os, bare, ⟨fun b o e n hb hx => ?_, fun b o e n hb hx => ?_, fun b o e n hx => ?_, un.there, fun b xs e => ?_, fun b o u e => ?_, fun b ps e => ?_⟩, ok_erase hc hok, r, q fc⟩
  · by_cases m : b ∈ cs
    · exact (hok b _ (fz b o m e)).1
    · exact un.keep b o e (by rw [frzC_out m]; exact n) hb hx
  · by_cases m : b ∈ cs
    · exact ⟨o.slots, (hok b _ (fz b o m e)).1⟩
    · exact un.slot b o e (by rw [frzC_out m]; exact n) hb hx
  · by_cases m : b ∈ cs
    · exact erase_in m
    · rw [erase_out m]
      exact un.free b o e (by rw [frzC_out m]; exact n) hx
  all_goals
    have m : b ∉ cs := fun m => by
      rw [hn b m] at e
      cases e
    rw [erase_out m]
  · exact un.tups b xs (by rw [frzC_out m]; exact e)
  · exact un.frzs b o u (by rw [frzC_out m]; exact e)
  · exact un.tbls b ps (by rw [frzC_out m]; exact e)
end
end DL
/-! DLLam2: a lambda's promise and its body. -/
namespace DL
open PySem PySem.Spec PyProof.Rows L2
variable [Lams]

/-! ### data without lambdas that are away from their frames -/
def notFn : List (D × D) → Bool
  | (.bool true, .int _) :: (.bool false, _) :: _ => false
  | _ => true
mutual
def plainD : D → Bool
  | .list ds => plainL ds
  | .tuple ds => plainL ds
  | .dict ps => notFn ps && plainK ps
  | _ => true
def plainL : List D → Bool
  | [] => true
  | d :: ds => plainD d && plainL ds
def plainK : List (D × D) → Bool
  | [] => true
  | (_, d) :: ps => plainD d && plainK ps
end
section
variable {K : PySem.W.Frag} {A : Addr → Prop} {H H' : Hp}
theorem rd_of {a : Addr} {xs : List V} (h : ∀ a o, H a = some o → (∀ u, o ≠ CellF u) → H' a = some o) (r : Rd H a (.tup xs)) : Rd H' a (.tup xs) := by
  rcases r with r | ⟨o, r⟩
  · exact .inl (h a _ r fun u z => by cases z)
  · exact .inr ⟨o, h a _ r fun u z => by cases z⟩
mutual
/-- such data lean on no known cell -/
theorem Rep.plain (h : ∀ a o, H a = some o → (∀ u, o ≠ CellF u) → H' a = some o) : ∀ {v : V} {d : D}, Rep K A H v d → plainD d = true → Rep K A H' v d
  | _, _, .non, _ => .non
  | _, _, .bl b, _ => .bl b
  | _, _, .int i, _ => .int i
  | _, _, .str x z, _ => .str x z
  | _, _, .lst e n z r, p => .lst (h _ _ e fun u z => by cases z) n z (RepAll.plain h r (by simpa [plainD] using p))
  | _, _, .tup s z r, p => .tup (s.elim (fun q => .inl ⟨rd_of h q.1, q.2⟩) .inr) z (RepAll.plain h r (by simpa [plainD] using p))
  | _, _, .dic e n r, p => .dic (h _ _ e fun u z => by cases z) n (RepKv.plain h r (by simp only [plainD, Bool.and_eq_true] at p; exact p.2))
  | _, _, .fno t e n e2 n2, _ => .fno t (h _ _ e fun u z => by cases z) n (h _ _ e2 fun u z => by cases z) n2
  | _, _, .fnc _ _ _ _ _ _ _ _, p => by simp [fnC, plainD, notFn] at p
  | _, _, .exc e n e2 n2 k r, p => .exc (h _ _ e fun u z => by cases z) n (h _ _ e2 fun u z => by cases z) n2 k (Rep.plain h r (by simpa [excD, plainD, notFn, plainK] using p))
theorem RepAll.plain (h : ∀ a o, H a = some o → (∀ u, o ≠ CellF u) → H' a = some o) : ∀ {vs : List V} {ds : List D}, RepAll K A H vs ds → plainL ds = true → RepAll K A H' vs ds
  | _, _, .nil, _ => .nil
  | _, _, .cons r t, p => .cons (Rep.plain h r (by simp only [plainL, Bool.and_eq_true] at p; exact p.1)) (RepAll.plain h t (by simp only [plainL, Bool.and_eq_true] at p; exact p.2))
theorem RepKv.plain (h : ∀ a o, H a = some o → (∀ u, o ≠ CellF u) → H' a = some o) : ∀ {vs : List (Key × V)} {ds : List (D × D)}, RepKv K A H vs ds → plainK ds = true → RepKv K A H' vs ds
  | _, _, .nil, _ => .nil
  | _, _, .cons r t, p => .cons (Rep.plain h r (by simp only [plainK, Bool.and_eq_true] at p; exact p.1)) (RepKv.plain h t (by simp only [plainK, Bool.and_eq_true] at p; exact p.2))
end
theorem erase_keeps {cs : List Addr} (hc : AllF cs H) : ∀ a o, H a = some o → (∀ u, o ≠ CellF u) → erase cs H a = some o := fun a o e n => by
  rw [erase_out (hc.ne e n)]
  exact e
theorem ArgsOk.dats {P : Addr → Prop} : ∀ {vs : List V} {ds : List D}, ArgsOk K A P H vs (ds.map AV.dat) → RepAll K A H vs ds
  | _, [], .nil => .nil
  | _, _ :: _, .dat r t => .cons r (ArgsOk.dats t)
theorem RepAll.args {P : Addr → Prop} : ∀ {vs : List V} {ds : List D}, RepAll K A H vs ds → ArgsOk K A P H vs (ds.map AV.dat)
  | _, _, .nil => .nil
  | _, _, .cons r t => .dat r (RepAll.args t)
/-- the cells of the names -/
def csOf (cl : List (Str × Addr)) (ys : List Str) : List Addr := ys.filterMap fun y => cl.lookup y
theorem csOf_mem {cl : List (Str × Addr)} {ys : List Str} {y : Str} {c : Addr} (hy : y ∈ ys) (h : cl.lookup y = some c) : c ∈ csOf cl ys := List.mem_filterMap.mpr ⟨y, hy, h⟩
theorem CellsAt.all {cl : List (Str × Addr)} : ∀ {ys : List Str} {vs : List V}, CellsAt A H cl ys vs → ∀ c ∈ csOf cl ys, (∃ o, H c = some (CellF o)) ∧ ¬ A c
  | _, _, .nil, c, m => by cases m
  | _, _, .cons (y := y) (ys := ys) l e d n r t, c, m => by
    obtain ⟨z, hz, q⟩ := List.mem_filterMap.mp m
    rcases List.mem_cons.mp hz with hz | hz
    · subst hz
      rw [l] at q
      cases q
      exact ⟨⟨_, e⟩, n⟩
    · exact t.all c (csOf_mem hz q)
theorem CellsAt.len {cl : List (Str × Addr)} : ∀ {ys : List Str} {vs : List V}, CellsAt A H cl ys vs → vs.length = ys.length
  | _, _, .nil => rfl
  | _, _, .cons _ _ _ _ _ t => congrArg (· + 1) t.len
theorem CellsAt.at {P : Program} {w : World} {h : Heap} {cl : List (Str × Addr)} (ok : HOk P w H h) : ∀ {ys : List Str} {vs : List V}, CellsAt A H cl ys vs → ∀ (i : Nat) (y : Str), ys[i]? = some y → ∃ v c u, vs[i]? = some v ∧ cl.lookup y = some c ∧ h.IsCell c (some u) ∧ RelV v u
  | _, _, .nil, i, y, e => by simp at e
  | _, _, .cons l e d n r t, 0, y, q => by
    simp only [List.getElem?_cons_zero, Option.some.injEq] at q
    subst q
    exact ⟨_, _, _, rfl, l, ⟨_, (ok _ _ e).1, d⟩, r⟩
  | _, _, .cons l e d n r t, i + 1, y, q => by
    obtain ⟨v, c, u, h1, h2⟩ := t.at ok i y (by simpa using q)
    exact ⟨v, c, u, by simpa using h1, h2⟩
end

/-! ### the context of a lambda's body -/
/-- a lambda without parameters -/
structure LamSc (sc : Scope) (ys : List Str) : Prop where
  kind : sc.kind = .function
  co : sc.isCoroutine = false
  gen : sc.isGenerator = false
  own : ∀ y ∈ sc.names, y.2 ≠ .local ∧ y.2 ≠ .cell
  free : ∀ y ∈ sc.names, y.2 = .free → y.1 ∈ ys
  nd : ys.Nodup
def lamScB (sc : Scope) (ys : List Str) : Bool :=
  decide (sc.kind = .function) && !sc.isCoroutine && !sc.isGenerator && decide ys.Nodup && sc.names.all fun y => !decide (y.2 = .local) && !decide (y.2 = .cell) && (!decide (y.2 = .free) || decide (y.1 ∈ ys))
theorem lamSc_by {sc : Scope} {ys : List Str} (h : lamScB sc ys = true) : LamSc sc ys := by
  unfold lamScB at h
  simp only [Bool.and_eq_true, Bool.or_eq_true, Bool.not_eq_true', decide_eq_true_eq, decide_eq_false_iff_not, List.all_eq_true] at h
  obtain ⟨⟨⟨⟨h1, h2⟩, h3⟩, h5⟩, h4⟩ := h
  exact ⟨h1, h2, h3, fun y hy => (h4 y hy).1, fun y hy e => ((h4 y hy).2).elim (fun z => absurd e z) id, h5⟩
def lamK (P : Program) (w : World) (K : PySem.W.Frag) (mg : Str → Option Value) (base : Heap) (N : List Str) (A : Around) (outer : List Env) (s : Shared) (H : Hp) (E : XK) (ev : Env) : Cx where
  prog := P
  w := w
  K := K
  mg := mg
  base := base
  A := A.deeper ev
  N := N
  s_0 := s
  H_0 := H
  env := ev
  outer := outer
  stack := ev :: outer
  ex := []
  fn := fun _ => false
  calm := true
  pn := []
  xe := fun e s' => wpAny (model P w) (A.deeper ev) (leaving ev e) (fun _ s'' => L2.CX P w outer H s E e s'') (fun e' s'' => L2.CX P w outer H s E e' s'') s'
abbrev lamEv (q : Str) (sc : Scope) (L f c' : Addr) (cl : List (Str × Addr)) : Env := PySem.W.envX q sc L f (.ref c') cl
section
variable {P : Program} {w : World} {K : PySem.W.Frag} {mg : Str → Option Value} {base : Heap} {A : Around} {outer : List Env} {s : Shared} {H : Hp} {E : XK}
theorem lamK_start {sc : Scope} {ys : List Str} {cl : List (Str × Addr)} {q : Str} {f c' : Addr} {A0 : Addr → Prop} {vs : List V} {h₁ : Heap} {tk : Nat} (S : LamSc sc ys) (hd : A.handled = none) (e0 : Env0 P w K mg base A outer s H) (kc : ClOk cl ys) (ca : CellsAt A0 H cl ys vs)
    (hns : h₁.Ns s.heap.objs.size fun y => ([] : List (Str × Value)).reverse.lookup y) (kp : ∀ b o, s.heap.get? b = some o → h₁.get? b = some o) :
    Inv (lamK P w K mg base ys A outer s (erase (csOf cl ys) H) E (lamEv q sc s.heap.objs.size f c' cl)) [] (vs.map some) (erase (csOf cl ys) H) { s with heap := h₁, toks := tk } := by
  have hc : AllF (csOf cl ys) H := fun c m => (ca.all c m).1
  have e1 := env_erase hc e0
  have at_ : ∀ {i : Nat} {y : Str}, ys[i]? = some y → ∃ v c u, vs[i]? = some v ∧ cl.lookup y = some c ∧ s.heap.IsCell c (some u) ∧ RelV v u := fun {i y} e => ca.at e0.hok i y e
  have has : ∀ {y : Str}, sc.names.lookup y = some .free → ∃ i, ys[i]? = some y := fun {y} hl => by
    obtain ⟨i, hi, e⟩ := List.mem_iff_getElem.mp (S.free _ (PySem.mem_of_lookup hl) rfl)
    exact ⟨i, by rw [List.getElem?_eq_getElem hi, e]⟩
  have noA : ∀ b : Addr, b ∉ ([] : List Addr) := fun b z => absurd z (by simp)
  have cellOf : ∀ {y : Str} {c : Addr}, cl.lookup y = some c → ∃ v, h₁.IsCell c v := fun {y c} e => by
    obtain ⟨i, hi, z⟩ := List.mem_iff_getElem.mp (kc.mem y c e)
    obtain ⟨v, c2, u, _, e2, ⟨o, ho, hd'⟩, _⟩ := at_ (i := i) (y := y) (by rw [List.getElem?_eq_getElem hi, z])
    rw [e] at e2
    cases e2
    exact ⟨_, o, kp _ _ ho, hd'⟩
  refine ⟨⟨e0.mod, S.kind, rfl, rfl, Nat.le_refl _, kc.inj, fun y hy => ?_, fun y c z _ => ?_, fun _ => hd, Around.frames_deeper e0.frames, .inr ⟨rfl, rfl⟩, fun b z => absurd z (noA b), e1.bs, e1.bsz, fun b _ _ => noA b, fun b z => absurd z (noA b), e1.funs, e1.frf⟩,
    rfl, e0.bare, Un.kept kp, ⟨_, hns, fun i y v e1 e2 e3 => ?_⟩, fun y c e => cellOf e, e1.hok.fresh (Nat.le_refl _), fun y c e => erase_in (csOf_mem (kc.mem y c e) e), fun q hq => absurd (show q ∈ ([] : List (Addr × Obj)) ++ [] from hq) (by simp), e1.hok.kept kp, ?_⟩
  · have hy : sc.names.lookup y = some .cell ∨ sc.names.lookup y = some .free := hy
    rcases hy with hy | hy
    · exact absurd rfl (S.own _ (PySem.mem_of_lookup hy)).2
    · obtain ⟨i, hi⟩ := has hy
      obtain ⟨v, c, u, _, e, _⟩ := at_ hi
      exact ⟨c, e⟩
  · have z : false = true := z
    cases z
  · have e3 : Vis sc y := e3
    have e1 : ys[i]? = some y := e1
    rcases e3 with k | k | k
    · exact absurd rfl (S.own _ (PySem.mem_of_lookup k)).1
    · exact absurd rfl (S.own _ (PySem.mem_of_lookup k)).2
    · obtain ⟨v2, c, u, hv, e, ⟨o, ho, hd'⟩, r⟩ := at_ e1
      rw [List.getElem?_map, hv] at e2
      cases e2
      exact ⟨u, r, .inr ⟨.inr k, c, e, o, kp _ _ ho, hd'⟩⟩
  · rw [List.length_map]
    exact ca.len
end
end DL
/-! DLLam3: a lambda's promise by its body. -/
namespace DL
open PySem PySem.Spec PyProof.Rows L2
variable [Lams]

/-- what lambda n promises -/
structure LamD (P : Program) (w : World) (K : PySem.W.Frag) (mg : Str → Option Value) (base : Heap) (k n : Nat) (F : FSp) (c : Nat) : Prop where
  run : ∀ (L : LamC) (W : Wd) (as : List AV) (Kd : D → Prop) (A : Around) (outer : List Env) (s : Shared) (H : Hp) (f c' : Addr) (cl : List (Str × Addr)) (q : Str) (vs : List V) (Q : VK) (E : XK), Lams.tab n = some L → A.guards = some [] → Room k A → Env0 P w K mg base A outer s H →
    H f = some (LamO f n cl c' q) → H c' = some (LamX.CodeO c' q) → ClOk cl L.names → CellsAt W.A0 H cl L.names vs → Entry W K c H → ArgsOk K W.A0 W.P H vs as → F as Kd W.E → (∀ d v H', Kd d → Fin W c H' → Rep K W.A0 H' v d → Q v H') →
    (∀ C dd v d H', ExcK K C → W.E (.ref C) d → Fin W c H' → H' dd = some (.xd [("value", v)]) → H dd = none → Rep K W.A0 H' v d → E (.ref C) (some dd) H') → codeAny (model P w) A (.call (.ref f) ⟨[], []⟩) (CR (L2.CX P w) outer P w H s Q E) s
section
variable {W : Wd} {c : Nat} {H H' : Hp} {cs : List Addr}
abbrev Wd.er (W : Wd) (cs : List Addr) (H : Hp) : Wd := { W with H0 := erase cs H }
theorem back_kp {A : Addr → Prop} (gone : ∀ b ∈ cs, H' b = none) : Kp A A H' (back cs H H') := fun a o e n => ⟨by
  rw [back_out fun m => by rw [gone a m] at e; cases e]
  exact e, n⟩
theorem fin_thaw (hH : W.H0 = H) (hv : ∀ b, W.vol b → b ∉ cs) (gone : ∀ b ∈ cs, H' b = none) (f : Fin (W.er cs H) c H') : Fin W c (back cs H H') := by
  refine ⟨fun b o e n => ?_, fun b p => ?_, fun p hp => ?_⟩
  · by_cases m : b ∈ cs
    · rw [back_in m]
      rw [hH] at e
      exact e
    · rw [back_out m]
      exact f.since b o (show erase cs H b = _ by rw [erase_out m]; rw [hH] at e; exact e) n
  · obtain ⟨x, y, z, e, r⟩ := f.pots b p
    exact ⟨x, y, z, by rw [back_out (hv b (.inl p))]; exact e, r⟩
  · obtain ⟨ps, e, t, a⟩ := f.tabs p hp
    refine ⟨ps, by rw [back_out (hv p.1 (.inr ⟨p.2, hp⟩))]; exact e, t, fun pos cv hcv => ?_⟩
    obtain ⟨c', e1, e2⟩ := a pos cv hcv
    exact ⟨c', e1, by rw [back_out fun m => by rw [gone c' m] at e2; cases e2]; exact e2⟩
theorem nth_dats : ∀ (ds : List D) (i : Nat), nth (ds.map Sv.dat) i = .un ∨ ∃ d, nth (ds.map Sv.dat) i = .dat d ∧ ds[i]? = some d
  | [], _ => .inl rfl
  | d :: _, 0 => .inr ⟨d, rfl, rfl⟩
  | _ :: ds, i + 1 => (nth_dats ds i).imp id fun ⟨d, h1, h2⟩ => ⟨d, h1, by simpa using h2⟩
end
section
variable {P : Program} {w : World} {K : PySem.W.Frag} {mg : Str → Option Value} {base : Heap} {k n c cb : Nat} {L : LamC}
/-- the lambda's reading, of what its names hold -/
def lamF (g : (Value → D → Prop) → TDE) : FSp := fun as Kd E => ∃ ds, as = ds.map AV.dat ∧ plainL ds = true ∧ g E (ds.map Sv.dat) Kd
theorem lamd_of (ht : Lams.tab n = some L) (S : LamSc L.scope L.names) (hbind : ∀ (q : Str) (cl : List (Str × Addr)) (pm cv ctv : Value), bindArgs (PySem.W.kla_fn "<lambda>" q L.params L.body L.scope cl pm cv ctv) ⟨[], []⟩ = pure []) {g : (Value → D → Prop) → TDE} (hcb : cb ≤ c)
    (hbody : ∀ (X : Cx) (W : Wd) (E : Value → D → Prop), W.E = E → X.prog = P → X.w = w → X.K = K → X.mg = mg → X.base = base → Cxt X W L.names L.scope k → DE X W L.body (g E) cb) : LamD P w K mg base (k + 1) n (lamF g) c := by
  refine ⟨fun L' W as Kd A outer s H f c' cl q vs Q E ht' hg hr e0 hf hco kc ca en ra hF hQ hE => ?_⟩
  rw [ht] at ht'
  cases ht'
  obtain ⟨hK, hH, hc0, ok, dom, pots, tabs⟩ := en
  obtain ⟨ds, rfl, pl, hF⟩ := hF
  subst hK
  have hc : AllF (csOf cl L.names) H := fun c m => (ca.all c m).1
  have hv : ∀ b, W.vol b → b ∉ csOf cl L.names := fun b p m => (ca.all b m).2 (ok.sub b p)
  have back : ∀ b o, base.get? b = some o → s.heap.get? b = some o := fun b o e => (e0.bs b o e).1
  obtain ⟨⟨L2, pm, ctv, ht2, of1⟩, _, _⟩ := e0.hok f _ hf
  rw [ht] at ht2
  cases ht2
  obtain ⟨⟨oc, fs, t, hoc, hdc, hvc⟩, _, _⟩ := e0.hok c' _ hco
  refine PySem.W.kla_callFunE hr.depth of1 rfl S.co S.gen rfl ⟨c', oc, fs, t, rfl, hoc, hdc, hvc⟩ ?_
  rw [hbind]
  refine wpAny_pure (wpAny_newFunctionEnv (fun y hy => (S.own y hy).2) (fun y hy => absurd hy (by simp)) (fun h₁ hns hsb => ⟨(e0.mod.nolimit.keeps back).fresh _ hsb, ?_⟩) S.kind)
  show codeAny _ _ (.expr L.body (lamEv q L.scope s.heap.objs.size f c' cl)) _ _
  have kp : ∀ b o, s.heap.get? b = some o → h₁.get? b = some o := fun b o e => hsb.extBut b o (Nat.ne_of_lt (Heap.lt_size e)) (Heap.get?_push_of_some _ e)
  have J := lamK_start (q := q) (f := f) (c' := c') (tk := s.toks + ([] : List (Str × Value)).length) (E := fun cls d H' => (∀ b ∈ csOf cl L.names, H' b = none) → E cls d (DL.back (csOf cl L.names) H H')) S hr.hd e0 kc ca hns kp
  have ok' : (W.er (csOf cl L.names) H).Ok := ⟨fun b p => by
    show erase (csOf cl L.names) H b ≠ none
    rw [erase_out (hv b p), ← hH]
    exact ok.pdom b p, ok.sub, ok.lim, ok.tu, ok.tt⟩
  have C : Cxt (lamK P w W.K mg base L.names A outer s (erase (csOf cl L.names) H) (fun cls d H' => (∀ b ∈ csOf cl L.names, H' b = none) → E cls d (DL.back (csOf cl L.names) H H')) (lamEv q L.scope s.heap.objs.size f c' cl)) (W.er (csOf cl L.names) H) L.names L.scope k := by
    refine ⟨rfl, rfl, S.nd, hr.deeper _, hg, rfl, rfl, ok', ?_, passes_of rfl⟩
    refine (takes_of (E := fun cls d H' => (∀ b ∈ csOf cl L.names, H' b = none) → E cls d (DL.back (csOf cl L.names) H H')) rfl rfl rfl rfl).imp fun cls d σ H' h => ?_
    obtain ⟨C, dd, v, d', rfl, hk, rfl, h1, h2, h3, h4, h5⟩ := h
    intro gone
    have nd : dd ∉ csOf cl L.names := fun m => by
      rw [gone dd m] at h3
      cases h3
    refine hE C dd v d' _ hk h1 (fin_thaw hH hv gone (hc0 ▸ h2)) (by rw [back_out nd]; exact h3) ?_ (h5.map (back_kp gone))
    have h4 : erase (csOf cl L.names) H dd = none := h4
    rw [erase_out nd] at h4
    exact h4
  have hb := hbody _ (W.er (csOf cl L.names) H) W.E rfl rfl rfl rfl rfl rfl C
  have f0 : Fin (W.er (csOf cl L.names) H) 0 (erase (csOf cl L.names) H) := by
    refine ⟨fun b o e _ => e, fun b p => ?_, fun p hp => ?_⟩
    · obtain ⟨x, y, z, e, r⟩ := pots b p
      exact ⟨x, y, z, by rw [erase_out (hv b (.inl p))]; exact e, r⟩
    · obtain ⟨ps, e, t, a⟩ := tabs p hp
      refine ⟨ps, by rw [erase_out (hv p.1 (.inr ⟨p.2, hp⟩))]; exact e, t, fun pos cv hcv => ?_⟩
      obtain ⟨c2, e1, e2⟩ := a pos cv hcv
      exact ⟨c2, e1, by rw [erase_out (hc.ne e2 fun u z => by cases z)]; exact e2⟩
  have RA := (ArgsOk.dats ra).plain (erase_keeps hc) pl
  have len := ra.length
  rw [List.length_map] at len
  refine PySem.W.kla_codeExpr (wpAny_mono (hb.run [] _ (vs.map some) _ (fun v H' => (∀ b ∈ csOf cl L.names, H' b = none) → Q v (DL.back (csOf cl L.names) H H')) J ?_) (fun v s' hq => ?_) fun e s' hq => ?_)
  · refine ⟨0, ds.map Sv.dat, Kd, by show 0 + cb ≤ W.c0; omega, ⟨by rw [List.length_map, List.length_map]; exact len.symm, fun i => ?_, fun i j es es' a h1 => ?_, f0, fun a ha => ?_⟩, hF, fun d v H' hd hch hr' gone => ?_⟩
    · rcases nth_dats ds i with e | ⟨d, e, hi⟩
      · rw [e]
        trivial
      · rw [e]
        obtain ⟨v, hv', rv⟩ := RA.getD hi
        refine ⟨v, by rw [List.getElem?_map, hv']; rfl, rv.map (Kp.less fun a q => ?_)⟩
        rcases q with q | ⟨j, es, h1, _⟩
        · exact q
        · rcases nth_dats ds j with z | ⟨_, z, _⟩ <;> rw [z] at h1 <;> cases h1
    · rcases nth_dats ds i with z | ⟨_, z, _⟩ <;> rw [z] at h1 <;> cases h1
    · unfold Sol
      rw [erase_out fun m => (ca.all a m).2 ha]
      exact dom a ha
    · exact hQ d v _ hd (fin_thaw hH hv gone ((f0.chg hch).mono (by omega))) ((hr'.map (Kp.less fun a q => .inl q)).map (back_kp gone))
  · obtain ⟨w', H', J', rv, q⟩ := hq
    exact ce_thaw hc e0 ⟨w', H', J'.os, J'.bare, J'.base, J'.hok, rv, q⟩
  · exact wpAny_mono hq (fun _ s'' z => cx_thaw hc e0 z) fun _ s'' z => cx_thaw hc e0 z
end
end DL
/-! DLTry: try with one clause; the exception is known behind it. -/
namespace DL
open PySem PySem.Spec PyProof.Rows L2
variable [Lams]

/-- an exception's object -/
def exO (a : Addr) (cls : Value) (d : Option Addr) : HO := .ext fun h => ∃ o vs, h.get? a = some o ∧ o.cls = cls ∧ o.dict = d ∧ o.data = .fields vs
section
variable {X : Cx} {pins : List (Addr × Obj)} {σ : St} {H : Hp} {s : Shared}
/-- an object that stood beside is known from now on -/
theorem Inv.track (J : Inv X pins σ H s) {a : Addr} {o : Obj} {vs : Array Value} {cls : Value} {d : Option Addr} (ha : s.heap.get? a = some o) (na : H a = none) (new : X.s_0.heap.get? a = none) (np : ∀ p ∈ X.pn ++ pins, p.1 ≠ a) (hz : Zc cls d o) (hd : o.data = .fields vs) :
    Inv X pins σ (upd H a (exO a cls d)) s := by
  have nL : X.env.locals ≠ a := fun z => by
    obtain ⟨m, ⟨o', es, ep, e, hd', _⟩, _⟩ := J.loc
    rw [z, ha] at e
    cases e
    rw [hd] at hd'
    cases hd'
  refine ⟨J.ok, J.os, J.bare, ⟨J.base.keep, J.base.slot, fun b ob e n hx => ?_, J.base.there, fun b xs e => ?_, fun b ob u e => ?_, fun b ps e => ?_⟩, J.loc, J.cell, ?_, fun x c e => ?_, fun p hp => ?_, fun b u e => ?_, J.len⟩
  · rw [upd_ne fun z => by rw [z, new] at e; cases e]
    exact J.base.free b ob e n hx
  · rw [upd_ne (ne_of_none (J.base.tups b xs e) na)]
    exact J.base.tups b xs e
  · rw [upd_ne (ne_of_none (J.base.frzs b ob u e) na)]
    exact J.base.frzs b ob u e
  · obtain ⟨more, q⟩ := J.base.tbls b ps e
    exact ⟨more, by rw [upd_ne (ne_of_none q na)]; exact q⟩
  · rw [upd_ne nL]
    exact J.free
  · rw [upd_ne fun z => ?_]
    · exact J.freeC x c e
    · obtain ⟨v, o', e', hd'⟩ := J.cell x c e
      rw [z, ha] at e'
      cases e'
      rw [hd] at hd'
      cases hd'
  · obtain ⟨h1, h2, h3⟩ := J.pin p hp
    exact ⟨h1, by rw [upd_ne (np p hp)]; exact h2, h3⟩
  · by_cases hb : b = a
    · subst hb
      rw [upd_same] at e
      cases e
      exact ⟨⟨o, vs, ha, hz.1, hz.2, hd⟩, ⟨o, ha⟩, fun h1 h2 ⟨o, vs, e, r⟩ st => ⟨o, vs, st o e, r⟩⟩
    · rw [upd_ne hb] at e
      exact (J.hok b u e).stay (fun c w _ q => q) (fun c q => by rw [upd_ne (ne_of_none q na)]; exact q) fun c xs q => by rw [upd_ne (ne_of_none q na)]; exact q
end
/-- the ends behind a suite that had slot i's exception -/
def kEnds (a : Addr) (cls : Value) (d : Option Addr) (i : Nat) (D : Ends) : Ends :=
  { nx := fun σ' H' => D.nx (σ'.set i none) (upd H' a (exO a cls d)), rt := fun v H' => D.rt v (upd H' a (exO a cls d)), bk := fun σ' H' => D.bk (σ'.set i none) (upd H' a (exO a cls d)), ct := fun σ' H' => D.ct (σ'.set i none) (upd H' a (exO a cls d)) }
def wKp (K : PySem.W.Frag) (c : Value) (i : Nat) (ts : Addr → Value → Option Addr → TS) (Wout : WX) (D : Ends) : WX := fun cls d σ H =>
  ∃ b, PySem.W.exmOne K cls c = some b ∧ (b = true → ∀ a, H a = none → ts a cls d (kEnds a cls d i D) (σ.set i (some (.ref a))) H) ∧ (b = false → Wout cls d σ H)
section
variable {X : Cx} {x n : Str} {c : Value} {i : Nat} {body suite : List Stmt} {b₀ : Stmt} {np pos pos' : Pos} {tb : WX → TS} {ts : Addr → Value → Option Addr → TS} {Wout : WX}
/-- the class that the clause names -/
theorem names_run {a : Addr} {oe : Obj} {pins : List (Addr × Obj)} {σ : St} {H : Hp} {s : Shared} {Q E : Value → Shared → Prop} (hc : Names X x c) (S : Inv (X.suite a ((a, oe) :: (X.pn ++ pins))) [] σ H s) (q : Q c s) : wpAny (model X.prog X.w) (X.A.mark (some (.ref a))) (eval (.Name x np) X.env) Q E s := by
  obtain ⟨hg, hdbg, hm | ⟨hm, hv, hnn⟩⟩ := hc
  · exact ld_glob (X := X.suite a ((a, oe) :: (X.pn ++ pins))) S hg hm q hdbg
  · exact ld_blt (X := X.suite a ((a, oe) :: (X.pn ++ pins))) S hg hm hv q hnn hdbg
theorem not_frame {B h : Heap} {l : List Env} {a : Addr} {o : Obj} {vs : Array Value} (ff : h.FunFrames B l) (e : h.get? a = some o) (dd : o.data = .fields vs) : a ∉ frs l := fun hm => by
  obtain ⟨_, o', e', hnf⟩ := ff.mem hm
  rw [e] at e'
  cases e'
  exact hnf _ dd
theorem ps_try_keep (hs : X.stack = X.env :: X.outer) (hf : X.env.frame = some X.env.locals) (hex : X.ex = []) (hN : X.N.Nodup) (hi : X.N[i]? = some n) (hln : X.env.kindOf n = some .local) (hc : Names X x c) (tk : Takes X Wout)
    (hb : ∀ (W : WX) (pn : List (Addr × Obj)) (xe : Value → Shared → Prop), Takes (X.tr pn xe) W → PassesOwn (model X.prog X.w) X.A X.env xe → PSs (X.tr pn xe) body (tb W))
    (hsu : ∀ (a : Addr) (oe : Obj) (cls : Value) (d : Option Addr) (pn : List (Addr × Obj)), PSs (X.suite a ((a, oe) :: pn)) (b₀ :: suite) (ts a cls d)) :
    PS X (.Try body [.ExceptHandler (some (.Name x np)) (some n) (b₀ :: suite) pos'] [] [] pos) (fun D σ H => tb (wKp X.K c i ts Wout D) D σ H) := by
  refine ⟨fun pins s σ H D I h => ?_⟩
  have ok := I.ok
  have hfr : X.A.frames = some (X.env :: X.outer) := by rw [ok.frames, hs]
  refine wpAny_Try_except ?_
  refine wpAny_mono ((hb (wKp X.K c i ts Wout D) (X.pn ++ pins) (fun e s₁ => wpAny (model X.prog X.w) X.A (noteFrame e X.env) (fun _ s₂ => wpAny (model X.prog X.w) X.A (setFlight e none) (fun _ s₃ =>
    wpAny (model X.prog X.w) X.A (handleBy e X.env [.ExceptHandler (some (.Name x np)) (some n) (b₀ :: suite) pos']) (SP X pins D) X.xe s₃) X.xe s₂) X.xe s₁) (fun u s' xx => ?_) PassesOwn.looking).run [] s σ H D (I.toTry _) h) (fun f s1 hsp => ?_) fun e s1 he => he
  · obtain ⟨a, B, sI, pins', σ', H', cls, d, rfl, J', nb, up, sky, na, os, ag, b, hb1, hyes, hno⟩ := xx
    have J : Inv X pins σ' H' sI := J'.ofTry ok
    have sky' : Sky B (X.env :: X.outer) a (Zc cls d) X.env.locals s'.heap := by rw [← hs]; exact sky
    show wpAny (model X.prog X.w) X.A (noteFrame (.ref a) X.env) _ _ _
    refine Sky.land Zc.steady hfr hf sky' fun h3 fl3 up3 => ?_
    have J3 : Inv X pins σ' H' { s' with heap := h3 } := J.landed nb fl3.1 (up.trans up3) os ag
    obtain ⟨oe3, vs3, he3, hz3, hd3⟩ := fl3.there
    have nfr := not_frame fl3.2.2.1 he3 hd3
    have nL : a ≠ X.env.locals := fun z => nfr (List.mem_filterMap.mpr ⟨X.env, List.mem_cons_self, by rw [hf, z]⟩)
    have nF : a ∉ X.fs := fun hm => by
      obtain ⟨e, he, q⟩ := List.mem_filterMap.mp hm
      exact nfr (List.mem_filterMap.mpr ⟨e, List.mem_cons_of_mem _ he, q⟩)
    -- it is none of what stood ahead
    have nI : sI.heap.get? a = none := by
      cases e : sI.heap.get? a with
      | none => rfl
      | some o =>
        have z := nb a o e (by rw [hs]; exact nfr)
        rw [fl3.2.1] at z
        cases z
    have n0 : X.s_0.heap.get? a = none := by
      cases e : X.s_0.heap.get? a with
      | none => rfl
      | some o =>
        obtain ⟨o', q⟩ := J.base.there a o e (by rw [hex]; simp)
        rw [nI] at q
        cases q
    have npin : ∀ p ∈ X.pn ++ pins, p.1 ≠ a := fun p hp z => by
      have := (J.pin p hp).1
      rw [z, nI] at this
      cases this
    have S3 := J3.suite he3 hd3 na nL nF
    refine wpAny_handleBy_cons (codeAny_handlers_test ?_) (by intro q; cases q)
    have LT : PySem.W.Looks (model X.prog X.w) h3 (typeOf (.ref a)) cls := fun A Q E s k q => wpAny_typeOf_ref (k _ _ he3) (by rw [hz3.1]; exact q)
    refine names_run hc S3 ((PySem.W.exm_one (M := model X.prog X.w) J3.kIn LT hb1).here ?_)
    cases b with
    | true =>
      refine codeAny_handlers_suite_as ?_
      refine HandSPX.lands_againZ fl3 fun h4 fl4 up4 => ?_
      have J4 : Inv X pins σ' H' { s' with heap := h4 } := J.landed nb fl4.1 ((up.trans up3).trans up4) os ag
      obtain ⟨oe4, vs4, he4, hz4, hd4⟩ := fl4.there
      refine store_ok (X := X.suite a ((a, oe4) :: (X.pn ++ pins))) (v := .ref a) (J4.suite he4 hd4 na nL nF) hN hi (.inl hln) rfl (fun s5 S5 => ?_) (.inr hln)
      refine wpAny_mono ((hsu a oe4 cls d (X.pn ++ pins)).run [] s5 _ H' _ S5 (hyes rfl a na)) (fun f s6 hsp => ?_) fun _ _ z => False.elim z
      have fin : ∀ {σ6 : St} {H6 : Hp} {Q : Shared → Prop}, Inv (X.suite a ((a, oe4) :: (X.pn ++ pins))) [] σ6 H6 s6 → (∀ s7, Inv X pins (σ6.set i none) (upd H6 a (exO a cls d)) s7 → Q s7) →
          wpAny (model X.prog X.w) X.A (do bindName X.env n .none; unbindBehindTheSuite X.env n pos') (fun _ s7 => Q s7) X.xe s6 := fun {σ6 H6 Q} S6 hq => by
        obtain ⟨p1, p2, _⟩ := S6.pin (a, oe4) (List.mem_append_left _ List.mem_cons_self)
        have J6 := Inv.track (S6.unsuite ok) p1 p2 n0 npin hz4 hd4
        exact gone_ok J6 hN hi hln hq
      cases f with
      | next =>
        obtain ⟨σ6, H6, S6, q6⟩ := hsp
        exact fin S6 fun s7 J7 => ⟨_, _, J7, q6⟩
      | brk =>
        obtain ⟨σ6, H6, S6, q6⟩ := hsp
        exact fin S6 fun s7 J7 => ⟨_, _, J7, q6⟩
      | cont =>
        obtain ⟨σ6, H6, S6, q6⟩ := hsp
        exact fin S6 fun s7 J7 => ⟨_, _, J7, q6⟩
      | ret u =>
        obtain ⟨v6, σ6, H6, S6, r6, q6⟩ := hsp
        exact fin S6 fun s7 J7 => ⟨_, _, _, J7, r6, q6⟩
    | false =>
      show wpAny _ X.A (handleBy (.ref a) X.env []) _ _ _
      refine wpAny_handleBy_nil ?_
      obtain ⟨k1, k2, k3, oe, vs, T, oT, ts', he, hz, hd, h1, hr⟩ := id fl3
      unfold PySem.passOn
      refine wpAny_bind (wpAny_field he hd h1 ?_)
      rw [if_neg (show ¬ ((Value.ref T == Value.none) = true) from by simp)]
      have fin : wpAny (model X.prog X.w) X.A (setFlight (.ref a) X.env.frame) (fun _ s4 => wpAny (model X.prog X.w) X.A (throw (.ref a) : Sem Flow) (SP X pins D) X.xe s4) X.xe { s' with heap := h3 } := by
        rw [hf]
        refine HandSPX.setFlight_upZ fl3 fun h4 hh4 up4 => wpAny_throw (tk _ _ ?_)
        exact ⟨a, B, sI, pins, σ', H', cls, d, rfl, J, nb, (up.trans up3).trans up4, .inr (.inr (by rw [hs]; exact hh4)), na, os, ag, hno rfl⟩
      first
        | exact wpAny_bind (wpAny_pure (wpAny_bind fin))
        | exact wpAny_bind fin
  · cases f with
    | next =>
      obtain ⟨σ', H', J', q⟩ := hsp
      exact wpAny_execs_nil ⟨σ', H', J'.ofTry ok, q⟩
    | brk =>
      obtain ⟨σ', H', J', q⟩ := hsp
      exact ⟨σ', H', J'.ofTry ok, q⟩
    | cont =>
      obtain ⟨σ', H', J', q⟩ := hsp
      exact ⟨σ', H', J'.ofTry ok, q⟩
    | ret u =>
      obtain ⟨v, σ', H', J', r, q⟩ := hsp
      exact ⟨v, σ', H', J'.ofTry ok, r, q⟩
end
end DL
/-! DLLam4: a lambda is made; its call; it is handed to a def. -/
namespace DL
open PySem PySem.Spec PyProof.Rows L2
variable [Lams]

section
variable {X : Cx} {pins : List (Addr × Obj)} {σ : St} {H : Hp} {s : Shared}
/-- a lambda is made: all is kept but its table -/
theorem lam_mk {T : List (Addr × Str)} {c P : Addr} {params : Arguments} {body : Expr} {scope : Scope} {pos : Pos} {E : Value → Shared → Prop} {Q : Value → Shared → Prop} (I : Inv X pins σ H s) (TB : LamX.TabB X.base X.mg c P) (hcode : X.env.code = .ref c)
    (hm : (P, X.env.qual ++ "<lambda>") ∈ T) (hu : ∀ p ∈ T, p.1 = P → p.2 = X.env.qual ++ "<lambda>") (hT : LamX.Tabs T H) (hdef : defaultsOf params X.env = ([], [])) (hfree : ∀ y ∈ scope.names, y.2 = .free → ∃ c, X.env.cells.lookup y.1 = some c)
    (h : ∀ (f c' : Addr) (pm ctv : Value) (H1 : Hp) (s' : Shared), Inv X pins σ H1 s' → (∀ b o, H b = some o → b ≠ P → H1 b = some o) → LamX.Tabs T H1 →
      s'.heap.get? f = some (PySem.W.kla_obj "<lambda>" (X.env.qual ++ "<lambda>") params body scope (cloFrom X.env.cells scope.names []) pm c' ctv) → H1 f = none → X.s_0.heap.objs.size ≤ f → f ∉ frs X.stack → (∀ p ∈ X.pn ++ pins, p.1 ≠ f) → H1 c' = some (LamX.CodeO c' (X.env.qual ++ "<lambda>")) → Q (.ref f) s') :
    wpAny (model X.prog X.w) X.A (eval (.Lambda params body scope pos) X.env) Q E s := by
  obtain ⟨ps, hP, ht, ha⟩ := hT _ hm
  have tabH := I.hok P _ hP
  have tabB : s.heap.BuiltinsAt X.mg P := TB.bm.keeps I.bk
  have beyond : ∀ f, s.heap.objs.size ≤ f → X.s_0.heap.objs.size ≤ f ∧ f ∉ frs X.stack ∧ ∀ p ∈ X.pn ++ pins, p.1 ≠ f := fun f hf => by
    refine ⟨Nat.le_trans I.sz hf, fun z => ?_, fun p hp z => ?_⟩
    · rcases List.mem_cons.mp (I.stkSub _ z) with e | e
      · have h1 := I.lt
        rw [← e] at h1
        exact Nat.lt_irrefl _ (Nat.lt_of_lt_of_le h1 hf)
      · exact I.nofs hf e
    · have h1 := Heap.lt_size (I.pin p hp).1
      rw [z] at h1
      exact Nat.lt_irrefl _ (Nat.lt_of_lt_of_le h1 hf)
  refine PySem.W.kla_eval hdef ?_
  cases hc : codeAmong pos ps.toList with
  | some cv =>
    obtain ⟨c', rfl, hco⟩ := ha pos cv hc
    refine PySem.W.kla_makeFunctionHit (mg := X.mg) (c := c) (P := P) (ps := ps) (closure_ok hfree) I.ok.glob (I.mod.glob.keeps I.bk) hcode (TB.code.keeps I.bk) tabH ht hc tabB fun ctv h' tk hx hsz => ?_
    obtain ⟨b1, b2, b3⟩ := beyond _ hsz
    exact h h'.objs.size c' _ ctv H { s with heap := h'.push (PySem.W.kla_obj "<lambda>" (X.env.qual ++ "<lambda>") params body scope (cloFrom X.env.cells scope.names []) ((X.mg "__name__").getD .none) c' ctv), toks := tk } (I.kept fun b o e => Heap.get?_push_of_some _ (hx b o e)) (fun _ _ e _ => e) hT (Heap.get?_push_size _ rfl) (I.hok.fresh hsz) b1 b2 b3 hco
  | none =>
    refine PySem.W.kla_makeFunction (mg := X.mg) (c := c) (P := P) (ps := ps) (closure_ok hfree) I.ok.glob (I.mod.glob.keeps I.bk) hcode (TB.code.keeps I.bk) tabH ht hc TB.gP tabB fun c' ctv h' tk hx hge hlt hrec htb => ?_
    obtain ⟨c2, oc, vs, t, e2, hoc, hd, hv⟩ := hrec
    cases e2
    have hsz : s.heap.objs.size ≤ h'.objs.size := Nat.le_trans hge (Nat.le_of_lt hlt)
    have nC : H c' = none := I.hok.fresh hge
    obtain ⟨b1, b2, b3⟩ := beyond _ hsz
    have J := LamX.inv_table (t' := tk) (more := #[rawInt pos.line, rawInt pos.col, .ref c']) (h' := h'.push (PySem.W.kla_obj "<lambda>" (X.env.qual ++ "<lambda>") params body scope (cloFrom X.env.cells scope.names []) ((X.mg "__name__").getD .none) c' ctv)) I hP
      (fun b o hb e => Heap.get?_push_of_some _ (hx b o hb e)) (Heap.get?_push_of_some _ htb) hge ⟨oc, vs, t, Heap.get?_push_of_some _ hoc, hd, hv⟩
    have same : ∀ b o, H b = some o → b ≠ P → upd (upd H P (.tbl (ps ++ #[rawInt pos.line, rawInt pos.col, .ref c']))) c' (LamX.CodeO c' (X.env.qual ++ "<lambda>")) b = some o := fun b o e n => by
      rw [upd_ne (ne_of_none e nC), upd_ne n]
      exact e
    have notP : ∀ {b : Addr} {o : HO}, H b = some o → (∀ q, o ≠ .tbl q) → b ≠ P := fun {b o} e n z => by
      rw [z, hP] at e
      exact n ps (Option.some.inj e).symm
    refine h h'.objs.size c' _ ctv _ _ J same (fun p hp => ?_) (Heap.get?_push_size _ rfl) ?_ b1 b2 b3 upd_same
    · obtain ⟨ps', a1, a2, a3⟩ := hT p hp
      by_cases hb : p.1 = P
      · rw [hb, hP] at a1
        cases a1
        rw [hu p hp hb] at a3 ⊢
        rw [hb]
        have eL : (ps ++ #[rawInt pos.line, rawInt pos.col, .ref c']).toList = ps.toList ++ [rawInt pos.line, rawInt pos.col, .ref c'] := by simp
        refine ⟨_, by rw [upd_ne (ne_of_none hP nC), upd_same], by rw [eL]; exact PySem.TriplesOk_snoc _ _ _ _ ht, fun p' cv hcv => ?_⟩
        rw [eL] at hcv
        rcases LamX.among_app _ ht hcv with z | z
        · obtain ⟨c0, e1, e2⟩ := a3 p' cv z
          exact ⟨c0, e1, same _ _ e2 (notP e2 fun q => LamX.codeO_ne q)⟩
        · exact ⟨c', z, upd_same⟩
      · refine ⟨ps', by rw [upd_ne (ne_of_none a1 nC), upd_ne hb]; exact a1, a2, fun p' cv hcv => ?_⟩
        obtain ⟨c0, e1, e2⟩ := a3 p' cv hcv
        exact ⟨c0, e1, same _ _ e2 (notP e2 fun q => LamX.codeO_ne q)⟩
    · have n1 : h'.objs.size ≠ c' := Nat.ne_of_gt hlt
      have n2 : h'.objs.size ≠ P := Nat.ne_of_gt (Nat.lt_of_lt_of_le (Heap.lt_size tabH) hsz)
      rw [upd_ne n1, upd_ne n2]
      exact I.hok.fresh hsz
/-- an object that stands beside is known from now on, by what is true of it -/
theorem Inv.trackE (J : Inv X pins σ H s) {a : Addr} {φ : Heap → Prop} (hf : φ s.heap) (ha : ∃ o, s.heap.get? a = some o) (hst : ∀ h1 h2 : Heap, φ h1 → (∀ o, h1.get? a = some o → h2.get? a = some o) → φ h2) (na : H a = none) (new : X.s_0.heap.get? a = none) (np : ∀ p ∈ X.pn ++ pins, p.1 ≠ a)
    (nL : X.env.locals ≠ a) (nC : ∀ x c, X.env.cells.lookup x = some c → c ≠ a) : Inv X pins σ (upd H a (.ext φ)) s := by
  refine ⟨J.ok, J.os, J.bare, ⟨J.base.keep, J.base.slot, fun b ob e n hx => ?_, J.base.there, fun b xs e => ?_, fun b ob u e => ?_, fun b ps e => ?_⟩, J.loc, J.cell, ?_, fun x c e => ?_, fun p hp => ?_, fun b u e => ?_, J.len⟩
  · rw [upd_ne fun z => by rw [z, new] at e; cases e]
    exact J.base.free b ob e n hx
  · rw [upd_ne (ne_of_none (J.base.tups b xs e) na)]
    exact J.base.tups b xs e
  · rw [upd_ne (ne_of_none (J.base.frzs b ob u e) na)]
    exact J.base.frzs b ob u e
  · obtain ⟨more, q⟩ := J.base.tbls b ps e
    exact ⟨more, by rw [upd_ne (ne_of_none q na)]; exact q⟩
  · rw [upd_ne nL]
    exact J.free
  · rw [upd_ne (nC x c e)]
    exact J.freeC x c e
  · obtain ⟨h1, h2, h3⟩ := J.pin p hp
    exact ⟨h1, by rw [upd_ne (np p hp)]; exact h2, h3⟩
  · by_cases hb : b = a
    · subst hb
      rw [upd_same] at e
      cases e
      exact ⟨hf, ha, hst⟩
    · rw [upd_ne hb] at e
      exact (J.hok b u e).stay (fun c w _ q => q) (fun c q => by rw [upd_ne (ne_of_none q na)]; exact q) fun c xs q => by rw [upd_ne (ne_of_none q na)]; exact q
end
section
variable {X : Cx} {W : Wd} {N : List Str} {sc : Scope} {kk : Nat} {pos p p2 : Pos}
/-- lambda: body -/
def gLam (n : Nat) (cells : List (Str × Addr)) : TDE := fun _ K => K (fnO n cells)
theorem de_lam (C : Cxt X W N sc kk) {L : LamC} {n : Nat} {c P : Addr} {q : Str} {params : Arguments} {body : Expr} {scope : Scope} (ht : Lams.tab n = some L) (hL : L.params = params ∧ L.body = body ∧ L.scope = scope) (TB : LamX.TabB X.base X.mg c P) (hcode : X.env.code = .ref c) (hq : X.env.qual ++ "<lambda>" = q) (hm : (P, q) ∈ Lams.tabs)
    (hdef : defaultsOf params X.env = ([], [])) (hfree : ∀ y ∈ scope.names, y.2 = .free → sc.names.lookup y.1 = some .cell ∨ sc.names.lookup y.1 = some .free) : DE X W (.Lambda params body scope pos) (gLam n X.env.cells) 0 := by
  obtain ⟨rfl, rfl, rfl⟩ := hL
  subst hq
  refine ⟨fun pins s σ H Q I ⟨k, Δ, K, h1, h2, h3, h4⟩ => ?_⟩
  have hm' : (P, X.env.qual ++ "<lambda>") ∈ W.T := by
    rw [C.ok.tt]
    exact hm
  refine lam_mk I TB hcode hm' (fun p hp e => C.ok.tu p hp _ hm' e) h2.fin.tabs hdef (fun y hy e => I.ok.has _ ?_) fun f c' pm ctv H1 s' J keep T1 of1 nf sz nfr np hco => ?_
  · have := hfree y hy e
    rw [← C.hsc] at this
    exact this
  · have volP : W.vol P := .inr ⟨_, hm'⟩
    have new : X.s_0.heap.get? f = none := Heap.get?_none_of_le sz
    have nL : X.env.locals ≠ f := fun z => by
      obtain ⟨m, ⟨o', es, ep, e, hd', _⟩, _⟩ := J.loc
      rw [z, of1] at e
      cases e
      cases hd'
    have nC : ∀ x c, X.env.cells.lookup x = some c → c ≠ f := fun x c e z => by
      obtain ⟨v, o', e', hd'⟩ := J.cell x c e
      rw [z, of1] at e'
      cases e'
      cases hd'
    have J2 := Inv.trackE (φ := fun h => ∃ L' pm ctv, Lams.tab n = some L' ∧ h.get? f = some (PySem.W.kla_obj "<lambda>" (X.env.qual ++ "<lambda>") L'.params L'.body L'.scope (cloFrom X.env.cells L.scope.names []) pm c' ctv)) J ⟨L, pm, ctv, ht, of1⟩ ⟨_, of1⟩ (fun h1 h2 ⟨L', pm, ctv, a, b⟩ st => ⟨L', pm, ctv, a, st _ b⟩) nf new np nL nC
    have c1 : Chg W (k + 0) H H1 := ⟨fun b o e n => keep b o e fun z => n (z ▸ volP), fun b pb => ?_, T1⟩
    · have c2 : Chg W (k + 0) H (upd H1 f (LamO f n (cloFrom X.env.cells L.scope.names []) c' (X.env.qual ++ "<lambda>"))) := c1.trans ((h2.fin.chg c1).laid nf)
      have e2 := h2.chg C.ok c2
      have e1 := h2.chg C.ok c1
      refine ⟨.ref f, _, J2, rfl, h4 _ _ _ h3 c2 (.fno ht upd_same (e1.notA nf) (by rw [upd_ne (ne_of_none hco nf)]; exact hco) fun z => ?_)⟩
      exact (e1.domS c' z).2 _ hco
    · obtain ⟨x, y, z, e, r⟩ := h2.fin.pots b pb
      refine ⟨x, y, z, keep b _ e fun zz => ?_, r⟩
      obtain ⟨ps, e', _⟩ := h2.fin.tabs _ hm'
      rw [zz, e'] at e
      cases e
end
/-! ### x(): a lambda is called -/
section
variable {K : PySem.W.Frag} {A : Addr → Prop} {H : Hp} {v : V}
theorem RepKv.first {kvs : List (Key × V)} {b : Bool} {d : D} {ps : List (D × D)} (r : RepKv K A H kvs ((.bool b, d) :: ps)) : False := by
  generalize e : ((.bool b, d) :: ps : List (D × D)) = qs at r
  cases r with
  | nil => cases e
  | @cons k _ _ _ _ _ _ => cases k <;> simp [kD] at e
theorem Rep.fnc_inv {n : Nat} {ds : List D} (r : Rep K A H v (fnC n ds)) : ∃ (f c' : Addr) (cl : List (Str × Addr)) (q : Str) (L : LamC) (vs : List V), v = .ref f ∧ H f = some (LamO f n cl c' q) ∧ H c' = some (LamX.CodeO c' q) ∧ Lams.tab n = some L ∧ ClOk cl L.names ∧ CellsAt A H cl L.names vs ∧ RepAll K A H vs ds := by
  generalize e : fnC n ds = d at r
  cases r with
  | dic _ _ r =>
    unfold fnC at e
    cases e
    exact r.first.elim
  | fnc h1 _ h2 _ ht k ca ra =>
    unfold fnC at e
    simp only [PyData.dict.injEq, List.cons.injEq, Prod.mk.injEq, PyData.int.injEq, Int.natCast_inj, PyData.list.injEq, and_true, true_and] at e
    obtain ⟨rfl, rfl⟩ := e
    exact ⟨_, _, _, _, _, _, rfl, h1, h2, ht, k, ca, ra⟩
  | fno => simp [fnC, fnO] at e
  | exc => simp [fnC, excD] at e
  | _ => simp [fnC] at e
theorem Rep.fno_inv {n : Nat} {cells : List (Str × Addr)} (r : Rep K A H v (fnO n cells)) : ∃ (f c' : Addr) (q : Str) (L : LamC), v = .ref f ∧ Lams.tab n = some L ∧ H f = some (LamO f n (cloFrom cells L.scope.names []) c' q) ∧ ¬ A f ∧ H c' = some (LamX.CodeO c' q) ∧ ¬ A c' := by
  generalize e : fnO n cells = d at r
  cases r with
  | dic _ _ r =>
    unfold fnO at e
    cases e
    exact r.first.elim
  | @fno f n' c' cells' q L ht h1 n1 h2 n2 =>
    unfold fnO at e
    simp only [PyData.dict.injEq, List.cons.injEq, Prod.mk.injEq, PyData.int.injEq, Int.natCast_inj, PyData.list.injEq, and_true, true_and] at e
    obtain ⟨rfl, e⟩ := e
    have inj : ∀ (a b : List (Str × Addr)), a.map (fun p => PyData.tuple [PyData.str p.1, PyData.int (p.2 : Nat)]) = b.map (fun p => PyData.tuple [PyData.str p.1, PyData.int (p.2 : Nat)]) → a = b := by
      intro a
      induction a with
      | nil => intro b h; cases b with | nil => rfl | cons _ _ => cases h
      | cons x a ih =>
        intro b h
        cases b with
        | nil => cases h
        | cons y b =>
          simp only [List.map_cons, List.cons.injEq, PyData.tuple.injEq, PyData.str.injEq, PyData.int.injEq, Int.natCast_inj, and_true] at h
          rw [ih b h.2, Prod.ext h.1.1 h.1.2]
    rw [inj _ _ e]
    exact ⟨_, _, _, _, rfl, ht, h1, n1, h2, n2⟩
  | fnc => simp [fnO, fnC] at e
  | exc => simp [fnO, excD] at e
  | _ => simp [fnO] at e
end
section
variable {X : Cx} {kF : Nat} {B : Nat → FSp} {i : Nat} {a : Str} {p1 p2 : Pos}
/-- what a call of slot i asks, of the very state -/
def tLc (K : PySem.W.Frag) (B : Nat → FSp) (i : Nat) (pa : St → XK → Prop) : TE := fun σ H Q => ∃ (E : XK) (n : Nat) (ds : List D) (v : V) (W : Wd) (Kd : D → Prop), pa σ E ∧ σ[i]? = some (some v) ∧ Rep K W.A0 H v (fnC n ds) ∧ Entry W K 0 H ∧ B n (ds.map AV.dat) Kd W.E ∧ (∀ d v H', Kd d → Fin W 0 H' → Rep K W.A0 H' v d → Q v H') ∧
  ∀ C dd v d H', ExcK K C → W.E (.ref C) d → Fin W 0 H' → H' dd = some (.xd [("value", v)]) → H dd = none → Rep K W.A0 H' v d → E (.ref C) (some dd) H'
theorem pe_lc (LD : ∀ n, LamD X.prog X.w X.K X.mg X.base kF n (B n) 0) (hr : Room kF X.A) (hg : X.A.guards = some []) (hN : X.N[i]? = some a) (hv : Vis X.env.scope a) (hd : (a == ("__debug__" : Str)) = false := by decide +kernel) (hcd : (a == ("__classdict__" : Str)) = false := by decide +kernel) :
    PE X (.Call (.Name a p1) [] [] p2) (tLc X.K B i (PassesAt (L2.CX X.prog X.w) X)) := by
  refine ⟨fun pins s σ H Q I ⟨E, n, ds, v, W, Kd, hpa, hs, r, en, hB, hQ, hE⟩ => ?_⟩
  obtain ⟨f, c', cl, q, L, vs, rfl, hf, hco, ht, kc, ca, ra⟩ := r.fnc_inv
  refine wpAny_Call_Name_kw (thn ((pe_var (pos := p1) (i := i) hN hv hd hcd).run pins s σ H (fun v H1 => v = .ref f ∧ H1 = H) I ⟨.ref f, hs, rfl, rfl⟩) fun u s1 ⟨v, H1, I1, r1, q1⟩ => ?_)
  obtain ⟨ev, eH⟩ := q1
  subst ev
  rw [eH] at I1
  obtain rfl : u = Value.ref f := r1
  obtain ⟨⟨L', pm, ctv, _, of1⟩, _, _⟩ := I1.hok f _ hf
  refine PySem.W.callWith_F0 ⟨_, _, _, _, of1⟩ ?_
  refine wpAny_call (codeAny_mono ((LD n).run L W (ds.map AV.dat) Kd X.A X.stack s1 H f c' cl q vs Q E ht hg hr I1.env0 hf hco kc ca en ra.args hB hQ hE) fun r s' hq => ?_)
  cases r with
  | error e => exact hpa pins H s1 e s' I1 hq
  | ok fl =>
    cases fl with
    | ret u => exact I1.after hq
    | next => exact False.elim hq
    | brk => exact False.elim hq
    | cont => exact False.elim hq
end
end DL
/-! DLLam5: a lambda is handed to a def. -/
namespace DL
open PySem PySem.Spec PyProof.Rows L2
variable [Lams]

/-- a def's own context -/
structure DefX (X : Cx) (q : Str) (cd : Value) : Prop where
  stk : X.stack = X.env :: X.outer
  fr : X.env.frame = some X.env.locals
  ex : X.ex = []
  fn : ∀ x, X.fn x = true
  qual : X.env.qual = q ++ ".<locals>."
  code : X.env.code = cd
/-- H2 is H1 with the cells of ys known -/
structure FrzAt (X : Cx) (ys : List Str) (σ : St) (H1 H2 : Hp) : Prop where
  out : ∀ b, b ∉ csOf X.env.cells ys → H2 b = H1 b
  all : AllF (csOf X.env.cells ys) H2
  new : ∀ c ∈ csOf X.env.cells ys, H1 c = none
  has : ∀ y ∈ ys, ∃ c, X.env.cells.lookup y = some c
  inj : ∀ x y c, X.env.cells.lookup x = some c → X.env.cells.lookup y = some c → x = y
  val : ∀ (i : Nat) (y : Str) (v : V), y ∈ ys → X.N[i]? = some y → σ[i]? = some (some v) → ∃ c o u, X.env.cells.lookup y = some c ∧ H2 c = some (CellF o) ∧ o.data = .cell (some u) ∧ RelV v u
section
variable {X : Cx} {pins : List (Addr × Obj)} {σ : St} {H : Hp} {s : Shared} {ys : List Str} {q : Str} {cd : Value}
theorem frz_at (I : Inv X pins σ H s) (DX : DefX X q cd) (hys : ∀ y ∈ ys, X.env.scope.names.lookup y = some .cell ∨ X.env.scope.names.lookup y = some .free) : FrzAt X ys σ H (frzC s.heap (csOf X.env.cells ys) H) ∧ (∀ c ∈ csOf X.env.cells ys, H c = none ∧ X.base.get? c = none ∧ c ∉ frs X.stack) ∧ ∀ c ∈ csOf X.env.cells ys, ∃ o, s.heap.get? c = some o := by
  have at_ : ∀ c ∈ csOf X.env.cells ys, ∃ y, X.env.cells.lookup y = some c := fun c m => by
    obtain ⟨y, _, e⟩ := List.mem_filterMap.mp m
    exact ⟨y, e⟩
  have there : ∀ c ∈ csOf X.env.cells ys, ∃ o, s.heap.get? c = some o := fun c m => by
    obtain ⟨y, e⟩ := at_ c m
    obtain ⟨v, o, ho, _⟩ := I.cell y c e
    exact ⟨o, ho⟩
  refine ⟨⟨fun b h => frzC_out h, fun c m => ?_, fun c m => ?_, fun y hy => I.ok.has y (hys y hy), I.ok.inj, fun i y v hy e1 e2 => ?_⟩, fun c m => ?_, there⟩
  · obtain ⟨o, e⟩ := there c m
    exact ⟨o, frzC_in m e⟩
  · obtain ⟨y, e⟩ := at_ c m
    exact I.freeC y c e
  · obtain ⟨m, hn, hl⟩ := I.loc
    obtain ⟨u, r, k⟩ := hl i y v e1 e2 (.inr (hys y hy))
    rcases k with ⟨k, _⟩ | ⟨_, c, e, o, ho, hd⟩
    · have k' : X.env.scope.names.lookup y = some .local := k
      rcases hys y hy with z | z <;> rw [k'] at z <;> cases z
    · exact ⟨c, o, u, e, frzC_in (csOf_mem hy e) ho, hd, r⟩
  · obtain ⟨y, e⟩ := at_ c m
    have ge := I.ok.cab y c (DX.fn y) e
    refine ⟨I.freeC y c e, Heap.get?_none_of_le (Nat.le_trans I.ok.bsz ge), fun z => ?_⟩
    rcases List.mem_cons.mp (I.stkSub c z) with z | z
    · exact I.cne y c e z
    · obtain ⟨_, o, ho, _⟩ := I.ok.funs.mem z
      exact absurd (Nat.lt_of_lt_of_le (Heap.lt_size ho) ge) (Nat.lt_irrefl _)
variable {k n : Nat} {f : Addr} {fd : FuncData} {ps ks : List Str} {sp : Sp} {E : XK} {x : Str} {p pos : Pos} {ds : List Value} {dvs : List V}
/-- f(e, ..) whose arguments may hold lambdas of this frame -/
theorem pe_gF {e : Expr} {es : List Expr} {t : TA} (F : FnG X.prog X.w X.K X.mg X.base k f fd ps sp) (hr : Room k X.A) (hg : X.A.guards = some []) (hgl : Gl X x) (hm : X.mg x = some (.ref f)) (hk : PySem.W.keepIn X.K (.ref f) = true) (hb : BindG X.K fd ps n [] ds) (hd : Vals dvs ds)
    (DX : DefX X q cd) (hys : ∀ y ∈ ys, X.env.scope.names.lookup y = some .cell ∨ X.env.scope.names.lookup y = some .free) (ha : PA X (e :: es) t) (hdb : (x == ("__debug__" : Str)) = false) (he : starEach (e :: es) X.env = (false, eval e X.env) :: starEach es X.env) (hpl : (backTo pos (starEach es X.env)).any (·.1) = false) :
    PE X (.Call (.Name x p) (e :: es) [] pos) (fun σ H Q => t σ H fun vs H1 => vs.length = n ∧ ∀ H2, FrzAt X ys σ H1 H2 → sp (vs ++ dvs) H2 (fun v H' => (∀ b ∈ csOf X.env.cells ys, H' b = H2 b) → Q v (erase (csOf X.env.cells ys) H')) fun _ _ _ => False) := by
  refine ⟨fun pins s σ H Q I h => wpAny_Call_Name_kw (ld_glob I hgl hm ?_ hdb)⟩
  refine PySem.W.callWith_K (h₀ := X.base) I.ok.mod.kin hk ?_ he hpl
  refine thn (ha.run pos pins s σ H _ I h) ?_
  rintro us s1 ⟨vs, H1, I1, r, hn, q⟩
  refine ⟨I1.kIn, ?_⟩
  obtain ⟨fz, f1, f2⟩ := frz_at I1 DX hys
  have code := F.run X.A X.stack s1 _ ⟨us, []⟩ (us ++ ds) (vs ++ dvs) _ _ hg hr (env_frz f1 I1.env0) (by simpa using hb s1 us [] I1.kIn (r.length.symm.trans hn) rfl) (r.append hd) (q _ fz)
  refine wpAny_call (codeAny_mono code fun res s' q => ?_)
  match res, q with
  | .error e, q =>
    obtain ⟨_, _, _, _, _, _, _, _, _, _, _, _, z⟩ := q
    exact z.elim
  | .ok (.ret u), q => exact I1.after (ce_frz (fun c m => (f1 c m).1) f2 q)
end

/-! ### the arguments, seen from the callee -/
inductive Conv (ok : Nat → Bool) (cells : List (Str × Addr)) (Δ : DEnv) : List AV → List AV → Prop
  | nil : Conv ok cells Δ [] []
  | same {a : AV} {as bs : List AV} : Conv ok cells Δ as bs → Conv ok cells Δ (a :: as) (a :: bs)
  | lam {n : Nat} {L : LamC} {ds : List D} {as bs : List AV} : ok n = true → Lams.tab n = some L → L.ix.map (nth Δ) = ds.map Sv.dat → plainL ds = true → Conv ok cells Δ as bs → Conv ok cells Δ (.dat (fnO n cells) :: as) (.dat (fnC n ds) :: bs)
/-- the lambdas of a def -/
structure LamsOk (ok : Nat → Bool) (N ys : List Str) : Prop where
  ix : ∀ n L, ok n = true → Lams.tab n = some L → L.ix.map (fun i => N[i]?) = L.names.map some
  ys : ∀ n L, ok n = true → Lams.tab n = some L → ∀ y ∈ L.names, y ∈ ys ∧ (y, NameKind.free) ∈ L.scope.names
  mem : ∀ n L, ok n = true → Lams.tab n = some L → ∀ y ∈ L.scope.names, y.2 = .free → y.1 ∈ L.names
theorem clo_lookup {cells : List (Str × Addr)} {names : List (Str × NameKind)} {y : Str} {c : Addr} (h : (y, NameKind.free) ∈ names) (e : cells.lookup y = some c) : (cloFrom cells names []).lookup y = some c := by
  obtain ⟨c', e'⟩ := mem_lookup (cloFrom_has (cells := cells) (acc := []) h)
  rw [e']
  rcases cloFrom_mem (PySem.mem_of_lookup e') with z | ⟨_, z⟩
  · cases z
  · rw [z, e]
    rfl
theorem clo_back {cells : List (Str × Addr)} {names : List (Str × NameKind)} {y : Str} {c : Addr} (h : (cloFrom cells names []).lookup y = some c) : (y, NameKind.free) ∈ names ∧ c = (cells.lookup y).getD 0 := by
  rcases cloFrom_mem (PySem.mem_of_lookup h) with z | z
  · cases z
  · exact z
section
variable {X : Cx} {W : Wd} {N ys : List Str} {sc : Scope} {kk k j : Nat} {σ : St} {H H1 H2 : Hp} {Δ : DEnv} {q : Str} {cd : Value} {ok : Nat → Bool}
theorem frz_kp (en : En W k σ H1 Δ) (fz : FrzAt X ys σ H1 H2) {A : Addr → Prop} : Kp A A H1 H2 := fun a o e n => ⟨by
  rw [fz.out a fun m => by rw [fz.new a m] at e; cases e]
  exact e, n⟩
theorem cells_conv (hN : X.N = N) (en : En W k σ H1 Δ) (fz : FrzAt X ys σ H1 H2) {scn : List (Str × NameKind)} : ∀ (names : List Str) (ixs : List Nat) (ds : List D), ixs.map (fun i => N[i]?) = names.map some → ixs.map (nth Δ) = ds.map Sv.dat → (∀ y ∈ names, y ∈ ys ∧ (y, NameKind.free) ∈ scn) →
    ∃ vs, CellsAt (AA W σ Δ) H2 (cloFrom X.env.cells scn []) names vs ∧ RepAll W.K (AA W σ Δ) H2 vs ds
  | [], [], [], _, _, _ => ⟨[], .nil, .nil⟩
  | y :: names, i :: ixs, d :: ds, h1, h2, h3 => by
    simp only [List.map_cons, List.cons.injEq] at h1 h2
    obtain ⟨vs, ca, ra⟩ := cells_conv hN en fz names ixs ds h1.2 h2.2 fun z hz => h3 z (List.mem_cons_of_mem _ hz)
    obtain ⟨hy, hf⟩ := h3 y List.mem_cons_self
    have s := en.sl i
    rw [h2.1] at s
    obtain ⟨v, e, r⟩ := s
    obtain ⟨c, o, u, e1, e2, e3, e4⟩ := fz.val i y v hy (by rw [hN]; exact h1.1) e
    exact ⟨v :: vs, .cons (clo_lookup hf e1) e2 e3 (fun z => en.notA (fz.new c (csOf_mem hy e1)) z) e4 ca, .cons (r.map (frz_kp en fz)) ra⟩
  | [], i :: _, _, h1, _, _ => by cases h1
  | _ :: _, [], _, h1, _, _ => by cases h1
  | _ :: _, _ :: _, [], _, h2, _ => by cases h2
  | [], [], _ :: _, _, h2, _ => by cases h2
theorem conv_args (hN : X.N = N) (lo : LamsOk ok N ys) (en : En W k σ H1 Δ) (fz : FrzAt X ys σ H1 H2) : ∀ {as bs : List AV}, Conv ok X.env.cells Δ as bs → ∀ {vs : List V}, ArgsOk W.K (AA W σ Δ) W.P H1 vs as → ArgsOk W.K (AA W σ Δ) W.P H2 vs bs := by
  have kp := fun {A : Addr → Prop} => frz_kp (A := A) en fz
  intro as bs cv
  induction cv with
  | nil =>
    intro vs r
    cases r
    exact .nil
  | same c ih =>
    intro vs r
    cases r with
    | dat r t => exact .dat (r.map kp) (ih t)
    | pot p t => exact .pot p (ih t)
    | scr r t => exact .scr (r.map kp) (ih t)
  | @lam n L ds as bs h1 h2 h3 h4 c ih =>
    intro vs r
    cases r with
    | dat r t =>
      refine .dat ?_ (ih t)
      obtain ⟨f, c', q, L', rfl, ht, hf, nf, hc, nc⟩ := r.fno_inv
      rw [h2] at ht
      cases ht
      obtain ⟨vs, ca, ra⟩ := cells_conv hN en fz (scn := L.scope.names) L.names L.ix ds (lo.ix n L h1 h2) h3 (lo.ys n L h1 h2)
      have lk : ∀ {y : Str} {c : Addr}, (cloFrom X.env.cells L.scope.names []).lookup y = some c → y ∈ L.names ∧ X.env.cells.lookup y = some c := fun {y c} e => by
        obtain ⟨m, e2⟩ := clo_back e
        have hy := lo.mem n L h1 h2 _ m rfl
        obtain ⟨c2, e3⟩ := fz.has y (lo.ys n L h1 h2 y hy).1
        rw [e3] at e2
        cases e2
        exact ⟨hy, e3⟩
      exact .fnc (kp f _ hf nf).1 nf (kp c' _ hc nc).1 nc h2 ⟨fun y c e => (lk e).1, fun x y c e1 e2 => fz.inj x y c (lk e1).2 (lk e2).2⟩ ca ra
def gFnF (ok : Nat → Bool) (cells : List (Str × Addr)) (F : FSp) (dds : List AV) (ga : TDA) : TDE := fun Δ K => ga Δ fun as => ∃ bs, Conv ok cells Δ as bs ∧ F (bs ++ dds) (fun d => plainD d = true ∧ K d) fun _ _ => False
theorem Conv.length {cells : List (Str × Addr)} : ∀ {as bs : List AV}, Conv ok cells Δ as bs → as.length = bs.length
  | _, _, .nil => rfl
  | _, _, .same c => congrArg (· + 1) c.length
  | _, _, .lam _ _ _ _ c => congrArg (· + 1) c.length
variable {f : Addr} {fd : FuncData} {ps : List Str} {F : FSp} {cF n kF c : Nat} {ds : List Value} {dvs : List V} {dds : List AV} {x : Str} {gl : TDA} {e : Expr} {es : List Expr} {p pos : Pos}
theorem de_fnF (C : Cxt X W N sc kk) (DX : DefX X q cd) (lo : LamsOk ok N ys) (hys : ∀ y ∈ ys, sc.names.lookup y = some .cell ∨ sc.names.lookup y = some .free) (hF : FnD X.prog X.w X.K X.mg X.base kF f fd ps F cF) (hk : kF ≤ kk) (hg : sc.names.lookup x = some .globalImplicit) (hm : X.mg x = some (.ref f)) (hkp : PySem.W.keepIn X.K (.ref f) = true) (hb : BindG X.K fd ps n [] ds) (hd : Dfl X.K dvs ds dds) (ha : DAs X W (e :: es) gl c n) (hn : n + dds.length = ps.length)
    (hdb : (x == ("__debug__" : Str)) = false := by decide +kernel) (he : starEach (e :: es) X.env = (false, eval e X.env) :: starEach es X.env := by rfl) (hpl : (backTo pos (starEach es X.env)).any (·.1) = false := by rfl) :
    DE X W (.Call (.Name x p) (e :: es) [] pos) (gFnF ok X.env.cells F dds gl) (c + cF) := by
  refine pe_imp (pe_gF (ys := ys) hF (C.hr.mono hk) C.gd (C.gl hg) hm hkp hb hd.vals DX (by rw [C.hsc]; exact hys) ha hdb he hpl) fun σ H Q ⟨k, Δ, K, h1, h2, h3, h4⟩ => ⟨k, Δ, _, by omega, h2, h3, fun as vs H1 ⟨bs, cv, q1⟩ l1 c1 r1 => ⟨r1.length.trans l1, fun H2 fz => ?_⟩⟩
  have e1 := h2.chg C.ok c1
  have kp := fun {A : Addr → Prop} => frz_kp (A := A) e1 fz
  have notcs : ∀ {b : Addr} {o : HO}, H1 b = some o → b ∉ csOf X.env.cells ys := fun {b o} e m => by
    rw [fz.new b m] at e
    cases e
  have same : ∀ {b : Addr} {o : HO}, H1 b = some o → H2 b = some o := fun {b o} e => by
    rw [fz.out b (notcs e)]
    exact e
  have pots2 : ∀ b, W.P b → PotAt (W.n0 + (k + c)) H2 b := fun b p => by
    obtain ⟨x, y, z, e, r⟩ := e1.fin.pots b p
    exact ⟨x, y, z, same e, r⟩
  have tabs2 : LamX.Tabs W.T H2 := e1.fin.tabs.ext fun b o e => same e
  refine ⟨{ K := W.K, A0 := AA W σ Δ, P := W.P, H0 := H2, n0 := W.n0 + (k + c), c0 := cF, E := fun _ _ => False, T := W.T }, bs ++ dds, _, ⟨C.hK, rfl, rfl, ⟨fun b p => vol_some pots2 tabs2 p, fun b p => .inl (C.ok.sub b p), (by have := C.ok.lim; show W.n0 + (k + c) + cF ≤ LIM; omega), C.ok.tu, C.ok.tt⟩, fun a q => ?_, pots2, tabs2⟩, ?_, by rw [List.length_append, ← cv.length, l1]; exact hn, q1, fun d v H' ⟨pl, hd'⟩ hf hr => ?_, fun cls dd v d H' hk hE => hE.elim⟩
  · have := e1.domS a q
    unfold Sol
    rw [fz.out a fun m => this.1 (fz.new a m)]
    exact this
  · rw [← C.hK]
    exact (conv_args C.hN lo e1 fz cv r1).append (by rw [C.hK]; exact hd.args _ _ _)
  · intro hc
    have AF : AllF (csOf X.env.cells ys) H' := fun b m => by
      rw [hc b m]
      exact fz.all b m
    have c2 : Chg W (k + c + cF) H1 (erase (csOf X.env.cells ys) H') := ⟨fun b o e n => by
      rw [erase_out (notcs e)]
      exact hf.since b o (same e) n, fun b p => by
      obtain ⟨x, y, z, e, r⟩ := e1.fin.pots b p
      obtain ⟨x2, y2, z2, e2, r2⟩ := hf.pots b p
      refine ⟨x2, y2, z2, by rw [erase_out (notcs e)]; exact e2, ?_⟩
      have z : W.n0 + (k + c) + cF = W.n0 + (k + c + cF) := by omega
      exact z ▸ r2, fun p hp => by
      obtain ⟨ps1, e0, _⟩ := e1.fin.tabs p hp
      obtain ⟨ps, e, t, a⟩ := hf.tabs p hp
      refine ⟨ps, by rw [erase_out (notcs e0)]; exact e, t, fun pos cv hcv => ?_⟩
      obtain ⟨c2, e1, e2⟩ := a pos cv hcv
      exact ⟨c2, e1, erase_keeps AF _ _ e2 fun u z => by cases z⟩⟩
    have hr' : Rep W.K (AA W σ Δ) H' v d := by rw [C.hK]; exact hr
    exact h4 d v _ hd' (chg3 c1 c2) (hr'.plain (erase_keeps AF) pl)
end
end DL
/-! DLTry2: try: y = x() / except C as e: z = e, over data. -/
namespace DL
open PySem PySem.Spec PyProof.Rows L2
variable [Lams]
section
variable {X : Cx} {W : Wd} {N : List Str} {sc : Scope} {kk k j kF : Nat} {σ : St} {H H' : Hp} {Δ : DEnv} {q : Str} {cd : Value} {B : Nat → FSp} {E : Value → D → Prop}
/-- m tells which classes the clause takes -/
def MOk (K : PySem.W.Frag) (m : Value → Option Bool) (c : Value) : Prop := ∀ cls b, m cls = some b → PySem.W.exmOne K cls c = some b
/-- an exception of the call, at the slots of the call: back in the def -/
theorem exc_in (C : Cxt X W N sc kk) (en : En W k σ H Δ) {Cc dd : Addr} {v : V} {d : D} {a : Addr} (hk : ExcK W.K Cc) (f : Fin (W.in k 0 σ Δ H) 0 H') (hx : H' dd = some (.xd [("value", v)])) (hn : H dd = none) (r : Rep W.K (AA W σ Δ) H' v d) (na : H' a = none) :
    En W k σ (upd H' a (ExcO a Cc dd)) Δ ∧ Rep W.K (AA W σ Δ) (upd H' a (ExcO a Cc dd)) (.ref a) (excD Cc d) ∧ Kp (AA W σ Δ) (AA W σ Δ) H (upd H' a (ExcO a Cc dd)) := by
  have c1 : Chg W (k + 0) H H' := Fin.of_in C en f
  have e1 := en.chg C.ok c1
  have c2 : Chg W (k + 0) H' (upd H' a (ExcO a Cc dd)) := e1.fin.laid na
  exact ⟨e1.chg C.ok c2, .exc upd_same (e1.notA na) (by rw [upd_ne (ne_of_none hx na)]; exact hx) (en.notA hn) hk (r.map (kp_laid na)), (c1.kpE C.ok).trans (kp_laid na)⟩
def gTryA (m : Value → Option Bool) (B : Nat → FSp) (E : Value → D → Prop) (il ib ie ic : Nat) : TDS := fun D Δ => ie < Δ.length ∧ match nth Δ il with
  | .dat d => ∃ n ds, d = fnC n ds ∧ B n (ds.map AV.dat) (fun d => D.nx (Δ.set ib (.dat d))) fun cls d => ∃ b, m cls = some b ∧ (b = true → ∀ C, cls = .ref C → D.nx (((Δ.set ie .un).set ic (.dat (excD C d))).set ie .un)) ∧ (b = false → E cls d)
  | _ => False
theorem ds_tryA (C : Cxt X W N sc kk) (DX : DefX X q cd) (hE : W.E = E) {m : Value → Option Bool} {CP : Value} {xl xb xe xc xp : Str} {il ib ie ic : Nat} {p1 p2 p3 p4 p5 p6 p7 p8 p9 pos : Pos} (LD : ∀ n, LamD X.prog X.w X.K X.mg X.base kF n (B n) 0) (hkF : kF ≤ kk) (hm : MOk X.K m CP) (hCP : X.mg xp = some CP) (hgp : sc.names.lookup xp = some .globalImplicit)
    (hl : N[il]? = some xl) (hvl : Vis sc xl) (hb : N[ib]? = some xb) (lb : sc.names.lookup xb = some .local) (he : N[ie]? = some xe) (le : sc.names.lookup xe = some .local) (hc : N[ic]? = some xc) (lc : sc.names.lookup xc = some .local)
    (dl : (xl == ("__debug__" : Str)) = false := by decide +kernel) (cl : (xl == ("__classdict__" : Str)) = false := by decide +kernel) (dp : (xp == ("__debug__" : Str)) = false := by decide +kernel) (de : (xe == ("__debug__" : Str)) = false := by decide +kernel) (ce : (xe == ("__classdict__" : Str)) = false := by decide +kernel)
    (hsw : swapsWith (.Call (.Name xl p3) [] [] p4) (some (.Name xb p1)) p2.line X.env = pure false := by rfl) (hsw2 : swapsWith (.Name xe p6) (some (.Name xc p5)) p7.line X.env = pure false := by rfl) :
    DS X W (.Try [.Assign [.Name xb p1] (.Call (.Name xl p3) [] [] p4) p2] [.ExceptHandler (some (.Name xp p8)) (some xe) [.Assign [.Name xc p5] (.Name xe p6) p7] p9] [] [] pos) (gTryA m B E il ib ie ic) 0 := by
  subst hE
  have kind : ∀ {y : Str}, sc.names.lookup y = some .local → X.env.scope.names.lookup y = some .local := fun {y} h => by rw [C.hsc]; exact h
  refine ps_imp (ps_try_keep (i := ie) (tb := fun Wx => tAsg (tLc X.K B il fun σ E => ∀ cls d H', E cls d H' → Wx cls d σ H') (gName ib)) (ts := fun a cls d => tAsg (tVar ie) (gName ic)) DX.stk DX.fr DX.ex (by rw [C.hN]; exact C.nd) (by rw [C.hN]; exact he) (kind le) ⟨C.gl hgp, dp, .inl hCP⟩ C.tk (fun Wx pn xe tk po => ?_) fun a oe cls d pn => ?_) fun D σ H ⟨k, Δ, D2, h1, h2, h3, h4⟩ => ?_
  · refine pss_one (ps_set (X := X.tr pn xe) (i := ib) (by show X.N.Nodup; rw [C.hN]; exact C.nd) (by show X.N[ib]? = _; rw [C.hN]; exact hb) (.inl (kind lb)) ?_ hsw (.inr (kind lb)))
    exact pe_imp (pe_lc (X := X.tr pn xe) LD (C.hr.mono hkF) C.gd (by show X.N[il]? = _; rw [C.hN]; exact hl) (by show Vis X.env.scope xl; rw [C.hsc]; exact hvl) dl cl) fun σ H Q ⟨E, n, ds, v, W, Kd, hpa, r⟩ => ⟨E, n, ds, v, W, Kd, fun pins H s e s' I c => tk e s' (XE.of_call I (fun cls d H' h => hpa cls d H' h) c), r⟩
  · exact pss_one (ps_set (X := X.suite a ((a, oe) :: pn)) (i := ic) (by show X.N.Nodup; rw [C.hN]; exact C.nd) (by show X.N[ic]? = _; rw [C.hN]; exact hc) (.inl (kind lc)) (pe_var (X := X.suite a ((a, oe) :: pn)) (i := ie) (by show X.N[ie]? = _; rw [C.hN]; exact he) (.inl (kind le)) de ce) hsw2 (.inr (kind lc)))
  · obtain ⟨li, h3⟩ := h3
    have s := h2.sl il
    revert h3 s
    cases nth Δ il with
    | un => exact fun z => z.elim
    | pot => exact fun z => z.elim
    | own _ => exact fun z => z.elim
    | scr _ => exact fun z => z.elim
    | dat d =>
      rintro ⟨n, ds, rfl, hB⟩ ⟨v, hs, r⟩
      refine ⟨fun cls dopt H' => ∃ Cc dd v d, cls = .ref Cc ∧ ExcK W.K Cc ∧ dopt = some dd ∧ (∃ b, m cls = some b ∧ (b = true → ∀ C, cls = .ref C → D2.nx (((Δ.set ie .un).set ic (.dat (excD C d))).set ie .un)) ∧ (b = false → W.E cls d)) ∧ Fin (W.in k 0 σ Δ H) 0 H' ∧ H' dd = some (.xd [("value", v)]) ∧ H dd = none ∧ Rep W.K (AA W σ Δ) H' v d, n, ds, v,
        { W.in k 0 σ Δ H with E := fun cls d => ∃ b, m cls = some b ∧ (b = true → ∀ C, cls = .ref C → D2.nx (((Δ.set ie .un).set ic (.dat (excD C d))).set ie .un)) ∧ (b = false → W.E cls d) }, _, fun cls dopt H' h => ?_, hs, by rw [← C.hK]; exact r,
        ⟨C.hK, rfl, rfl, ⟨fun b p => vol_some h2.fin.pots h2.fin.tabs p, fun b p => .inl (C.ok.sub b p), (by have := C.ok.lim; show W.n0 + k + 0 ≤ LIM; omega), C.ok.tu, C.ok.tt⟩, h2.domS, h2.fin.pots, h2.fin.tabs⟩, hB, fun d v H' hd hf hr => ?_, fun Cc dd v d H' hk hE hf hx hn hr => ?_⟩
      · obtain ⟨Cc, dd, v, d, rfl, hk, rfl, ⟨b, hmb, hy, hno⟩, hf, hx, hn, hr⟩ := h
        refine ⟨b, hm _ _ hmb, fun hb a na => ?_, fun hb => ?_⟩
        · obtain ⟨e2, rr, kp⟩ := exc_in C h2 hk hf hx hn hr na
          have e3 := (e2.store (i := ie) (s := .un) (x := some (.ref a)) (fun _ z => by cases z) fun _ => trivial)
          have kp3 : Kp (AA W σ Δ) (AA W (σ.set ie (some (.ref a))) (Δ.set ie .un)) H (upd H' a (ExcO a Cc dd)) := kp.trans (kp_set fun _ z => by cases z)
          have rr3 := rr.map (kp_set (i := ie) (s := .un) (x := some (.ref a)) fun _ z => by cases z)
          have e4 := e3.dat (i := ic) rr3
          have e5 := e4.store (i := ie) (s := .un) (x := none) (fun _ z => by cases z) fun _ => trivial
          refine ⟨.ref a, ?_, h4.nx _ _ _ (hy hb Cc rfl) e5 ((kp3.trans (kp_set fun _ z => by cases z)).trans (kp_set fun _ z => by cases z))⟩
          exact List.getElem?_set_self (by rw [← h2.len]; exact li)
        · exact ⟨Cc, dd, v, d, rfl, hk, rfl, hno hb, (h2.fin.chg (Fin.of_in C h2 hf)).mono h1, hx, h2.fin.free hn, hr.map (Kp.toA0 fun _ => .inl)⟩
      · have hr' : Rep W.K (AA W σ Δ) H' v d := by rw [C.hK]; exact hr
        have c1 : Chg W (k + 0) H H' := Fin.of_in C h2 ⟨hf.since, hf.pots, hf.tabs⟩
        exact h4.nx _ _ _ hd ((h2.chg C.ok c1).dat hr') (kp_chg_set C c1 fun _ z => by cases z)
      · exact ⟨Cc, dd, v, d, rfl, by rw [C.hK]; exact hk, rfl, hE, ⟨hf.since, hf.pots, hf.tabs⟩, hx, hn, by rw [C.hK]; exact hr⟩
end
end DL
/-! DLExc: an own exception whose __init__ says super().__init__(value), self.value = value. -/
namespace DL
open PySem PySem.Spec PyProof.Rows L2
variable [Lams]

/-- what the written part says of an exception's class, its __init__ that of D -/
structure InitC (K : PySem.W.Frag) (D C : Addr) : Prop where
  sub : PySem.W.mroIn K C (.ref D) = some true
  sup : PySem.W.ks_superIn K C D "__init__" = some (some (.builtin "ValueError.__init__"))
  ve : PySem.W.subIn K (.ref C) (.type "ValueError") = some true
  no : PySem.W.findIn K (.ref C) "value" = some none
  ox : OexC K C
def spI (K : PySem.W.Frag) (D : Addr) : Sp := fun vs H Q _ => ∃ (a C : Addr) (v : V), vs = [.ref a, v] ∧ InitC K D C ∧ H a = some (exo a C none) ∧ ∀ dx, H dx = none → dx ≠ a → Q .non (upd (upd H dx (exd dx [("value", v)])) a (exo a C (some dx)))
def initSc : Scope := { kind := .function, names := [("self", .local), ("value", .local), ("__class__", .free), ("super", .globalImplicit)], isGenerator := false, isCoroutine := false, more := [] }
/-- the __init__, its text, its code, its cell -/
structure InitF (P : Program) (K : PySem.W.Frag) (mg : Str → Option Value) (fI D cda cc : Addr) (qual : Str) (params : Arguments) : Prop where
  code : ∃ ccl cdd cvs ccs file tf, K.lookup cda = some ⟨ccl, cdd, .fields cvs, ccs⟩ ∧ cvs[2]? = some (.str file tf) ∧ ((P.main.file : Str) == file) = true
  cin : PySem.W.codeIn K (.ref cda) qual = true
  cell : ∃ cl cld csl, K.lookup cc = some ⟨cl, cld, .cell (some (.ref D)), csl⟩
  cls : ∃ cdD, PySem.W.clsIn K D = some cdD
  opq : PySem.W.nsIn K cStatics "thirdparty.any" = some none
  mgs : mg "super" = none
  top : (P.main.scope.names.lookup ("super" : Str)).isSome = false
  hp : ∃ ar, (params.posonlyargs ++ params.args).head? = some ar ∧ ar.arg = "self"
section
variable {P : Program} {w : World} {K : PySem.W.Frag} {mg : Str → Option Value} {base : Heap} {A : Around} {outer : List Env} {s : Shared} {H : Hp} {E : XK}
theorem init_start {sc : Scope} {qual : Str} {fI cc : Addr} {cdv : Value} {v1 v2 : V} {u1 u2 : Value} {h₁ : Heap} {tk : Nat} (hk : sc.kind = .function) (hd : A.handled = none) (e0 : Env0 P w K mg base A outer s H) (s5 : ∀ y ∈ sc.names, y.2 ≠ .cell) (s6 : ∀ x, sc.names.lookup x = some .free → x = "__class__") (s1 : sc.names.lookup ("self" : Str) = some .local) (s2 : sc.names.lookup ("value" : Str) = some .local)
    (hcc : ∃ o v, base.get? cc = some o ∧ o.data = .cell v) (r1 : RelV v1 u1) (r2 : RelV v2 u2) (hns : h₁.Ns s.heap.objs.size fun y => ([(("self" : Str), u1), (("value" : Str), u2)] : List (Str × Value)).reverse.lookup y) (kp : ∀ b o, s.heap.get? b = some o → h₁.get? b = some o) :
    Inv (lamK P w K mg base ["self", "value"] A outer s H E (PySem.W.ksEnv qual sc s.heap.objs.size fI cdv cc)) [] [some v1, some v2] H { s with heap := h₁, toks := tk } := by
  have noA : ∀ b : Addr, b ∉ ([] : List Addr) := fun b z => absurd z (by simp)
  have only : ∀ {x : Str} {c : Addr}, ([("__class__", cc)] : List (Str × Addr)).lookup x = some c → x = "__class__" ∧ c = cc := fun {x c} e => by
    have := PySem.mem_of_lookup e
    simp only [List.mem_singleton, Prod.mk.injEq] at this
    exact this
  obtain ⟨oc, vc, hoc, hdc⟩ := hcc
  have cellH : H cc = none := (e0.bs cc oc hoc).2
  refine ⟨⟨e0.mod, hk, rfl, rfl, Nat.le_refl _, fun x y c e1 e2 => (only e1).1.trans (only e2).1.symm, fun y hy => ?_, fun y c z _ => ?_, fun _ => hd, Around.frames_deeper e0.frames, .inr ⟨rfl, rfl⟩, fun b z => absurd z (noA b), e0.bs, e0.bsz, fun b _ _ => noA b, fun b z => absurd z (noA b), e0.funs, e0.frf⟩,
    rfl, e0.bare, Un.kept kp, ⟨_, hns, fun i y v e1 e2 e3 => ?_⟩, fun y c e => ?_, e0.hok.fresh (Nat.le_refl _), fun y c e => ?_, fun q hq => absurd (show q ∈ ([] : List (Addr × Obj)) ++ [] from hq) (by simp), e0.hok.kept kp, rfl⟩
  · have hy : sc.names.lookup y = some .cell ∨ sc.names.lookup y = some .free := hy
    rcases hy with hy | hy
    · exact absurd rfl (s5 _ (PySem.mem_of_lookup hy))
    · rw [s6 y hy]
      exact ⟨cc, rfl⟩
  · have z : false = true := z
    cases z
  · have e1 : (["self", "value"] : List Str)[i]? = some y := e1
    match i, e1, e2 with
    | 0, e1, e2 =>
      simp only [List.getElem?_cons_zero, Option.some.injEq] at e1 e2
      subst e1 e2
      exact ⟨u1, r1, .inl ⟨s1, rfl⟩⟩
    | 1, e1, e2 =>
      simp only [List.getElem?_cons_succ, List.getElem?_cons_zero, Option.some.injEq] at e1 e2
      subst e1 e2
      exact ⟨u2, r2, .inl ⟨s2, rfl⟩⟩
    | i + 2, e1, e2 => simp at e1
  · obtain ⟨_, rfl⟩ := only e
    exact ⟨vc, oc, kp _ _ (e0.bs _ _ hoc).1, hdc⟩
  · obtain ⟨_, rfl⟩ := only e
    exact cellH
end
section
variable {X : Cx} {pins : List (Addr × Obj)} {σ : St} {H : Hp} {s : Shared}
/-- the built-in __init__ bound to an exception that is being made -/
theorem call_mw {A : Around} {a C u : Addr} {us : List Value} {Q : Value → Shared → Prop} {E : Value → Shared → Prop} (T : OexC X.K C) (I : Inv X pins σ H s) (e : H a = some (exo a C none)) (hu : s.heap.get? u = some (PySem.W.kxs_mw "ValueError.__init__" a)) (hl : us.length ≤ sizeLine) (h : ∀ s', Inv X pins σ H s' → Q .none s') :
    wpAny (model X.prog X.w) A (call (.ref u) us) Q E s := by
  obtain ⟨nm, q, N, bs, bm, sn, sub, ab, col, dd, k0, k1, k2, k3, k5, hC, hbm⟩ := T.cls
  obtain ⟨t1, ho⟩ := exo_at I.hok e
  have FB := PySem.F.excBase_ValueError
  obtain ⟨hh, g, d, tk, os⟩ := s
  refine wpAny_call (codeAny_of_tree ?_)
  show wpAny _ A.in1 (callAny (.ref u) ⟨us, []⟩) _ _ _
  simp only [callAny]
  refine wpAny_bind (wpAny_load hu ?_)
  simp only [PySem.W.kxs_mw, show (Value.type "method-wrapper" == Value.type "method" || Value.type "method-wrapper" == Value.type "builtin_function_or_method" || Value.type "method-wrapper" == Value.type "method-wrapper") = true by decide, if_true]
  refine PySem.W.KFB.if_so (by decide) ?_
  refine wpAny_bind (PySem.W.check_bound_init FB.toExcCallFacts (I.kIn _ _ hC) ho rfl ?_)
  refine wpAny_bind (wpAny_pure (wpAny_pure ?_))
  refine ⟨plainId_quiet FB.init.plain _, codeAny_builtin FB.initEntry ?_⟩
  refine PySem.W.exc_init_tree (cls := .ref C) (t0 := t1) (dv := none) (c2 := .none) (c3 := .none) (b4 := .bool false) ho hl fun h' k hx _ => ?_
  have J := I.write (t' := tk) (x := a) (e := a) (o := exo a C none) (by rw [e]; exact True.intro) (.inl rfl) k ⟨_, hx⟩ (exo_ok hx)
  have eu : upd H a (exo a C none) = H := by
    funext b
    by_cases hb : b = a
    · rw [hb, upd_same, e]
    · rw [upd_ne hb]
  rw [eu] at J
  exact h _ J
end
end DL
/-! DLExc2: that __init__ keeps its promise. -/
namespace DL
open PySem PySem.Spec PyProof.Rows L2
variable [Lams]
def initBody (p0 p1 p2 p3 p4 p5 p6 p7 p8 p9 : Pos) : List Stmt :=
  [.Expr (.Call (.Attribute (.Call (.Name "super" p0) [] [] p1) "__init__" p2) [.Name "value" p3] [] p4) p5, .Assign [.Attribute (.Name "self" p6) "value" p7] (.Name "value" p8) p9]
section
variable {P : Program} {w : World} {K : PySem.W.Frag} {mg : Str → Option Value} {base : Heap} {k : Nat} {fI D cda cc : Addr} {qual name : Str} {params : Arguments} {dV kV doc pm ct oc : Value} {an od : Option Addr} {osl : Array (Option Value)} {p0 p1 p2 p3 p4 p5 p6 p7 p8 p9 : Pos}
/-- super().__init__(value) stands on one line -/
def MEq (p0 p1 p2 p3 p4 : Pos) : Prop := ∀ env : Env, env.scope = initSc → ∃ pl : Sem Bool, eval (.Call (.Attribute (.Call (.Name "super" p0) [] [] p1) "__init__" p2) [.Name "value" p3] [] p4) env = (do
  let ov ← attributeBase (.Call (.Name "super" p0) [] [] p1) "__init__" env (eval (.Call (.Name "super" p0) [] [] p1) env)
  standAt p2.atName
  let (f, first) ← holding [ov] (getMethod ov "__init__" pl)
  callWith p4 f first (backTo p4 (starEach [.Name "value" p3] env)) [])
/-- super().__init__(value), in the def's context -/
theorem super_run {X : Cx} {pins : List (Addr × Obj)} {σ : St} {H : Hp} {s : Shared} {L a C : Addr} {v2 : V} {body : List Stmt} {Q : Flow → Shared → Prop} {E : Value → Shared → Prop} (hme : MEq p0 p1 p2 p3 p4) (F : InitF P K mg fI D cda cc qual params) (lk : K.lookup fI = some ⟨oc, od, .func (PySem.W.ksFn name qual params body initSc dV kV doc pm an (.ref cda) ct cc), osl⟩)
    (hP : X.prog = P) (hK : X.K = K) (hmg : X.mg = mg) (hN : X.N = [("self" : Str), ("value" : Str)]) (hev : X.env = PySem.W.ksEnv qual initSc L fI (.ref cda) cc) (I : Inv X pins σ H s) (T : InitC K D C) (e : H a = some (exo a C none)) (h0 : σ[0]? = some (some (.ref a))) (h1 : σ[1]? = some (some v2)) (h : ∀ s', Inv X pins σ H s' → Q .next s') :
    _root_.PySem.wpAt (model X.prog X.w) X.A (.func body X.env) (exec (.Expr (.Call (.Attribute (.Call (.Name "super" p0) [] [] p1) "__init__" p2) [.Name "value" p3] [] p4) p5) X.env) Q E s := by
  subst hP hK hmg
  obtain ⟨m, hn, hl⟩ := I.loc
  rw [hev] at hn hl
  have Xk := I.kIn
  obtain ⟨ccl, cdd, cvs, ccs, file, tf, hcode, hvs, hfile⟩ := F.code
  obtain ⟨cl, cld, csl, hcell⟩ := F.cell
  obtain ⟨cdD, hD⟩ := F.cls
  obtain ⟨ar, hp, har⟩ := F.hp
  obtain ⟨mb, hmb, hboot⟩ := I.mod.blt
  obtain ⟨t1, hx⟩ := exo_at I.hok e
  have self : m "self" = some (.ref a) := by
    obtain ⟨u, r, k⟩ := hl 0 "self" (.ref a) (by rw [hN]; rfl) h0 (.inl rfl)
    obtain rfl : u = Value.ref a := r
    rcases k with ⟨_, k⟩ | ⟨k, _⟩
    · exact k
    · rcases k with k | k <;> cases k
  obtain ⟨u2, r2, val⟩ : ∃ u2, RelV v2 u2 ∧ m "value" = some u2 := by
    obtain ⟨u, r, k⟩ := hl 1 "value" v2 (by rw [hN]; rfl) h1 (.inl rfl)
    rcases k with ⟨_, k⟩ | ⟨k, _⟩
    · exact ⟨u, r, k⟩
    · rcases k with k | k <;> cases k
  obtain ⟨oD, hD1, hD2⟩ : ∃ oD, s.heap.get? D = some oD ∧ oD.data = .cls cdD := by
    unfold PySem.W.clsIn at hD
    split at hD
    · rename_i c d cd' sl ho
      cases hD
      exact ⟨_, Xk _ _ ho, rfl⟩
    · cases hD
  have inst : PySem.W.InstAt s.heap a { cls := .ref C, dict := none, data := .fields #[.ref t1, .none, .none, .none, .bool false, .none] } C none := ⟨hx, rfl, rfl, trivial⟩
  rw [hev]
  refine PySem.ks_wpAt_Expr_any ?_ rfl rfl
  obtain ⟨pl, he⟩ := hme (PySem.W.ksEnv qual initSc L fI (.ref cda) cc) rfl
  refine PySem.ks_wpAt_MethodCall (pl := pl) ?_ he
  refine PySem.ks_wpAt_super_base (env := PySem.W.ksEnv qual initSc L fI (.ref cda) cc) (f := fI) rfl rfl (by decide) rfl (Xk _ _ lk) rfl hp rfl (Xk _ _ hcode) rfl hvs hfile F.top ?_
  refine PySem.W.ks_loadName_global (rfl) rfl (Calls.loadGlobal_builtin (env := PySem.W.ksEnv qual initSc L fI (.ref cda) cc) (I.mod.glob.keeps I.bk) F.mgs (hmb.keeps I.bk) ((hboot _ (by decide +kernel)).trans PyProof.Rows.Boot.«super») ⟨rfl, ?_⟩)
  refine wpAny_loadName_free rfl rfl rfl ⟨_, Xk _ _ hcell, rfl⟩ ?_
  rw [har]
  refine wpAny_loadName_local rfl rfl hn self ?_
  refine PySem.ks_wpAny_isType_cls hD1 hD2 ⟨rfl, ?_⟩
  obtain ⟨hh, g, d, tk, os⟩ := s
  refine PySem.ks_wpAny_call_super hD1 hD2 hx rfl (fun c z => by cases z) (PySem.W.looks_mroIn Xk T.sub) fun h' hso kp => ?_
  -- the super object, then the bound __init__
  have I1 : Inv X pins σ H ⟨h', g, d, tk, os⟩ := I.kept kp
  have X1 := I1.kIn
  have inst1 : PySem.W.InstAt h' a { cls := .ref C, dict := none, data := .fields #[.ref t1, .none, .none, .none, .bool false, .none] } C none := ⟨kp _ _ hx, rfl, rfl, trivial⟩
  have hI : PySem.W.Looks (model X.prog X.w) h' (isInstance (.ref a) (.type "ValueError")) true := inst1.type.andThen (PySem.W.looks_subIn X1 T.ve)
  have sup := T.sup
  cases hc : PySem.W.clsIn X.K C with
  | none =>
    unfold PySem.W.ks_superIn at sup
    rw [hc] at sup
    cases sup
  | some cdC =>
  unfold PySem.W.ks_superIn at sup
  rw [hc] at sup
  refine PySem.W.kxs_getMethod (l₀ := cdC.mro) PySem.W.kxs_ValueError hso (PySem.W.looks_opaque X1 F.opq) (fun A Q E s k q => wpAny_bind ((PySem.W.looks_clsIn X1 hc) A _ E s k (wpAny_pure q))) rfl X1 sup hI (PySem.W.ks_ne X1 inst1 hc) (by decide) ?_
  have I2 : Inv X pins σ H ⟨h'.push (PySem.W.kxs_mw "ValueError.__init__" a), g, d, tk + 1, os⟩ := I1.kept (s := ⟨h', g, d, tk, os⟩) (t' := tk + 1) fun b o z => Heap.get?_push_of_some _ z
  have hu : (h'.push (PySem.W.kxs_mw "ValueError.__init__" a)).get? h'.objs.size = some (PySem.W.kxs_mw "ValueError.__init__" a) := Heap.get?_push_at rfl rfl
  obtain ⟨m2, hn2, hl2⟩ := I2.loc
  rw [hev] at hn2 hl2
  obtain ⟨u3, r3, val3⟩ : ∃ u2, RelV v2 u2 ∧ m2 "value" = some u2 := by
    obtain ⟨u, r, k⟩ := hl2 1 "value" v2 (by rw [hN]; rfl) h1 (.inl rfl)
    rcases k with ⟨_, k⟩ | ⟨k, _⟩
    · exact ⟨u, r, k⟩
    · rcases k with k | k <;> cases k
  refine PySem.W.kxs_callWith (i := "ValueError.__init__") (x := a) rfl (Calls.evalArgs_plain ?_)
  show wpAny _ _ (spliced ((false, eval (.Name "value" p3) (PySem.W.ksEnv qual initSc L fI (.ref cda) cc)) :: backTo p4 (starEach [] (PySem.W.ksEnv qual initSc L fI (.ref cda) cc)))) _ _ _
  refine Calls.spliced_cons (wpAny_Name (wpAny_loadName_local rfl rfl hn2 val3 ?_) (by decide))
  refine Calls.spliced_nil ⟨hu, ?_⟩
  exact call_mw T.ox I2 e hu (by show 1 ≤ sizeLine; rw [sizeLine_eq]; omega) fun s' J => h s' J
theorem init_ok (lk : K.lookup fI = some ⟨oc, od, .func (PySem.W.ksFn name qual params (initBody p0 p1 p2 p3 p4 p5 p6 p7 p8 p9) initSc dV kV doc pm an (.ref cda) ct cc), osl⟩) (hme : MEq p0 p1 p2 p3 p4) (F : InitF P K mg fI D cda cc qual params) :
    FnOk P w K mg base (L2.CX P w) (k + 1) fI (PySem.W.ksFn name qual params (initBody p0 p1 p2 p3 p4 p5 p6 p7 p8 p9) initSc dV kV doc pm an (.ref cda) ct cc) ["self", "value"] (spI K D) := by
  refine ⟨fun vs H Q E ⟨a, C, v, e, _⟩ => by rw [e]; rfl, fun A outer s H args us vs Q E hr e0 hb r ⟨a, C, v, ev, T, e, hQ⟩ => ?_⟩
  subst ev
  cases r with
  | @cons _ u0 _ us r0 r =>
  cases r with
  | @cons _ u2 _ us r2 r =>
  cases r
  obtain rfl : u0 = Value.ref a := r0
  have back : ∀ b o, base.get? b = some o → s.heap.get? b = some o := fun b o e => (e0.bs b o e).1
  have KX := e0.mod.kin.keeps back
  obtain ⟨cl, cld, csl, hcell⟩ := F.cell
  refine PySem.ks_codeAny_call_defAt (fd := PySem.W.ksFn name qual params (initBody p0 p1 p2 p3 p4 p5 p6 p7 p8 p9) initSc dV kV doc pm an (.ref cda) ct cc) (body := initBody p0 p1 p2 p3 p4 p5 p6 p7 p8 p9) (binds := [("self", .ref a), ("value", u2)]) hr.depth (KX _ _ lk) rfl (e0.mod.nolimit.keeps back) (PySem.W.codeRec_of KX F.cin) rfl hb (show ∀ x ∈ initSc.names, x.2 ≠ .cell by decide) (fun y hy => ?_) (fun h₁ hns kp => ?_) rfl rfl rfl
  · rcases List.mem_cons.mp hy with rfl | hy
    · rfl
    · rcases List.mem_cons.mp hy with rfl | hy
      · rfl
      · cases hy
  · have J := init_start (qual := qual) (fI := fI) (cc := cc) (cdv := .ref cda) (E := E) (sc := initSc) (v1 := .ref a) (v2 := v) (u1 := .ref a) (u2 := u2) (tk := s.toks + 2) rfl hr.hd e0 (by decide) (fun x hx => ?_) rfl rfl ⟨_, _, e0.mod.kin _ _ hcell, rfl⟩ rfl r2 hns kp
    · have J' : Inv (lamK P w K mg base ["self", "value"] A outer s H E (PySem.W.ksEnv qual initSc s.heap.objs.size fI (.ref cda) cc)) [] [some (.ref a), some v] H { s with heap := h₁, toks := s.toks + 2 } := J
      refine PySem.ks_wpAt_execs_cons (super_run (X := lamK P w K mg base ["self", "value"] A outer s H E (PySem.W.ksEnv qual initSc s.heap.objs.size fI (.ref cda) cc)) hme F lk rfl rfl rfl rfl rfl J' T e rfl rfl fun s' J2 => ?_)
      have hp := pss_one (ps_ost (X := lamK P w K mg base ["self", "value"] A outer s H E (PySem.W.ksEnv qual initSc s.heap.objs.size fI (.ref cda) cc)) (f := "value") (pos := p9) (p' := p7) (pe_var (i := 0) (x := "self") (pos := p6) rfl (.inl rfl)) (pe_var (i := 1) (x := "value") (pos := p8) rfl (.inl rfl)))
      refine wpAt_of_wpAny (wpAny_mono (hp.run [] s' _ H { nx := fun _ H' => Q .non H', rt := fun _ _ => False } J2 ⟨v, rfl, .ref a, rfl, a, C, rfl, T.ox, T.no, .inl ⟨e, hQ⟩⟩) (fun f s2 hs => ?_) fun e s2 he => he)
      cases f with
      | next =>
        obtain ⟨σ', H', J3, q⟩ := hs
        exact ⟨.non, H', J3.os, J3.bare, J3.base, J3.hok, rfl, q⟩
      | ret u =>
        obtain ⟨_, _, _, _, _, z⟩ := hs
        exact z.elim
      | brk =>
        obtain ⟨_, _, _, z⟩ := hs
        exact z.elim
      | cont =>
        obtain ⟨_, _, _, z⟩ := hs
        exact z.elim
    · have := PySem.mem_of_lookup hx
      simp [initSc] at this
      exact this
end
end DL
/-! DLFnTy: the class of a function, of an own exception, for isinstance. -/
namespace DL
open PySem PySem.Spec PyProof.Rows L2
variable [Lams]
section
variable {prog : Program} {w : World} {A : Around} {E : Value → Shared → Prop} {h : Heap} {g : Array GenState} {d : Drawn} {t : Nat} {os : OsState} {a : Addr} {o : Obj}
theorem fn_lk : typeLookup (.type "function") "__class__" = pure (some (.builtin "object.__class__")) := by rw [typeLookup_type, builtinLookup_eq_fast]; kernel_rfl
theorem fn_sub : isSubtype (.type "function") (.type (".".intercalate ("object.__class__".cutAt '.').dropLast)) = pure true := by
  rw [PySem.F.owner_object_class, isSubtype_type]; kernel_rfl
theorem fn_ga : Slot "function" "__getattribute__" "object.__getattribute__" :=
  .of (owner := "object") (n := "__getattribute__") (by rw [typeLookup_type, builtinLookup_eq_fast]; kernel_rfl) (by decide +kernel) (by decide +kernel) (by decide +kernel)
    (by first | exact .inl (by decide +kernel) | exact .inr (by decide +kernel)) (by rw [isSubtype_type]; kernel_rfl)
theorem fn_get {R : Result → Shared → Prop} (hx : h.get? a = some o) (hc : o.cls = .type "function") (hq : R (.ok (.ret (.type "function"))) ⟨h, g, d, t, os⟩) :
    codeAny (model prog w) A (.call (.builtin "getset_descriptor.__get__") ⟨[.builtin "object.__class__", .ref a, .type "function"], []⟩) R ⟨h, g, d, t, os⟩ := by
  have hT : (⟨h, g, d, t, os⟩ : Shared).TypeIs (.ref a) "function" := ⟨_, hx, hc⟩
  have hT5 : (⟨h, g, d, t, os⟩ : Shared).TypeIs (.builtin "object.__class__") "getset_descriptor" := PySem.F.typeOf_object_class
  have f8 := fn_sub
  refine codeAny_call_builtin PySem.F.slot_gs_get.plain PySem.F.entry_gs_get (PySem.F.slot_gs_get.check _ _ _ _ _ _ _ _ hT5 (PySem.F.args_gs_get _ _ _) ?_)
  repeat (any_goals (first | assumption | wp_step))
  refine ⟨Code.quiet_builtin _ (by decide +kernel), codeAny_builtin PySem.F.entry_object_class ?_⟩
  repeat (any_goals (first | assumption | wp_step))
theorem fn_entry {tk : Tok} {Q : PySem.Fin → Shared → Prop} (hx : h.get? a = some o) (hc : o.cls = .type "function") (hq : Q (.done (.ret (.type "function"))) ⟨h, g, d, t, os⟩) :
    wpAny (model prog w) A (Builtin.«object.__getattribute__» ⟨[.ref a, .str "__class__" tk], []⟩) Q E ⟨h, g, d, t, os⟩ := by
  have hT : (⟨h, g, d, t, os⟩ : Shared).TypeIs (.ref a) "function" := ⟨_, hx, hc⟩
  have hT5 : (⟨h, g, d, t, os⟩ : Shared).TypeIs (.builtin "object.__class__") "getset_descriptor" := PySem.F.typeOf_object_class
  have f4 := fn_lk
  have f5 := PySem.F.typeOf_object_class
  have f6 := PySem.F.slot_gs_get.lookup
  have f7 := PySem.F.slot_gs_set.lookup
  repeat (any_goals (first | assumption | wp_step))
  refine fn_get hx hc ?_
  repeat (any_goals (first | assumption | wp_step))
theorem fn_call {tk : Tok} {R : Result → Shared → Prop} (hx : h.get? a = some o) (hc : o.cls = .type "function") (hq : R (.ok (.ret (.type "function"))) ⟨h, g, d, t, os⟩) :
    codeAny (model prog w) A (.call (.builtin "object.__getattribute__") ⟨[.ref a, .str "__class__" tk], []⟩) R ⟨h, g, d, t, os⟩ :=
  codeAny_call_builtin fn_ga.plain PySem.F.entry_object_getattribute (fn_ga.check _ _ _ _ _ _ _ _ (show (⟨h, g, d, t, os⟩ : Shared).TypeIs (.ref a) "function" from ⟨_, hx, hc⟩) (PySem.F.args_object_getattribute_2 _ _) (fn_entry hx hc hq))
theorem fn_by {tk : Tok} {Q : Value → Shared → Prop} (hx : h.get? a = some o) (hc : o.cls = .type "function") (hq : Q (.type "function") ⟨h, g, d, t, os⟩) : wpAny (model prog w) A (getAttrBy (.ref a) (.str "__class__" tk) false) Q E ⟨h, g, d, t, os⟩ := by
  have hT : (⟨h, g, d, t, os⟩ : Shared).TypeIs (.ref a) "function" := ⟨_, hx, hc⟩
  have f2 := fn_ga.lookup
  have f3 := fn_ga.bind (.ref a)
  repeat (any_goals (first | assumption | wp_step))
  refine fn_call hx hc ?_
  repeat (any_goals (first | assumption | wp_step))
theorem fn_attr {Q : Option Value → Shared → Prop} (hx : h.get? a = some o) (hc : o.cls = .type "function") (hq : Q (some (.type "function")) ⟨h, g, d, t + 1, os⟩) : wpAny (model prog w) A (getAttr? (.ref a) "__class__") Q E ⟨h, g, d, t, os⟩ := by
  unfold getAttr? getAttrBy?
  repeat (any_goals (first | assumption | with_reducible apply fn_by hx hc | wp_step))
theorem kitx_fn {K : PySem.W.Frag} : PySem.W.KitX K (.ref a) (.type "function") (PySem.W.KitAt a "function") := PySem.W.kitx_of PySem.W.kitAt_ty fun {_ _ _ _ _ s} p k => by
  obtain ⟨h, g, d, t, os⟩ := s
  obtain ⟨o, h1, h2⟩ := p
  exact fn_attr h1 h2 k
end
/-- the class of a value -/
inductive TyS (K : PySem.W.Frag) (H : Hp) : V → Value → Prop where
  | base {x : V} {t : Value} (h : TyX K H x t) : TyS K H x t
  | fn {f n c' : Nat} {cl : List (Str × Addr)} {q : Str} (e : H f = some (LamO f n cl c' q)) : TyS K H (.ref f) (.type "function")
  | exc {a C dd : Addr} {v : V} (e : H a = some (ExcO a C dd)) (ed : H dd = some (.xd [("value", v)])) (k : ExcK K C) : TyS K H (.ref a) (.ref C)
section
variable {X : Cx} {pins : List (Addr × Obj)} {σ : St} {H : Hp} {s : Shared}
theorem kit_ofS {x : V} {u t : Value} (I : Inv X pins σ H s) (rx : RelV x u) (ty : TyS X.K H x t) : ∃ P : Heap → Prop, PySem.W.KitX X.K u t P ∧ P s.heap ∧ u ≠ .builtin "__main__.__loader__#opaque" := by
  cases ty with
  | base b => exact kit_of I rx b
  | @fn f n c' cl q e =>
    cases (show u = Value.ref f from rx)
    obtain ⟨⟨L, pm, ctv, _, ho⟩, _, _⟩ := I.hok f _ e
    exact ⟨_, kitx_fn, ⟨_, ho, rfl⟩, fun z => nomatch z⟩
  | @exc a C dd v e ed k =>
    cases (show u = Value.ref a from rx)
    obtain ⟨⟨o, vs, ho, hc, hdct, hdat⟩, _, _⟩ := I.hok a _ e
    obtain ⟨mA, ⟨od, es, ep, hod, _⟩, _⟩ := I.hok dd _ ed
    exact ⟨_, PySem.W.kitx_exc (x := a) (od := some od) k.hcl k.hga k.hgt k.hsub k.ha k.hn k.htk k.hm, ⟨ho, hc, by unfold PySem.W.notCls; rw [hdat] <;> rfl, by rw [hdct]; exact hod⟩, fun z => nomatch z⟩
def rIsiS (K : PySem.W.Frag) : List V → Hp → VK → Prop := fun xs H Q => ∃ (x c : V) (t u : Value) (b : Bool), xs = [x, c] ∧ ClsV c u ∧ TyS K H x t ∧ PySem.W.kitOne K t u = some b ∧ Q (.bl b) H
theorem call_isiS : CallR X (.builtin "isinstance") (rIsiS X.K) := by
  intro pins s σ H xs us Q I r h
  obtain ⟨x, c, t, u, b, rfl, k, ty, e, q⟩ := h
  obtain ⟨u1, u2, rfl, r1, r2⟩ := vals2 r
  have e2 := k.eq r2
  subst e2
  obtain ⟨P, Z, p, hx⟩ := kit_ofS I r1 ty
  exact PySem.W.kia_one Z I.kIn p e hx fun tk => ⟨.bl b, H, I.tok tk, rfl, q⟩
end
end DL
/-! DLBlt: built-in functions, types and methods over data. -/
namespace DL
open PySem PySem.Spec PyProof.Rows L2
variable [Lams]
theorem RepBs.one {K : PySem.W.Frag} {A : Addr → Prop} {H : Hp} {vs : List V} {d : D} (r : RepBs K A H vs [d]) : ∃ v, vs = [v] ∧ RepB K A H v d := by
  cases r with
  | cons r t =>
    cases t
    exact ⟨_, rfl, r⟩
theorem RepBs.two {K : PySem.W.Frag} {A : Addr → Prop} {H : Hp} {vs : List V} {d e : D} (r : RepBs K A H vs [d, e]) : ∃ v u, vs = [v, u] ∧ RepB K A H v d ∧ RepB K A H u e := by
  cases r with
  | cons r t =>
    cases t with
    | cons r2 t =>
      cases t
      exact ⟨_, _, rfl, r, r2⟩
theorem RepB.tupA {K : PySem.W.Frag} {A : Addr → Prop} {H : Hp} {v : V} {ds : List D} (r : RepB K A H v (.tuple ds)) : Rep K A H v (.tuple ds) := by
  obtain ⟨a, xs, rfl, _, _, _, w⟩ := r.tup
  exact w
/-! ### isinstance -/
def tagD : D → String
  | .none => "NoneType"
  | .bool _ => "bool"
  | .int _ => "int"
  | .str _ => "str"
  | .list _ => "list"
  | .tuple _ => "tuple"
  | .dict _ => "dict"
theorem RepKv.real {K : PySem.W.Frag} {A : Addr → Prop} {H : Hp} {kvs : List (Key × V)} {ps : List (D × D)} (r : RepKv K A H kvs ps) : realB ps = true := by
  cases r with
  | nil => rfl
  | @cons k _ _ _ _ _ _ => cases k <;> rfl
def isIntD : D → Bool
  | .int _ => true
  | .bool _ => true
  | _ => false
def isBoolD : D → Bool
  | .bool _ => true
  | _ => false
def isStrD : D → Bool
  | .str _ => true
  | _ => false
def isTupD : D → Bool
  | .tuple _ => true
  | _ => false
def isListD : D → Bool
  | .list _ => true
  | _ => false
def isDictD : D → Bool
  | .dict ps => realB ps
  | _ => false
structure IsiOk (T : String) (b : D → Bool) : Prop where
  r : ∀ d, (∀ ps, d = .dict ps → realB ps = true) → kitB (tagD d) T = some (b d)
  fn : kitB "function" T = some false
  sp : ∀ ps, realB ps = false → b (.dict ps) = false
  mem : T ∈ (["NoneType", "bool", "int", "str", "list", "tuple", "dict"] : List String)
theorem RepB.kit {K : PySem.W.Frag} {A : Addr → Prop} {H : Hp} {v : V} {d : D} {T : String} {b : D → Bool} (hb : IsiOk T b) (r : RepB K A H v d) : ∃ t, TyS K H v t ∧ PySem.W.kitOne K t (.type T) = some (b d) := by
  have real : ∀ {t : String}, TyX K H v (.type t) → t = tagD d → (∀ ps, d = .dict ps → realB ps = true) → ∃ t, TyS K H v t ∧ PySem.W.kitOne K t (.type T) = some (b d) := fun {t} h e n => by
    subst e
    exact ⟨_, .base h, kit_ty (hb.r d n)⟩
  rcases r with r | ⟨a, xs, ds, rfl, rfl, e, _⟩
  · cases r with
    | non => exact real (.base .non) rfl fun ps z => by cases z
    | bl b => exact real (.base (.bl b)) rfl fun ps z => by cases z
    | int i => exact real (.base (.int i)) rfl fun ps z => by cases z
    | str x _ => exact real (.base (.str x)) rfl fun ps z => by cases z
    | lst e _ _ _ => exact real (.base (.lst e)) rfl fun ps z => by cases z
    | tup s _ _ =>
      rcases s with ⟨r | ⟨o, r⟩, _⟩ | h
      · exact real (.base (.tup r)) rfl fun ps z => by cases z
      · exact real (.fTuple r) rfl fun ps z => by cases z
      · rcases h with (h | ⟨_, h⟩) | ⟨o, its, n, h, c, _⟩
        · cases h
        · cases h
        · exact real (.kTuple h c) rfl fun ps z => by cases z
    | dic e _ r => exact real (.base (.dK e)) rfl fun ps z => by cases z; exact r.real
    | fno _ e _ _ _ => exact ⟨_, .fn e, by rw [show b (fnO _ _) = false from hb.sp _ rfl]; exact kit_ty hb.fn⟩
    | fnc e _ _ _ _ _ _ _ => exact ⟨_, .fn e, by rw [show b (fnC _ _) = false from hb.sp _ rfl]; exact kit_ty hb.fn⟩
    | exc e _ ed _ k _ => exact ⟨_, .exc e ed k, by rw [show b (excD _ _) = false from hb.sp _ rfl]; exact k.hno T hb.mem⟩
  · exact real (.base (.lst e)) rfl fun ps z => by cases z
theorem isi_mk {T : String} {b : D → Bool} {n bo i s l t d : Bool} (h : [kitB "NoneType" T, kitB "bool" T, kitB "int" T, kitB "str" T, kitB "list" T, kitB "tuple" T, kitB "dict" T] = [some n, some bo, some i, some s, some l, some t, some d])
    (e1 : b .none = n) (e2 : ∀ x, b (.bool x) = bo) (e3 : ∀ x, b (.int x) = i) (e4 : ∀ x, b (.str x) = s) (e5 : ∀ x, b (.list x) = l) (e6 : ∀ x, b (.tuple x) = t) (e7 : ∀ x, realB x = true → b (.dict x) = d) (e8 : ∀ ps, realB ps = false → b (.dict ps) = false) (hf : kitB "function" T = some false) (hm : T ∈ (["NoneType", "bool", "int", "str", "list", "tuple", "dict"] : List String)) : IsiOk T b := by
  simp only [List.cons.injEq, and_true] at h
  obtain ⟨h1, h2, h3, h4, h5, h6, h7⟩ := h
  refine ⟨fun x hx => ?_, hf, e8, hm⟩
  cases x with
  | none => rw [e1]; exact h1
  | bool x => rw [e2]; exact h2
  | int x => rw [e3]; exact h3
  | str x => rw [e4]; exact h4
  | list x => rw [e5]; exact h5
  | tuple x => rw [e6]; exact h6
  | dict x => rw [e7 x (hx x rfl)]; exact h7
theorem isi_int : IsiOk "int" isIntD := isi_mk (n := false) (bo := true) (i := true) (s := false) (l := false) (t := false) (d := false) (by decide +kernel) rfl (fun _ => rfl) (fun _ => rfl) (fun _ => rfl) (fun _ => rfl) (fun _ => rfl) (fun _ _ => rfl) (fun _ _ => rfl) (by decide +kernel) (by decide)
theorem isi_bool : IsiOk "bool" isBoolD := isi_mk (n := false) (bo := true) (i := false) (s := false) (l := false) (t := false) (d := false) (by decide +kernel) rfl (fun _ => rfl) (fun _ => rfl) (fun _ => rfl) (fun _ => rfl) (fun _ => rfl) (fun _ _ => rfl) (fun _ _ => rfl) (by decide +kernel) (by decide)
theorem isi_str : IsiOk "str" isStrD := isi_mk (n := false) (bo := false) (i := false) (s := true) (l := false) (t := false) (d := false) (by decide +kernel) rfl (fun _ => rfl) (fun _ => rfl) (fun _ => rfl) (fun _ => rfl) (fun _ => rfl) (fun _ _ => rfl) (fun _ _ => rfl) (by decide +kernel) (by decide)
theorem isi_tuple : IsiOk "tuple" isTupD := isi_mk (n := false) (bo := false) (i := false) (s := false) (l := false) (t := true) (d := false) (by decide +kernel) rfl (fun _ => rfl) (fun _ => rfl) (fun _ => rfl) (fun _ => rfl) (fun _ => rfl) (fun _ _ => rfl) (fun _ _ => rfl) (by decide +kernel) (by decide)
theorem isi_list : IsiOk "list" isListD := isi_mk (n := false) (bo := false) (i := false) (s := false) (l := true) (t := false) (d := false) (by decide +kernel) rfl (fun _ => rfl) (fun _ => rfl) (fun _ => rfl) (fun _ => rfl) (fun _ => rfl) (fun _ _ => rfl) (fun _ _ => rfl) (by decide +kernel) (by decide)
theorem isi_dict : IsiOk "dict" isDictD := isi_mk (n := false) (bo := false) (i := false) (s := false) (l := false) (t := false) (d := true) (by decide +kernel) rfl (fun _ => rfl) (fun _ => rfl) (fun _ => rfl) (fun _ => rfl) (fun _ => rfl) (fun _ h => h) (fun _ h => h) (by decide +kernel) (by decide)
section
variable {X : Cx} {W : Wd} {N : List Str} {sc : Scope} {kk : Nat} {e : Expr} {c : Nat} {g : TDE} {pos p p2 : Pos}
def gIsi (b : D → Bool) (g : TDE) : TDE := fun Δ K => g Δ fun d => K (.bool (b d))
theorem de_isi (C : Cxt X W N sc kk) {T : String} {x : Str} {b : D → Bool} (hb : IsiOk T b) (hg : sc.names.lookup ("isinstance" : Str) = some .globalImplicit) (hm : X.mg ("isinstance" : Str) = none) (hgT : sc.names.lookup x = some .globalImplicit) (hmT : X.mg x = none) (hvT : bootBuiltins x = some (.type T)) (ha : DB X W e g c)
    (hn : x ≠ "__name__" := by decide +kernel) (hdb : (x == ("__debug__" : Str)) = false := by decide +kernel) (hs1 : starEach [e, .Name x p2] X.env = (false, eval e X.env) :: starEach [.Name x p2] X.env := by rfl) (hs2 : starEach [.Name x p2] X.env = (false, eval (.Name x p2) X.env) :: starEach [] X.env := by rfl)
    (hpl : (backTo pos (starEach [.Name x p2] X.env)).any (·.1) = false := by rfl) :
    DE X W (.Call (.Name "isinstance" p) [e, .Name x p2] [] pos) (gIsi b g) c :=
  pe_imp (pe_callB call_isiS (C.gl hg) hm PyProof.Rows.boot_isinstance (pa_cons ha (pa_cons (pe_bltn (v := .ty T) (C.gl hgT) hmT hvT rfl hn hdb) pa_nil hs2) hs1) (by decide +kernel) (by decide +kernel) hs1 hpl) fun σ H Q ⟨k, Δ, K, h1, h2, h3, h4⟩ => ⟨k, Δ, _, h1, h2, h3, fun d v H1 q1 c1 r1 => by
    obtain ⟨t, ty, kt⟩ := (RepO.bo C r1).kit hb
    exact ⟨v, .ty T, t, .type T, b d, rfl, .ty T, ty, kt, h4 _ _ H1 q1 c1 (.bl _)⟩⟩
end

/-! ### calls -/
section
variable {X : Cx}
def lenD : List D → (D → Prop) → Prop
  | [.str x], K => K (.int x.length)
  | [.list xs], K => K (.int xs.length)
  | [.tuple xs], K => K (.int xs.length)
  | [.dict xs], K => realB xs = true ∧ K (.int xs.length)
  | _, _ => False
theorem RepKv.length {K : PySem.W.Frag} {A : Addr → Prop} {H : Hp} : ∀ {vs : List (Key × V)} {ds : List (D × D)}, RepKv K A H vs ds → vs.length = ds.length
  | _, _, .nil => rfl
  | _, _, .cons _ t => congrArg (· + 1) t.length
theorem dc_len : DCall X (.builtin "len") lenD := by
  intro pins s σ H xs us Q I rv ⟨A, ds, K, dm, rs, q, hQ⟩
  unfold lenD at q
  split at q
  · obtain ⟨v, rfl, r⟩ := rs.one
    obtain ⟨rfl, z⟩ := r.str
    exact call_len pins s σ H _ us Q I rv ⟨_, _, rfl, ⟨z, rfl⟩, hQ _ _ H q (fun _ _ e => e) (.int _)⟩
  · obtain ⟨v, rfl, r⟩ := rs.one
    obtain ⟨a, ys, rfl, ha, ra, _⟩ := r.list
    exact call_len pins s σ H _ us Q I rv ⟨_, _, rfl, .inl ⟨ys, .inl (.inl ha), rfl⟩, hQ _ _ H q (fun _ _ e => e) (by rw [ra.length]; exact .int _)⟩
  · obtain ⟨v, rfl, r⟩ := rs.one
    obtain ⟨a, ys, rfl, ha, ra, _⟩ := r.tup
    exact call_len pins s σ H _ us Q I rv ⟨_, _, rfl, .inr ⟨ys, ha, rfl⟩, hQ _ _ H q (fun _ _ e => e) (by rw [ra.length]; exact .int _)⟩
  · obtain ⟨v, rfl, r⟩ := rs.one
    obtain ⟨a, kvs, rfl, ha, rk, _⟩ := r.dict q.1
    exact call_lenD pins s σ H _ us Q I rv ⟨a, kvs, rfl, ha, hQ _ _ H q.2 (fun _ _ e => e) (by rw [rk.length]; exact .int _)⟩
  · exact q.elim
def tupD : List D → (D → Prop) → Prop
  | [.list xs], K => K (.tuple xs)
  | [.tuple xs], K => K (.tuple xs)
  | _, _ => False
theorem dc_tuple : DCall X (.type "tuple") tupD := by
  intro pins s σ H xs us Q I rv ⟨A, ds, K, dm, rs, q, hQ⟩
  unfold tupD at q
  split at q
  · obtain ⟨v, rfl, r⟩ := rs.one
    obtain ⟨a, ys, rfl, ha, ra, z⟩ := r.list
    exact call_tuple_of pins s σ H _ us Q I rv ⟨a, ys, rfl, .inl ⟨.inl (.inl ha), fun p hp => hQ _ _ _ q (ext_laid hp) (.tup (.inl ⟨.inl upd_same, dom_not dm hp⟩) z (ra.map (kp_laid hp)))⟩⟩
  · obtain ⟨v, rfl, r⟩ := rs.one
    obtain ⟨a, ys, rfl, ha, ra, z, w⟩ := r.tup
    exact call_tuple_of pins s σ H _ us Q I rv ⟨a, ys, rfl, .inr ⟨ha, hQ _ _ H q (fun _ _ e => e) w⟩⟩
  · exact q.elim
def listD : List D → (List D → Prop) → Prop
  | [.list xs], K => K xs
  | [.tuple xs], K => K xs
  | _, _ => False
theorem dcf_list : DCallF X (.type "list") listD := by
  intro pins s σ H xs us Q I rv ⟨A, ds, K, dm, rs, q, hQ⟩
  unfold listD at q
  split at q
  · obtain ⟨v, rfl, r⟩ := rs.one
    obtain ⟨a, ys, rfl, ha, ra, z⟩ := r.list
    exact call_list_of pins s σ H _ us Q I rv ⟨a, ys, rfl, .inl (.inl (.inl ha)), fun p hp => hQ _ _ _ _ q (ext_laid hp) hp upd_same z (ra.map (kp_laidA hp))⟩
  · obtain ⟨v, rfl, r⟩ := rs.one
    obtain ⟨a, ys, rfl, ha, ra, z, w⟩ := r.tup
    exact call_list_of pins s σ H _ us Q I rv ⟨a, ys, rfl, .inr ha, fun p hp => hQ _ _ _ _ q (ext_laid hp) hp upd_same z (ra.map (kp_laidA hp))⟩
  · exact q.elim
def allD : List D → (D → Prop) → Prop
  | [.list xs], K => ∃ bs : List Bool, xs = bs.map PyData.bool ∧ K (.bool (bs.all id))
  | _, _ => False
def anyD : List D → (D → Prop) → Prop
  | [.list xs], K => ∃ bs : List Bool, xs = bs.map PyData.bool ∧ K (.bool (bs.any id))
  | _, _ => False
theorem dc_all (hc : X.calm = true) : DCall X (.builtin "all") allD := by
  intro pins s σ H xs us Q I rv ⟨A, ds, K, dm, rs, q, hQ⟩
  unfold allD at q
  split at q
  · obtain ⟨bs, rfl, q⟩ := q
    obtain ⟨v, rfl, r⟩ := rs.one
    obtain ⟨a, ys, rfl, ha, ra, z⟩ := r.list
    have e := ra.bools
    subst e
    exact cr_all hc pins s σ H _ us Q I rv ⟨a, bs, rfl, .inl (.inl ha), hQ _ _ H q (fun _ _ e => e) (.bl _)⟩
  · exact q.elim
theorem dc_any (hc : X.calm = true) : DCall X (.builtin "any") anyD := by
  intro pins s σ H xs us Q I rv ⟨A, ds, K, dm, rs, q, hQ⟩
  unfold anyD at q
  split at q
  · obtain ⟨bs, rfl, q⟩ := q
    obtain ⟨v, rfl, r⟩ := rs.one
    obtain ⟨a, ys, rfl, ha, ra, z⟩ := r.list
    have e := ra.bools
    subst e
    exact cr_any hc pins s σ H _ us Q I rv ⟨a, bs, rfl, .inl (.inl ha), hQ _ _ H q (fun _ _ e => e) (.bl _)⟩
  · exact q.elim
def sumD : List D → (D → Prop) → Prop
  | [.list xs], K => ∃ ns : List Int, xs = ns.map PyData.int ∧ K (.int ns.sum)
  | _, _ => False
theorem dc_sum (hc : X.calm = true) : DCall X (.builtin "sum") sumD := by
  intro pins s σ H xs us Q I rv ⟨A, ds, K, dm, rs, q, hQ⟩
  unfold sumD at q
  split at q
  · obtain ⟨bs, rfl, q⟩ := q
    obtain ⟨v, rfl, r⟩ := rs.one
    obtain ⟨a, ys, rfl, ha, ra, z⟩ := r.list
    have e := ra.ints
    subst e
    exact cr_sum hc pins s σ H _ us Q I rv ⟨a, bs, rfl, .inl (.inl ha), hQ _ _ H q (fun _ _ e => e) (.int _)⟩
  · exact q.elim
def maxD : List D → (D → Prop) → Prop
  | [.int i, .int j], K => K (.int (if j > i then j else i))
  | [.list xs], K => ∃ ns : List Int, xs = ns.map PyData.int ∧ 0 < ns.length ∧ ∀ m, m ∈ ns → (∀ y, y ∈ ns → y ≤ m) → K (.int m)
  | _, _ => False
def minD : List D → (D → Prop) → Prop
  | [.int i, .int j], K => K (.int (if j < i then j else i))
  | [.list xs], K => ∃ ns : List Int, xs = ns.map PyData.int ∧ 0 < ns.length ∧ ∀ m, m ∈ ns → (∀ y, y ∈ ns → m ≤ y) → K (.int m)
  | _, _ => False
theorem dc_max (hc : X.calm = true) : DCall X (.builtin "max") maxD := by
  intro pins s σ H xs us Q I rv ⟨A, ds, K, dm, rs, q, hQ⟩
  unfold maxD at q
  split at q
  · obtain ⟨v, u, rfl, r1, r2⟩ := rs.two
    exact call_max2 hc pins s σ H _ us Q I rv ⟨_, _, by rw [r1.int, r2.int], hQ _ _ H q (fun _ _ e => e) (.int _)⟩
  · obtain ⟨bs, rfl, hne, q⟩ := q
    obtain ⟨v, rfl, r⟩ := rs.one
    obtain ⟨a, ys, rfl, ha, ra, z⟩ := r.list
    have e := ra.ints
    subst e
    exact cr_max hc pins s σ H _ us Q I rv ⟨a, bs, rfl, .inl (.inl ha), hne, fun m h1 h2 => hQ _ _ H (q m h1 h2) (fun _ _ e => e) (.int _)⟩
  · exact q.elim
theorem dc_min (hc : X.calm = true) : DCall X (.builtin "min") minD := by
  intro pins s σ H xs us Q I rv ⟨A, ds, K, dm, rs, q, hQ⟩
  unfold minD at q
  split at q
  · obtain ⟨v, u, rfl, r1, r2⟩ := rs.two
    exact call_min2 hc pins s σ H _ us Q I rv ⟨_, _, by rw [r1.int, r2.int], hQ _ _ H q (fun _ _ e => e) (.int _)⟩
  · obtain ⟨bs, rfl, hne, q⟩ := q
    obtain ⟨v, rfl, r⟩ := rs.one
    obtain ⟨a, ys, rfl, ha, ra, z⟩ := r.list
    have e := ra.ints
    subst e
    exact cr_min hc pins s σ H _ us Q I rv ⟨a, bs, rfl, .inl (.inl ha), hne, fun m h1 h2 => hQ _ _ H (q m h1 h2) (fun _ _ e => e) (.int _)⟩
  · exact q.elim
def absD : List D → (D → Prop) → Prop
  | [.int i], K => K (.int (if i < 0 then -i else i))
  | _, _ => False
theorem dc_abs : DCall X (.builtin "abs") absD := by
  intro pins s σ H xs us Q I rv ⟨A, ds, K, dm, rs, q, hQ⟩
  unfold absD at q
  split at q
  · obtain ⟨v, rfl, r⟩ := rs.one
    exact call_abs pins s σ H _ us Q I rv ⟨_, by rw [r.int], hQ _ _ H q (fun _ _ e => e) (.int _)⟩
  · exact q.elim
def gcdD : List D → (D → Prop) → Prop
  | [.int i, .int j], K => K (.int ((Nat.gcd i.natAbs j.natAbs : Nat) : Int))
  | _, _ => False
theorem dc_gcd : DCall X (.builtin "math.gcd") gcdD := by
  intro pins s σ H xs us Q I rv ⟨A, ds, K, dm, rs, q, hQ⟩
  unfold gcdD at q
  split at q
  · obtain ⟨v, u, rfl, r1, r2⟩ := rs.two
    exact cr_gcd pins s σ H _ us Q I rv ⟨_, _, by rw [r1.int, r2.int], hQ _ _ H q (fun _ _ e => e) (.int _)⟩
  · exact q.elim
def intD : List D → (D → Prop) → Prop
  | [.int i], K => K (.int i)
  | [.bool b], K => K (.int (if b then 1 else 0))
  | [.str x], K => ∃ n, PySem.intText? x = some n ∧ x.length ≤ 640 ∧ K (.int n)
  | _, _ => False
theorem dc_int : DCall X (.type "int") intD := by
  intro pins s σ H xs us Q I rv ⟨A, ds, K, dm, rs, q, hQ⟩
  unfold intD at q
  split at q
  · obtain ⟨v, rfl, r⟩ := rs.one
    exact call_int1 pins s σ H _ us Q I rv (.inl ⟨_, by rw [r.int], hQ _ _ H q (fun _ _ e => e) (.int _)⟩)
  · obtain ⟨v, rfl, r⟩ := rs.one
    exact call_int1 pins s σ H _ us Q I rv (.inr ⟨_, by rw [r.bool], hQ _ _ H q (fun _ _ e => e) (.int _)⟩)
  · obtain ⟨v, rfl, r⟩ := rs.one
    obtain ⟨n, h1, h2, q⟩ := q
    exact call_int_str pins s σ H _ us Q I rv ⟨_, n, by rw [r.str.1], h1, h2, hQ _ _ H q (fun _ _ e => e) (.int _)⟩
  · exact q.elim
theorem intText_len {i : Int} (h : i.natAbs.log2 < 1920) : (toString i : Str).length ≤ sizeLine := by
  have := PySem.int_text_length_le (a := i) (k := 1920) (by decide) h
  rw [sizeLine_eq, PySem.ofString_length]
  omega
def strD : List D → (D → Prop) → Prop
  | [.int i], K => i.natAbs.log2 < 1920 ∧ K (.str (toString i))
  | [.str x], K => K (.str x)
  | _, _ => False
theorem dc_str : DCall X (.type "str") strD := by
  intro pins s σ H xs us Q I rv ⟨A, ds, K, dm, rs, q, hQ⟩
  unfold strD at q
  split at q
  · obtain ⟨v, rfl, r⟩ := rs.one
    exact call_str_int pins s σ H _ us Q I rv ⟨_, by rw [r.int], q.1, hQ _ _ H q.2 (fun _ _ e => e) (.str _ (intText_len q.1))⟩
  · obtain ⟨v, rfl, r⟩ := rs.one
    exact SkE.call_str_str pins s σ H _ us Q I rv ⟨_, by rw [r.str.1], hQ _ _ H q (fun _ _ e => e) (.str _ r.str.2)⟩
  · exact q.elim
def reprD : List D → (D → Prop) → Prop
  | [d], K => d.canLay0 = true ∧ d.showable = true ∧ d.depth ≤ 90 ∧ d.shown.length ≤ sizeLine ∧ K (.str d.shown)
  | _, _ => False
theorem RepB.ref_of {K : PySem.W.Frag} {A : Addr → Prop} {H : Hp} {v : V} {d : D} (r : RepB K A H v d) : (∃ a, v = .ref a) ∨ d = .none ∨ (∃ b, d = .bool b) ∨ (∃ i, d = .int i) ∨ ∃ x, d = .str x := by
  rcases r with r | ⟨a, xs, ds, rfl, rfl, e, _⟩
  · cases r with
    | non => exact .inr (.inl rfl)
    | bl b => exact .inr (.inr (.inl ⟨b, rfl⟩))
    | int i => exact .inr (.inr (.inr (.inl ⟨i, rfl⟩)))
    | str x _ => exact .inr (.inr (.inr (.inr ⟨x, rfl⟩)))
    | lst e _ _ _ => exact .inl ⟨_, rfl⟩
    | tup s _ _ => exact .inl ⟨_, rfl⟩
    | dic e _ _ => exact .inl ⟨_, rfl⟩
    | fno => exact .inl ⟨_, rfl⟩
    | fnc => exact .inl ⟨_, rfl⟩
    | exc => exact .inl ⟨_, rfl⟩
  · exact .inl ⟨_, rfl⟩
theorem dc_repr (hg : X.A.guards = some []) (hu : X.A.units + 100 < cLine) : DCall X (.builtin "repr") reprD := by
  intro pins s σ H xs us Q I rv ⟨A, ds, K, dm, rs, q, hQ⟩
  unfold reprD at q
  split at q
  · obtain ⟨v, rfl, r⟩ := rs.one
    obtain ⟨hl, hs, hd, hz, q⟩ := q
    rcases r.ref_of with ⟨a, rfl⟩ | rfl | ⟨b, rfl⟩ | ⟨i, rfl⟩ | ⟨x, rfl⟩
    · obtain ⟨u, rfl, t, rfl⟩ := vals1 rv
      obtain ⟨as, R⟩ := Dp.reads I _ _ _ (r.dp hl) (show RelV (.ref a) (.ref a) from rfl)
      refine PySem.repr_of_reads' R hs (PyData.noDict_hsm (PyData.hasDict_of_canLay _ hl)) hg (by omega) (fun _ _ e => e) (fun h' u tk hk => ⟨.str _, H, I.kept hk, ⟨u, rfl⟩, hQ _ _ H q (fun _ _ e => e) (.str _ hz)⟩) hz
    · obtain rfl := r.none
      obtain ⟨u, rfl, t⟩ := vals1 rv
      cases t
      exact PySem.P.repr_of_none ⟨.str _, H, I.tok _, ⟨_, rfl⟩, hQ _ _ H q (fun _ _ e => e) (.str _ hz)⟩
    · obtain rfl := r.bool
      obtain ⟨u, rfl, t⟩ := vals1 rv
      cases t
      exact PySem.P.repr_of_bool ⟨.str _, H, I.tok _, ⟨_, rfl⟩, hQ _ _ H q (fun _ _ e => e) (.str _ hz)⟩
    · obtain rfl := r.int
      obtain ⟨u, rfl, t, rfl⟩ := vals1 rv
      exact PySem.P.repr_of_int (by simpa [PyData.showable] using hs) ⟨.str _, H, I.tok _, ⟨_, rfl⟩, hQ _ _ H q (fun _ _ e => e) (.str _ hz)⟩
    · obtain ⟨rfl, z⟩ := r.str
      obtain ⟨u, rfl, t, rfl⟩ := vals1 rv
      exact PySem.P.repr_of_str ⟨.str _, H, I.tok _, ⟨_, rfl⟩, hQ _ _ H q (fun _ _ e => e) (.str _ hz)⟩ hz
  · exact q.elim
end

/-! ### methods of texts -/
section
variable {X : Cx} {W : Wd} {N : List Str} {sc : Scope} {kk : Nat} {o e : Expr} {c ca cb : Nat} {ga gb : TDE} {pos apos : Pos} {id : String} {name : Str}
def rDM (Kf : PySem.W.Frag) (f : List D → (D → Prop) → Prop) : V → List V → Hp → VK → Prop := fun x xs H Q => rDC Kf f (x :: xs) H Q
abbrev DMeth (X : Cx) (id : String) (f : List D → (D → Prop) → Prop) : Prop := MtR X id (rDM X.K f)
def gM0 (f : List D → (D → Prop) → Prop) (ga : TDE) : TDE := fun Δ K => ga Δ fun x => isStrD x = true ∧ f [x] K
def gM1 (f : List D → (D → Prop) → Prop) (ga gb : TDE) : TDE := fun Δ K => ga Δ fun x => isStrD x = true ∧ gb Δ fun y => f [x, y] K
theorem RepB.isStr {K : PySem.W.Frag} {A : Addr → Prop} {H : Hp} {v : V} {d : D} (r : RepB K A H v d) (h : isStrD d = true) : ∃ x, v = .str x := by
  cases d with
  | str x => exact ⟨x, r.str.1⟩
  | _ => cases h
theorem de_m0 (C : Cxt X W N sc kk) {f : List D → (D → Prop) → Prop} (slot : Slot "str" name id) (ty : typeOf (.builtin id) = pure (.type "method_descriptor")) (rule : DMeth X id f) (ho : DB X W o ga ca)
    (hbase : attributeBase o name X.env (eval o X.env) = eval o X.env := by rfl) (hline : (apos.endLine == pos.line) = true := by rfl) : DE X W (.Call (.Attribute o name apos) [] [] pos) (gM0 f ga) ca :=
  pe_imp (pe_m0 slot ty rule ho hbase hline) fun σ H Q ⟨k, Δ, K, h1, h2, h3, h4⟩ => ⟨k, Δ, _, h1, h2, h3, fun dx x H1 ⟨s1, q1⟩ c1 r1 => by
    have e1 := h2.chg C.ok c1
    exact ⟨(RepO.bo C r1).isStr s1, AA W σ Δ, [dx], K, e1.dom C, .cons (RepO.bo C r1) .nil, q1, fun d v H' hd hx hv => h4 d v H' hd (c1.trans (Chg.of_ext e1.fin hx)) (by rw [C.hK]; exact hv)⟩⟩
theorem de_m1 (C : Cxt X W N sc kk) {f : List D → (D → Prop) → Prop} (slot : Slot "str" name id) (ty : typeOf (.builtin id) = pure (.type "method_descriptor")) (rule : DMeth X id f) (ho : DB X W o ga ca) (he : DB X W e gb cb)
    (hs : starEach [e] X.env = [(false, eval e X.env)] := by rfl) (hbase : attributeBase o name X.env (eval o X.env) = eval o X.env := by rfl) (hline : (apos.endLine == pos.line) = true := by rfl) :
    DE X W (.Call (.Attribute o name apos) [e] [] pos) (gM1 f ga gb) (ca + cb) :=
  pe_imp (pe_m1 slot ty rule ho he hs hbase hline) fun σ H Q ⟨k, Δ, K, h1, h2, h3, h4⟩ => ⟨k, Δ, _, by omega, h2, h3, fun dx x H1 ⟨s1, q1⟩ c1 r1 => by
    have e1 := h2.chg C.ok c1
    refine ⟨(RepO.bo C r1).isStr s1, k + ca, Δ, _, by omega, e1, q1, fun dy y H2 q2 c2 r2 => ?_⟩
    have e2 := e1.chg C.ok c2
    refine ⟨AA W σ Δ, [dx, dy], K, e2.dom C, .cons (RepO.bo C (RepO.chg C e1 r1 c2)) (.cons (RepO.bo C r2) .nil), q2, fun d v H' hd hx hv => h4 d v H' hd ((chg3 c1 c2).trans ?_) (by rw [C.hK]; exact hv)⟩
    have e : k + ca + cb = k + (ca + cb) := by omega
    exact e ▸ Chg.of_ext e2.fin hx⟩
/-- sep.join(xs) -/
def joinD : List D → (D → Prop) → Prop
  | [.str a, .list ds], K => ∃ ys : List Str, ds = ys.map PyData.str ∧ (ys.map (·.length)).sum + ys.length * a.length ≤ 16777216 ∧ (Txt.join a ys).length ≤ sizeLine ∧ K (.str (Txt.join a ys))
  | [.str a, .tuple ds], K => ∃ ys : List Str, ds = ys.map PyData.str ∧ (ys.map (·.length)).sum + ys.length * a.length ≤ 16777216 ∧ (Txt.join a ys).length ≤ sizeLine ∧ K (.str (Txt.join a ys))
  | _, _ => False
theorem vs1 {vs : List V} {x : V} {xs ys : List V} (h : x :: xs = ys) : ∃ y z, ys = y :: z ∧ x = y ∧ xs = z := ⟨x, xs, h.symm, rfl, rfl⟩
theorem dm_join : DMeth X "str.join" joinD := by
  intro pins s σ H x xs v us Q I rx rs ⟨A, ds, K, dm, rd, q, hQ⟩
  unfold joinD at q
  split at q
  · obtain ⟨ys, rfl, h1, h2, q⟩ := q
    obtain ⟨v1, v2, e, r1, r2⟩ := rd.two
    cases e
    obtain ⟨a, zs, rfl, ha, ra, _⟩ := r2.list
    have e := ra.strs
    subst e
    exact mt_join pins s σ H _ _ v us Q I rx rs ⟨_, a, ys, r1.str.1, rfl, .inl (.inl (.inl ha)), h1, hQ _ _ H q (fun _ _ e => e) (.str _ h2)⟩
  · obtain ⟨ys, rfl, h1, h2, q⟩ := q
    obtain ⟨v1, v2, e, r1, r2⟩ := rd.two
    cases e
    obtain ⟨a, zs, rfl, ha, ra, _⟩ := r2.tup
    have e := ra.strs
    subst e
    exact mt_join pins s σ H _ _ v us Q I rx rs ⟨_, a, ys, r1.str.1, rfl, .inr ha, h1, hQ _ _ H q (fun _ _ e => e) (.str _ h2)⟩
  · exact q.elim
/-- x.split(sep) -/
def splitD : List D → (D → Prop) → Prop
  | [.str a, .str b], K => (b.length == 0) = false ∧ a.length + 2 ≤ sizeLine ∧ (Txt.split a b).length ≤ sizeLine ∧ (∀ y ∈ Txt.split a b, y.length ≤ sizeLine) ∧ K (.list ((Txt.split a b).map PyData.str))
  | _, _ => False
theorem dm_split : DMeth X "str.split" splitD := by
  intro pins s σ H x xs v us Q I rx rs ⟨A, ds, K, dm, rd, q, hQ⟩
  unfold splitD at q
  split at q
  · obtain ⟨h1, h2, h3, h4, q⟩ := q
    obtain ⟨v1, v2, e, r1, r2⟩ := rd.two
    cases e
    exact mt_split pins s σ H _ _ v us Q I rx rs ⟨_, _, r1.str.1, by rw [r2.str.1], h1, h2, fun p hp => hQ _ _ _ q (ext_laid hp) (.lst upd_same (dom_not dm hp) (by rw [List.length_map]; exact h3) (RepAll.of_strs _ h4))⟩
  · exact q.elim
end
end DL
/-! DLLaw: a law's script, its pots, its draws. -/
namespace DL
open PySem PySem.Spec PyProof.Rows L2
variable [Lams]
section
variable {X : Cx} {W : Wd} {N : List Str} {sc : Scope} {kk : Nat} {e a b : Expr} {es : List Expr} {c ca cb cc : Nat} {g ga gb gc : TDE} {pos p p2 p3 p4 p5 : Pos} {k j : Nat} {σ : St} {Δ : DEnv} {H H' : Hp} {v : V} {d : D}
/-! ### list(range(e)), list(range(e, f)) -/
def rgD (a b : Int) : List D := (List.range (b - a).toNat).map fun i => PyData.int (a + (i : Nat))
theorem rep_rg {K : PySem.W.Frag} {A : Addr → Prop} {H : Hp} : ∀ (l : List Nat) (a : Int), RepAll K A H (l.map fun i => V.int (a + (i : Nat))) (l.map fun i => PyData.int (a + (i : Nat)))
  | [], _ => .nil
  | n :: l, a => .cons (.int _) (rep_rg l a)
def gLRg (ga : TDE) : TDL := fun Δ K => ga Δ fun d => match d with
  | .int n => 0 ≤ n ∧ n ≤ 16777216 ∧ K (rgD 0 n)
  | _ => False
theorem rgD_len (a b : Int) : (rgD a b).length = (b - a).toNat := by
  unfold rgD
  rw [List.length_map, List.length_range]
theorem df_lrg (C : Cxt X W N sc kk) (hg : sc.names.lookup ("list" : Str) = some .globalImplicit) (hm : X.mg ("list" : Str) = none) (hg2 : sc.names.lookup ("range" : Str) = some .globalImplicit) (hm2 : X.mg ("range" : Str) = none) (he : DB X W e ga c)
    (na : starEach [e] X.env = (false, eval e X.env) :: starEach [] X.env := by rfl) (na2 : starEach [.Call (.Name "range" p2) [e] [] p3] X.env = (false, eval (.Call (.Name "range" p2) [e] [] p3) X.env) :: starEach [] X.env := by rfl) : DF X W (.Call (.Name "list" p) [.Call (.Name "range" p2) [e] [] p3] [] pos) (gLRg ga) c :=
  pe_imp (pe_listRg C.calm (C.gl hg) hm (prg_1 (C.gl hg2) hm2 he na) na2) fun σ H Q ⟨k, Δ, K, h1, h2, h3, h4⟩ => ⟨k, Δ, _, h1, h2, h3, fun d v H1 q1 c1 r1 => by
    cases d with
    | int n =>
      obtain ⟨h0, hn, q1⟩ := (show 0 ≤ n ∧ n ≤ 16777216 ∧ K (rgD 0 n) from q1)
      have e1 := h2.chg C.ok c1
      refine ⟨n, RepO.int r1, RgOk.of_le (by omega) hn (by omega) h0, fun q hq => ?_⟩
      exact h4 _ _ _ _ q1 (c1.laid C h2 hq) (c1.free hq) upd_same (by rw [rgD_len, sizeLine_eq]; omega) (rep_rg _ _)
    | _ => exact (show False from q1).elim⟩

/-! ### the script: len, an item, sum(script[:1]) -/
def gLenS (i : Nat) : TDE := fun Δ K => match nth Δ i with
  | .scr ns => K (.int ns.length)
  | _ => False
def gIxS (i : Nat) (ga : TDE) : TDE := fun Δ K => match nth Δ i with
  | .scr ns => ga Δ fun d => match d with
    | .int n => ∃ z, atI ns n = some z ∧ K (.int z)
    | _ => False
  | _ => False
def gSumS (i : Nat) : TDE := fun Δ K => match nth Δ i with
  | .scr ns => K (.int (ns.take 1).sum)
  | _ => False
theorem scr_of {i : Nat} {ns : List Int} (en : En W k σ H Δ) (h : nth Δ i = .scr ns) : ∃ a, σ[i]? = some (some (.ref a)) ∧ ScrAt W.K (AA W σ Δ) H a ns := by
  have s := en.sl i
  rw [h] at s
  exact s
variable {x : Str} {i : Nat}
theorem de_lenS (C : Cxt X W N sc kk) (hg : sc.names.lookup ("len" : Str) = some .globalImplicit) (hm : X.mg ("len" : Str) = none) (hx : N[i]? = some x) (hv : Vis sc x) (hd : (x == ("__debug__" : Str)) = false := by decide +kernel) (hcd : (x == ("__classdict__" : Str)) = false := by decide +kernel)
    (he : starEach [.Name x p2] X.env = (false, eval (.Name x p2) X.env) :: starEach [] X.env := by rfl) (hpl : (backTo pos (starEach [] X.env)).any (·.1) = false := by rfl) : DE X W (.Call (.Name "len" p) [.Name x p2] [] pos) (gLenS i) 0 :=
  pe_imp (pe_callB call_len (C.gl hg) hm PySem.boot_len (pa_cons (pe_var (i := i) (by rw [C.hN]; exact hx) (by rw [C.hsc]; exact hv) hd hcd) pa_nil he) (by decide +kernel) (by decide +kernel) he hpl) fun σ H Q ⟨k, Δ, K, h1, h2, h3, h4⟩ => by
    unfold gLenS at h3
    cases h : nth Δ i with
    | scr ns =>
      rw [h] at h3
      obtain ⟨a, e, r⟩ := scr_of h2 h
      refine ⟨.ref a, e, .ref a, _, rfl, .inl ⟨_, by rw [← C.hK]; exact r.sq, rfl⟩, ?_⟩
      rw [List.length_map]
      exact h4 _ _ H h3 h2.refl (.int _)
    | _ =>
      rw [h] at h3
      exact (show False from h3).elim
theorem atI_map {α β : Type} {f : α → β} {xs : List α} {n : Int} {z : α} (h : atI xs n = some z) : atI (xs.map f) n = some (f z) := by
  unfold atI at h ⊢
  rw [List.length_map]
  cases hn : ixN xs.length n with
  | none =>
    rw [hn] at h
    cases h
  | some j =>
    rw [hn] at h
    show (xs.map f)[j]? = some (f z)
    rw [List.getElem?_map]
    rw [show xs[j]? = some z from h]
    rfl
theorem de_ixS (C : Cxt X W N sc kk) (hx : N[i]? = some x) (hv : Vis sc x) (hb : DB X W b gb cb) (hd : (x == ("__debug__" : Str)) = false := by decide +kernel) (hcd : (x == ("__classdict__" : Str)) = false := by decide +kernel) (hs : PlainIx b := by exact fun _ _ => rfl) : DE X W (.Subscript (.Name x p) b pos) (gIxS i gb) cb :=
  pe_imp (pe_ix ix_list (pe_var (i := i) (by rw [C.hN]; exact hx) (by rw [C.hsc]; exact hv) hd hcd) hb hs) fun σ H Q ⟨k, Δ, K, h1, h2, h3, h4⟩ => by
    unfold gIxS at h3
    cases h : nth Δ i with
    | scr ns =>
      rw [h] at h3
      obtain ⟨a, e, r⟩ := scr_of h2 h
      refine ⟨.ref a, e, k, Δ, _, h1, h2, h3, fun d v H1 q1 c1 r1 => ?_⟩
      cases d with
      | int n =>
        obtain ⟨z, hz, q1⟩ := (show ∃ z, atI ns n = some z ∧ K (.int z) from q1)
        refine ⟨a, _, n, .int z, rfl, RepO.int r1, by rw [← C.hK]; exact (r.map (c1.kpE C.ok)).sq, atI_map hz, h4 _ _ H1 q1 c1 (.int _)⟩
      | _ => exact (show False from q1).elim
    | _ =>
      rw [h] at h3
      exact (show False from h3).elim
theorem cut01 {α : Type} (xs : List α) : cutL xs none (some 1) = xs.take 1 := by
  unfold cutL
  rw [HT.sIx_none, show HT.sIx xs.length xs.length (some 1) = min 1 xs.length from HT.sIx_nat xs.length xs.length 1, List.drop_zero, Nat.sub_zero]
  cases xs with
  | nil => rfl
  | cons x r =>
    rw [show min 1 (x :: r).length = 1 by
      rw [List.length_cons]
      omega]
theorem de_sumS (C : Cxt X W N sc kk) (hg : sc.names.lookup ("sum" : Str) = some .globalImplicit) (hm : X.mg ("sum" : Str) = none) (hx : N[i]? = some x) (hv : Vis sc x) {kz : Nat} (hd : (x == ("__debug__" : Str)) = false := by decide +kernel) (hcd : (x == ("__classdict__" : Str)) = false := by decide +kernel)
    (he : starEach [.Subscript (.Name x p2) (.Slice none (some (.Constant (.int 1) kz p3)) none p4) p5] X.env = (false, eval (.Subscript (.Name x p2) (.Slice none (some (.Constant (.int 1) kz p3)) none p4) p5) X.env) :: starEach [] X.env := by rfl) (hpl : (backTo pos (starEach [] X.env)).any (·.1) = false := by rfl) :
    DE X W (.Call (.Name "sum" p) [.Subscript (.Name x p2) (.Slice none (some (.Constant (.int 1) kz p3)) none p4) p5] [] pos) (gSumS i) 0 :=
  pe_imp (pe_callB (cr_sum C.calm) (C.gl hg) hm PyProof.Rows.boot_sum (pa_cons (pe_slice sl_list (pe_var (i := i) (by rw [C.hN]; exact hx) (by rw [C.hsc]; exact hv) hd hcd) po_none (po_some pe_int)) pa_nil he) (by decide +kernel) (by decide +kernel) he hpl) fun σ H Q ⟨k, Δ, K, h1, h2, h3, h4⟩ => by
    unfold gSumS at h3
    cases h : nth Δ i with
    | scr ns =>
      rw [h] at h3
      obtain ⟨a, e, r⟩ := scr_of h2 h
      refine ⟨.ref a, e, 1, rfl, a, _, rfl, by rw [← C.hK]; exact r.sq, fun q hq => ⟨q, ns.take 1, rfl, .inl (.inl ?_), ?_⟩⟩
      · rw [upd_same]
        show some (HO.lst (cutL (ns.map V.int) none (some 1))) = _
        rw [cut01, List.map_take]
      · exact h4 _ _ _ h3 (h2.refl.laid C h2 hq) (.int _)
    | _ =>
      rw [h] at h3
      exact (show False from h3).elim

/-! ### the pot -/
def PB (j v : Int) : Prop := (j = 0 ∧ 0 ≤ v ∧ v < 10 ^ 300) ∨ (j = 1 ∧ 0 ≤ v ∧ v < 2 ^ 61) ∨ (j = 2 ∧ 0 ≤ v ∧ v ≤ 4194304)
def gPix (i : Nat) (j : Int) : TDE := fun Δ K => match nth Δ i with
  | .pot => (j = 0 ∨ j = 1 ∨ j = 2) ∧ ∀ v, PB j v → K (.int v)
  | _ => False
theorem pot_of (en : En W k σ H Δ) (h : nth Δ i = .pot) : ∃ a, σ[i]? = some (some (.ref a)) ∧ W.P a ∧ PotAt (W.n0 + k) H a := by
  have s := en.sl i
  rw [h] at s
  obtain ⟨a, e, q⟩ := s
  exact ⟨a, e, q, en.fin.pots a q⟩
theorem de_pix (C : Cxt X W N sc kk) {j : Int} {kz : Nat} (hx : N[i]? = some x) (hv : Vis sc x) (hd : (x == ("__debug__" : Str)) = false := by decide +kernel) (hcd : (x == ("__classdict__" : Str)) = false := by decide +kernel) : DE X W (.Subscript (.Name x p) (.Constant (.int j) kz p2) pos) (gPix i j) 0 :=
  pe_imp (pe_ix ix_list (pe_var (i := i) (by rw [C.hN]; exact hx) (by rw [C.hsc]; exact hv) hd hcd) pe_int (fun _ _ => rfl)) fun σ H Q ⟨k, Δ, K, h1, h2, h3, h4⟩ => by
    unfold gPix at h3
    cases h : nth Δ i with
    | pot =>
      rw [h] at h3
      obtain ⟨hj, h3⟩ := h3
      obtain ⟨a, e, q, x1, y1, z1, ea, b1, b2, b3, b4, b5, b6⟩ := pot_of h2 h
      have lim := C.ok.lim
      have zl : z1 ≤ 4194304 := by
        have : LIM = 4194304 := rfl
        omega
      rcases hj with rfl | rfl | rfl
      · exact ⟨.ref a, e, a, _, 0, .int x1, rfl, rfl, .inl (.inl ea), rfl, h4 _ _ H (h3 _ (.inl ⟨rfl, b1, b2⟩)) h2.refl (.int _)⟩
      · exact ⟨.ref a, e, a, _, 1, .int y1, rfl, rfl, .inl (.inl ea), rfl, h4 _ _ H (h3 _ (.inr (.inl ⟨rfl, b3, b4⟩))) h2.refl (.int _)⟩
      · exact ⟨.ref a, e, a, _, 2, .int z1, rfl, rfl, .inl (.inl ea), rfl, h4 _ _ H (h3 _ (.inr (.inr ⟨rfl, b5, zl⟩))) h2.refl (.int _)⟩
    | _ =>
      rw [h] at h3
      exact (show False from h3).elim
/-- a pot changes -/
theorem En.pot (ok : W.Ok) (en : En W k σ H Δ) {a : Addr} {xs : List V} (q : W.P a) (l : k ≤ j) (new : PotAt (W.n0 + j) (upd H a (.lst xs)) a) : En W j σ (upd H a (.lst xs)) Δ ∧ Kp (AA W σ Δ) (AA W σ Δ) H (upd H a (.lst xs)) := by
  have kp : Kp (AA W σ Δ) (AA W σ Δ) H (upd H a (.lst xs)) := fun b o e n => ⟨by rw [upd_ne (show b ≠ a from fun z => n (by rw [z]; exact .inl (ok.sub a (.inl q))))]; exact e, n⟩
  refine ⟨⟨en.len, fun i => ?_, en.uniq, ⟨fun b o e n => ?_, fun b p => ?_, ?_⟩, fun b h => ?_⟩, kp⟩
  · have s := en.sl i
    revert s
    cases nth Δ i with
    | un => exact fun s => s
    | dat d => exact fun ⟨v, e, r⟩ => ⟨v, e, r.map kp⟩
    | scr ns => exact fun ⟨v, e, r⟩ => ⟨v, e, r.map kp⟩
    | pot => exact fun s => s
    | own ds =>
      rintro ⟨b, ys, e1, e2, e3, e4, e5⟩
      exact ⟨b, ys, e1, by rw [upd_ne (show b ≠ a from fun z => ok.pdom a (.inl q) (z ▸ e4))]; exact e2, e3.map kp, e4, e5⟩
  · rw [upd_ne (show b ≠ a from fun z => n (by rw [z]; exact .inl q))]
    exact en.fin.since b o e n
  · by_cases z : b = a
    · rw [z]
      exact new
    · obtain ⟨x1, y1, z1, e, r⟩ := (en.fin.pots b p).mono (m := W.n0 + j) (by omega)
      exact ⟨x1, y1, z1, by rw [upd_ne z]; exact e, r⟩
  · obtain ⟨x1, y1, z1, e1, _⟩ := en.fin.pots a q
    refine tabs_upd en.fin.tabs (fun p hp z => ?_) fun φ z => by rw [e1] at z; cases z
    obtain ⟨ps, e2, _⟩ := en.fin.tabs p hp
    rw [z, e1] at e2
    cases e2
  · by_cases z : b = a
    · rw [z]
      exact sol_lst upd_same
    · unfold Sol
      rw [upd_ne z]
      exact en.dom0 b h
/-- pot[0] = e -/
def gPs0 (i : Nat) (g : TDE) : TDS := fun D Δ => g Δ fun d => match d with
  | .int v => nth Δ i = .pot ∧ 0 ≤ v ∧ v < 10 ^ 300 ∧ D.nx Δ
  | _ => False
theorem ds_ps0 (C : Cxt X W N sc kk) {kz : Nat} (hx : N[i]? = some x) (hv : Vis sc x) (he : DE X W e g c) (hd : (x == ("__debug__" : Str)) = false := by decide +kernel) (hcd : (x == ("__classdict__" : Str)) = false := by decide +kernel)
    (ha : ∀ v, assign (.Subscript (.Name x p) (.Constant (.int 0) kz p2) p3) X.env v = (do
      let ov ← holding [v] (eval (.Name x p) X.env)
      let iv ← holding [v, ov] (eval (.Constant (.int 0) kz p2) X.env)
      standAt p3
      holding [v, ov, iv] (setItem ov iv v)
      release [v, ov, iv] []) := by intro _; rfl)
    (hs : swapsWithSole [.Subscript (.Name x p) (.Constant (.int 0) kz p2) p3] e pos.line X.env = pure false := by rfl) (hw : swappedStores [.Subscript (.Name x p) (.Constant (.int 0) kz p2) p3] e X.env = pure none := by rfl)
    (h1 : (assignEach [.Subscript (.Name x p) (.Constant (.int 0) kz p2) p3] X.env).map (·.2) = [assign (.Subscript (.Name x p) (.Constant (.int 0) kz p2) p3) X.env] := by rfl) :
    DS X W (.Assign [.Subscript (.Name x p) (.Constant (.int 0) kz p2) p3] e pos) (gPs0 i g) c :=
  ps_imp (ps_asg he (pg_sub (pe_var (i := i) (by rw [C.hN]; exact hx) (by rw [C.hsc]; exact hv) hd hcd) pe_int set_list ha) hs hw h1) fun E σ H ⟨k, Δ, D2, h1, h2, h3, h4⟩ => ⟨k, Δ, _, h1, h2, h3, fun d v H1 q1 c1 r1 => by
    cases d with
    | int n =>
      obtain ⟨hp, n0, n1, q⟩ := (show nth Δ i = .pot ∧ 0 ≤ n ∧ n < 10 ^ 300 ∧ D2.nx Δ from q1)
      have e1 := h2.chg C.ok c1
      obtain ⟨a, e, qa, x1, y1, z1, ea, b1, b2, b3, b4, b5, b6⟩ := pot_of e1 hp
      have rv : v = .int n := by
        cases r1
        rfl
      subst rv
      obtain ⟨e2, kp⟩ := e1.pot C.ok (xs := [.int n, .int y1, .int z1]) qa (Nat.le_refl _) ⟨n, y1, z1, upd_same, n0, n1, b3, b4, b5, b6⟩
      exact ⟨.ref a, e, a, _, 0, 0, rfl, rfl, ea, rfl, h4.nx _ _ _ q e2 ((c1.kpE C.ok).trans kp)⟩
    | _ => exact (show False from q1).elim⟩
/-- pot[2] = pot[2] + 1: a draw -/
def gTick (i : Nat) : TDS := fun D Δ => nth Δ i = .pot ∧ D.nx Δ
theorem ds_tick (C : Cxt X W N sc kk) {kz k2 k3 : Nat} {q1 q2 q3 q4 q5 : Pos} (hx : N[i]? = some x) (hv : Vis sc x) (hd : (x == ("__debug__" : Str)) = false := by decide +kernel) (hcd : (x == ("__classdict__" : Str)) = false := by decide +kernel)
    (ha : ∀ v, assign (.Subscript (.Name x p) (.Constant (.int 2) kz p2) p3) X.env v = (do
      let ov ← holding [v] (eval (.Name x p) X.env)
      let iv ← holding [v, ov] (eval (.Constant (.int 2) kz p2) X.env)
      standAt p3
      holding [v, ov, iv] (setItem ov iv v)
      release [v, ov, iv] []) := by intro _; rfl)
    (hs : swapsWithSole [.Subscript (.Name x p) (.Constant (.int 2) kz p2) p3] (.BinOp (.Subscript (.Name x q1) (.Constant (.int 2) k2 q2) q3) .Add (.Constant (.int 1) k3 q4) q5) pos.line X.env = pure false := by rfl) (hw : swappedStores [.Subscript (.Name x p) (.Constant (.int 2) kz p2) p3] (.BinOp (.Subscript (.Name x q1) (.Constant (.int 2) k2 q2) q3) .Add (.Constant (.int 1) k3 q4) q5) X.env = pure none := by rfl)
    (h1 : (assignEach [.Subscript (.Name x p) (.Constant (.int 2) kz p2) p3] X.env).map (·.2) = [assign (.Subscript (.Name x p) (.Constant (.int 2) kz p2) p3) X.env] := by rfl) :
    DS X W (.Assign [.Subscript (.Name x p) (.Constant (.int 2) kz p2) p3] (.BinOp (.Subscript (.Name x q1) (.Constant (.int 2) k2 q2) q3) .Add (.Constant (.int 1) k3 q4) q5) pos) (gTick i) 1 :=
  ps_imp (ps_asg (pe_op op_add (pe_ix ix_list (pe_var (i := i) (by rw [C.hN]; exact hx) (by rw [C.hsc]; exact hv) hd hcd) pe_int (fun _ _ => rfl)) pe_int) (pg_sub (pe_var (i := i) (by rw [C.hN]; exact hx) (by rw [C.hsc]; exact hv) hd hcd) pe_int set_list ha) hs hw h1) fun E σ H ⟨k, Δ, D2, h1, h2, ⟨hp, q⟩, h4⟩ => by
    obtain ⟨a, e, qa, x1, y1, z1, ea, b1, b2, b3, b4, b5, b6⟩ := pot_of h2 hp
    obtain ⟨e2, kp⟩ := h2.pot C.ok (j := k + 1) (xs := [.int x1, .int y1, .int (z1 + 1)]) qa (by omega) ⟨x1, y1, z1 + 1, upd_same, b1, b2, b3, b4, by omega, by omega⟩
    exact ⟨.ref a, e, a, _, 2, .int z1, rfl, rfl, .inl (.inl ea), rfl, z1, 1, rfl, rfl, .ref a, e, a, _, 2, 2, rfl, rfl, ea, rfl, h4.nx _ _ _ q e2 kp⟩
end
end DL
/-! DLEnd: a new pot for the statements behind; the law's own call. -/
namespace DL
open PySem PySem.Spec PyProof.Rows L2
variable [Lams]
def plainSv : Sv → Bool
  | .pot => false
  | .own _ => false
  | _ => true
def washS : Sv → Sv
  | .pot => .un
  | .own _ => .un
  | s => s
def wash (Δ : DEnv) : DEnv := Δ.map washS
theorem nth_wash : ∀ (Δ : DEnv) (i : Nat), nth (wash Δ) i = washS (nth Δ i)
  | [], _ => rfl
  | _ :: _, 0 => rfl
  | _ :: r, i + 1 => nth_wash r i
theorem nth_plain : ∀ {Δ : DEnv} (i : Nat), Δ.all plainSv = true → plainSv (nth Δ i) = true
  | [], _, _ => rfl
  | s :: r, 0, h => by
    rw [List.all_cons, Bool.and_eq_true] at h
    exact h.1
  | s :: r, i + 1, h => by
    rw [List.all_cons, Bool.and_eq_true] at h
    exact nth_plain (Δ := r) i h.2
section
variable {X : Cx} {W : Wd} {N : List Str} {sc : Scope} {kk : Nat} {c : Nat} {pos p p2 p3 p4 p5 : Pos} {k j : Nat} {σ : St} {Δ : DEnv} {H H' H1 : Hp}
theorem no_own_wash {a : Addr} (h : OwnA σ (wash Δ) a) : False := by
  obtain ⟨i, ds, h1, _⟩ := h
  rw [nth_wash] at h1
  cases e : nth Δ i <;> rw [e] at h1 <;> cases h1
theorem no_own_plain (hp : Δ.all plainSv = true) {a : Addr} (h : OwnA σ Δ a) : False := by
  obtain ⟨i, ds, h1, _⟩ := h
  have := nth_plain i hp
  rw [h1] at this
  cases this
/-- the world behind a new pot at q -/
abbrev Wd.potAt (W : Wd) (σ : St) (Δ : DEnv) (q : Addr) (H1 : Hp) (c : Nat) : Wd := { K := W.K, A0 := fun b => AA W σ Δ b ∨ b = q, P := fun b => b = q, H0 := H1, n0 := 0, c0 := c, E := W.E, T := W.T }
abbrev Wd.tab (W : Wd) (b : Addr) : Prop := ∃ s, (b, s) ∈ W.T
theorem not_tab {b : Addr} {o : HO} (f : Fin W k H) (e : H b = some o) (n : ∀ ps, o ≠ .tbl ps) : ¬ W.tab b := fun ⟨s, hs⟩ => by
  obtain ⟨ps, q, _⟩ := f.tabs _ hs
  rw [e] at q
  exact n ps (Option.some.inj q)
theorem fin_back {q : Addr} {jj : Nat} (en : En W k σ H Δ) (hq : H q = none) (hx : ∀ b o, H b = some o → ¬ W.tab b → H1 b = some o) (f : Fin (W.potAt σ Δ q H1 c) jj H') : Fin W k H' := by
  have st : ∀ b o, H b = some o → ¬ W.tab b → H' b = some o := fun b o e t => f.since b o (hx b o e t) fun z => by
    rcases z with z | z
    · rw [show b = q from z, hq] at e
      cases e
    · exact t z
  exact ⟨fun b o e n => st b o (en.fin.since b o e n) fun t => n (.inr t), fun b p => by
    obtain ⟨x, y, z, e, r⟩ := en.fin.pots b p
    exact ⟨x, y, z, st b _ e (not_tab en.fin e fun ps z => by cases z), r⟩, f.tabs⟩
theorem en_back {q : Addr} {jj : Nat} {σ' : St} {Δ' : DEnv} (en : En W k σ H Δ) (hq : H q = none) (hx : ∀ b o, H b = some o → ¬ W.tab b → H1 b = some o) (f : En (W.potAt σ Δ q H1 c) jj σ' H' Δ') : En W k σ' H' (wash Δ') := by
  have less : ∀ a, AA W σ' (wash Δ') a → AA (W.potAt σ Δ q H1 c) σ' Δ' a := fun a h => h.elim (fun h => .inl (.inl (.inl h))) fun h => (no_own_wash h).elim
  refine ⟨by unfold wash; rw [List.length_map]; exact f.len, fun i => ?_, fun i j ds es a h1 => ?_, fin_back en hq hx f.fin, fun a h => f.dom0 a (.inl (.inl h))⟩
  · have s := f.sl i
    rw [nth_wash]
    revert s
    cases nth Δ' i with
    | un => exact fun _ => trivial
    | dat d => exact fun ⟨v, e, r⟩ => ⟨v, e, r.map (Kp.less less)⟩
    | scr ns => exact fun ⟨v, e, r⟩ => ⟨v, e, r.map (Kp.less less)⟩
    | pot => exact fun _ => trivial
    | own ds => exact fun _ => trivial
  · rw [nth_wash] at h1
    cases e : nth Δ' i <;> rw [e] at h1 <;> cases h1
variable {E : Value → D → Prop} {x y z w : Str} {i l m : Nat} {f : Addr} {fd : FuncData} {ps : List Str} {F : FSp} {kF : Nat} {rest : List Stmt} {g : TDS}
def NoE : Value → D → Prop := fun _ _ => False
def gPot (F : FSp) (i l m : Nat) (g : TDS) : TDS := fun D Δ => Δ.all plainSv = true ∧ i < Δ.length ∧ match nth Δ l, nth Δ m with
  | .scr ns, .dat (.int n) => F [.scr ns, .dat (.int n)] (fun d => ∃ x y : Int, d = .list [.int x, .int y, .int 0] ∧ 0 ≤ x ∧ x < 10 ^ 300 ∧ 0 ≤ y ∧ y < 2 ^ 61 ∧
      g { nx := fun Δ' => D.nx (wash Δ'), rt := D.rt, bk := fun Δ' => D.bk (wash Δ'), ct := fun Δ' => D.ct (wash Δ') } (Δ.set i .pot)) NoE
  | _, _ => False
theorem dss_pot (C : Cxt X W N sc kk) (hE : W.E = E) (hF : FnD X.prog X.w X.K X.mg X.base kF f fd ps F 0) (hk : kF ≤ kk) (hg : sc.names.lookup w = some .globalImplicit) (hm : X.mg w = some (.ref f)) (hkp : PySem.W.keepIn X.K (.ref f) = true) (hb : BindG X.K fd ps 2 [] []) (hps : ps.length = 2)
    (hx : N[i]? = some x) (hlx : Loc sc x) (hfx : X.fn x = true ∨ sc.names.lookup x = some .local) (hy : N[l]? = some y) (hvy : Vis sc y) (hz : N[m]? = some z) (hvz : Vis sc z) (hc : c ≤ LIM) (hr : ∀ W' : Wd, W'.E = E → Cxt X W' N sc kk → DSs X W' rest g c)
    (hdb : (w == ("__debug__" : Str)) = false := by decide +kernel) (hdy : (y == ("__debug__" : Str)) = false := by decide +kernel) (hcy : (y == ("__classdict__" : Str)) = false := by decide +kernel) (hdz : (z == ("__debug__" : Str)) = false := by decide +kernel) (hcz : (z == ("__classdict__" : Str)) = false := by decide +kernel)
    (he1 : starEach [.Name y p3, .Name z p4] X.env = (false, eval (.Name y p3) X.env) :: starEach [.Name z p4] X.env := by rfl) (he2 : starEach [.Name z p4] X.env = (false, eval (.Name z p4) X.env) :: starEach [] X.env := by rfl) (hpl : (backTo p5 (starEach [.Name z p4] X.env)).any (·.1) = false := by rfl)
    (hs : swapsWith (.Call (.Name w p2) [.Name y p3, .Name z p4] [] p5) (some (.Name x p)) pos.line X.env = pure false := by rfl) :
    DSs X W (.Assign [.Name x p] (.Call (.Name w p2) [.Name y p3, .Name z p4] [] p5) pos :: rest) (gPot F i l m g) 0 := by
  subst hE
  have hrest : PSs X rest (fun D σ H => ∃ W' : Wd, W'.E = W.E ∧ Cxt X W' N sc kk ∧ liftS W' g c D σ H) := ⟨fun pins s σ H Q I ⟨W', h1, h2, h3⟩ => (hr W' h1 h2).run pins s σ H Q I h3⟩
  refine pss_imp (pss_cons (ps_set (i := i) (by rw [C.hN]; exact C.nd) (by rw [C.hN]; exact hx) (by rw [C.hsc]; exact hlx) (pe_g (E := EkOf W) hF (C.hr.mono hk) C.gd (C.gl hg) hm hkp hb .nil C.px (pa_cons (pe_var (i := l) (by rw [C.hN]; exact hy) (by rw [C.hsc]; exact hvy) hdy hcy) (pa_cons (pe_var (i := m) (by rw [C.hN]; exact hz) (by rw [C.hsc]; exact hvz) hdz hcz) pa_nil he2) he1) hdb he1 hpl) hs (by rw [C.hsc]; exact hfx)) hrest) ?_
  rintro E σ H ⟨k, Δ, D2, h1, h2, h3, h4⟩
  obtain ⟨hpl, hi, h3⟩ := h3
  have s1 := h2.sl l
  have s2 := h2.sl m
  revert h3 s1 s2
  cases e1 : nth Δ l with
  | scr ns =>
    cases e2 : nth Δ m with
    | dat d =>
      cases d with
      | int n =>
        rintro h3 ⟨a, q1, r1⟩ ⟨v, q2, r2⟩
        cases r2
        refine ⟨.ref a, q1, .int n, q2, rfl, ?_⟩
        -- the callee's world
        have notfrz : ∀ {A : Addr → Prop}, ScrAt W.K A H a ns → ScrAt X.K (fun b => Sol H b ∧ ¬ ∃ o xs, H b = some (.frz o (.lst xs))) H a ns := by
          rintro A (⟨o, e, n⟩ | r)
          · exact .inl ⟨o, e, fun z => z.2 ⟨o, _, e⟩⟩
          · exact .inr (C.hK ▸ r)
        have tabSol : ∀ b, W.tab b → Sol H b ∧ ¬ ∃ o xs, H b = some (.frz o (.lst xs)) := fun b ⟨s, hs⟩ => by
          obtain ⟨ps, q, _⟩ := h2.fin.tabs _ hs
          exact ⟨⟨by rw [q]; simp, fun z e => by rw [q] at e; cases e⟩, fun ⟨o, xs, e⟩ => by rw [q] at e; cases e⟩
        refine ⟨{ K := X.K, A0 := fun b => Sol H b ∧ ¬ ∃ o xs, H b = some (.frz o (.lst xs)), P := fun _ => False, H0 := H, n0 := 0, c0 := 0, E := NoE, T := W.T }, [.scr ns, .dat (.int n)], _, ⟨rfl, rfl, rfl, ⟨fun b z => z.elim (fun z => z.elim) fun z => (tabSol b z).1.1, fun b z => z.elim (fun z => z.elim) fun z => tabSol b z, Nat.zero_le _, C.ok.tu, C.ok.tt⟩, fun _ h => h.1, fun _ z => z.elim, h2.fin.tabs⟩, .scr (notfrz r1) (.dat (.int n) .nil), by rw [hps]; rfl, h3, ?_, ?_⟩
        · rintro d v H1 ⟨x1, y1, rfl, b1, b2, b3, b4, hg⟩ fin rr
          cases rr with
          | @lst q xs ds eq nq zq rq =>
            cases rq with
            | cons t1 rq =>
            cases rq with
            | cons t2 rq =>
            cases rq with
            | cons t3 rq =>
            cases rq
            cases t1
            cases t2
            cases t3
            have hx : ∀ b o, H b = some o → ¬ W.tab b → H1 b = some o := fun b o e t => fin.since b o e fun z => z.elim (fun z => z.elim) t
            have tabs1 : LamX.Tabs W.T H1 := fin.tabs
            have hq : H q = none := by
              cases e : H q with
              | none => rfl
              | some o =>
                exfalso
                have nt : ¬ W.tab q := fun ⟨s, hs⟩ => by
                  obtain ⟨ps, z, _⟩ := tabs1 _ hs
                  rw [eq] at z
                  cases z
                refine nq ⟨⟨by rw [e]; simp, fun s z => ?_⟩, fun ⟨ob, xs, z⟩ => ?_⟩
                · have := hx q _ z nt
                  rw [eq] at this
                  cases this
                · have := hx q _ z nt
                  rw [eq] at this
                  cases this
            have nAq : ¬ AA W σ Δ q := h2.notA hq
            have lim : LIM = 4194304 := rfl
            refine ⟨W.potAt σ Δ q H1 c, rfl, ⟨C.hN, C.hsc, C.nd, C.hr, C.gd, C.calm, C.hK, ⟨fun b p => ?_, fun b p => p.elim .inr fun t => .inl (.inl (C.ok.sub b (.inr t))), by show 0 + c ≤ LIM; omega, C.ok.tu, C.ok.tt⟩, C.tk.imp fun cls d σ2 H2 h => ?_, C.po⟩, 0, Δ.set i .pot, _, by show 0 + c ≤ c; omega, ?_, hg, ?_⟩
            · show H1 b ≠ none
              rcases p with p | ⟨s, p⟩
              · rw [show b = q from p, eq]
                simp
              · exact tab_some (tabs1 _ p)
            · obtain ⟨Cc, dd, v, d', rfl, hk, rfl, u1, u2, u3, u4, u5⟩ := h
              have f0 := fin_back h2 hq hx u2
              refine ⟨Cc, dd, v, d', rfl, hk, rfl, u1, f0.mono (by omega), u3, ?_, u5.map (Kp.less fun b z => .inl (.inl z))⟩
              have u4' : H1 dd = none := u4
              by_cases t : W.tab dd
              · obtain ⟨s, t⟩ := t
                exact absurd u4' (tab_some (tabs1 _ t))
              · cases e : H dd with
                | none => exact h2.fin.free e
                | some o =>
                  rw [hx dd o e t] at u4'
                  cases u4'
            · have ntA : ∀ {b : Addr}, ¬ AA W σ Δ b → ¬ W.tab b := fun {b} n t => n (.inl (C.ok.sub b (.inr t)))
              have kp : Kp (AA W σ Δ) (fun b => AA W σ Δ b ∨ b = q) H H1 := fun b o e n => ⟨hx b o e (ntA n), fun z => z.elim n fun z => by rw [z, hq] at e; cases e⟩
              have same : ∀ a, AA (W.potAt σ Δ q H1 c) (σ.set i (some (.ref q))) (Δ.set i .pot) a → AA W σ Δ a ∨ a = q := fun a h => h.elim id fun h => (no_own_plain hpl (ownA_set (fun _ z => by cases z) h)).elim
              refine ⟨by rw [List.length_set, List.length_set]; exact h2.len, fun t => ?_, fun t1 t2 ds es a g1 => ?_, ⟨fun b o e _ => e, fun b p => ?_, tabs1⟩, fun b p => ?_⟩
              · by_cases z : t = i
                · subst z
                  rw [nth_set_self hi]
                  exact ⟨q, List.getElem?_set_self (by rw [← h2.len]; exact hi), rfl⟩
                · rw [nth_set_ne z]
                  refine slot_set z (SlotOk.mono same ?_)
                  have s := h2.sl t
                  have pl := nth_plain t hpl
                  revert s pl
                  cases nth Δ t with
                  | un => exact fun _ _ => trivial
                  | dat d => exact fun ⟨v, e, r⟩ _ => ⟨v, e, r.map kp⟩
                  | scr ns => exact fun ⟨v, e, r⟩ _ => ⟨v, e, r.map kp⟩
                  | pot => exact fun _ pl => by cases pl
                  | own ds => exact fun _ pl => by cases pl
              · by_cases z : t1 = i
                · rw [z, nth_set_self hi] at g1
                  cases g1
                · rw [nth_set_ne z] at g1
                  have pl := nth_plain t1 hpl
                  rw [g1] at pl
                  cases pl
              · rw [show b = q from p]
                exact ⟨x1, y1, 0, eq, b1, b2, b3, b4, Int.le_refl 0, Int.le_refl 0⟩
              · rcases p with p | p
                · by_cases t : W.tab b
                  · exact vol_sol (W := W.potAt σ Δ q H1 c) (k := LIM) (fun b p => by rw [show b = q from p]; exact ⟨x1, y1, 0, eq, b1, b2, b3, b4, Int.le_refl 0, by omega⟩) tabs1 (.inr t)
                  · have s := h2.domS b p
                    cases e : H b with
                    | none => exact absurd e s.1
                    | some o =>
                      have z := hx b o e t
                      exact ⟨by rw [z]; simp, fun s2 y => s.2 s2 (by rw [e, ← z]; exact y)⟩
                · rw [show b = q from p]
                  exact sol_lst eq
            · have ntA : ∀ {b : Addr}, ¬ AA W σ Δ b → ¬ W.tab b := fun {b} n t => n (.inl (C.ok.sub b (.inr t)))
              have kpe : ∀ {σ' : St} {Δ' : DEnv} {H' : Hp}, Kp (AA (W.potAt σ Δ q H1 c) (σ.set i (some (.ref q))) (Δ.set i .pot)) (AA (W.potAt σ Δ q H1 c) σ' Δ') H1 H' → Kp (AA W σ Δ) (AA W σ' (wash Δ')) H H' := fun {σ' Δ' H'} kp b o e n => by
                obtain ⟨g1, g2⟩ := kp b o (hx b o e (ntA n)) fun z => z.elim (fun z => z.elim n fun z => by rw [z, hq] at e; cases e) fun z => (no_own_plain hpl (ownA_set (fun _ z => by cases z) z)).elim
                exact ⟨g1, fun z => z.elim (fun z => g2 (.inl (.inl (.inl z)))) fun z => no_own_wash z⟩
              exact ⟨fun Δ' σ' H' q1 e kp => h4.nx _ _ _ q1 ((en_back h2 hq hx e).mono (by omega)) (kpe kp), fun d v H' q1 fin rr => h4.rt d v H' q1 ((fin_back h2 hq hx fin).mono (by omega)) (rr.map (Kp.less fun b z => .inl (.inl z))),
                fun Δ' σ' H' q1 e kp => h4.bk _ _ _ q1 ((en_back h2 hq hx e).mono (by omega)) (kpe kp), fun Δ' σ' H' q1 e kp => h4.ct _ _ _ q1 ((en_back h2 hq hx e).mono (by omega)) (kpe kp)⟩
        · intro cls dd v d H1 hk hE
          exact (show False from hE).elim
      | _ => exact fun z => z.elim
    | _ => exact fun z => z.elim
  | _ => exact fun z => z.elim
end
/-! ### the law's own call -/
/-- cs: the code objects that make lambdas, their tables -/
structure TabsAt (K : PySem.W.Frag) (cs : List (Addr × Addr)) (h : Heap) : Prop where
  t : ∀ p ∈ cs, h.get? p.2 = some { cls := .none, data := .fields #[] }
  k : ∀ p ∈ cs, K.lookup p.2 = none
  c : ∀ p ∈ cs, PySem.W.CodeHd h p.1 p.2
theorem call_lawG {P : Program} {w : World} {K : PySem.W.Frag} {mg mb : Str → Option Value} {k : Nat} {g a : Addr} {cs : List (Addr × Addr)} {fd : FuncData} {x : Str} {sp : Sp} {s₁ : Shared} {us : List Value} {ns : List Int}
    (kin : K.In s₁.heap) (hmain : s₁.heap.Ns mainGlobals mg) (hbuilt : s₁.heap.Ns builtinsNs mb) (hboot : ∀ y : Str, y ≠ "__name__" → mb y = bootBuiltins y) (hnl : s₁.heap.NoLimit) (hgens : s₁.gens = #[]) (T : TabsAt K cs s₁.heap)
    (hbm : ∃ (bm : Addr) (ob : Obj), mg "__builtins__" = some (.ref bm) ∧ bm ≠ builtinsNs ∧ s₁.heap.get? bm = some ob ∧ ob.cls = .type "module" ∧ ob.dict = some builtinsNs ∧ ob.data = .plain)
    (hobj : s₁.heap.get? a = some { cls := .type "list", data := .seq us.toArray }) (hint : IntsAre us ns) (hlen : ns.length ≤ sizeLine) (room : Room k callerA) (hgd : callerA.guards = some [])
    (hF : ∀ base : Heap, K.In base → base.Ns mainGlobals mg → (∀ p ∈ cs, LamX.TabB base mg p.1 p.2) → FnG P w K mg base k g fd [x] sp) (hbind : ∀ (s : Shared) (u : Value), BindsTo s fd ⟨[u], []⟩ [(x, u)])
    (hsp : ∀ H : Hp, (∀ p ∈ cs, H p.2 = some (.tbl #[])) → ScrAt K (fun b => ∃ c, (c, b) ∈ cs) H a ns → sp [.ref a] H (fun v _ => v = .bl true) fun _ _ _ => False) :
    codeAny (model P w) callerA (.call (.ref g) ⟨[.ref a], []⟩) (fun r s' => r = .ok (.ret (.bool true)) ∧ OldK s₁.heap s'.heap ∧ s'.os = s₁.os ∧ AllBare s'.gens) s₁ := by
  have vals := vals_ints hint
  have sameLen := hint.length
  have isT : ∀ b : Addr, b ∈ cs.map (·.2) → s₁.heap.get? b = some { cls := .none, data := .fields #[] } := fun b hb => by
    obtain ⟨p, hp, e⟩ := List.mem_map.mp hb
    rw [← e]
    exact T.t p hp
  have aT : a ∉ cs.map (·.2) := fun z => by
    have q := isT a z
    rw [hobj] at q
    cases q
  have memT : ∀ p ∈ cs, p.2 ∈ cs.map (·.2) := fun p hp => List.mem_map.mpr ⟨p, hp, rfl⟩
  have main : ∀ H : Hp, (∀ p ∈ cs, H p.2 = some (.tbl #[])) → (∀ b, H b = none ∨ (b = a ∧ K.lookup a = none ∧ H b = some (.frz { cls := .type "list", data := .seq us.toArray } (.lst (ns.map V.int)))) ∨ b ∈ cs.map (·.2)) → ScrAt K (fun b => ∃ c, (c, b) ∈ cs) H a ns → HOk P w H s₁.heap →
      codeAny (model P w) callerA (.call (.ref g) ⟨[.ref a], []⟩) (fun r s' => r = .ok (.ret (.bool true)) ∧ OldK s₁.heap s'.heap ∧ s'.os = s₁.os ∧ AllBare s'.gens) s₁ := by
    intro H hH only scr hok
    have there : ∀ {b : Addr} {o : Obj}, s₁.heap.get? b = some o → H b = none → (hidT s₁.heap H).get? b = some o := fun q z => hidT_get q z
    -- what is neither the script nor a table is not tracked
    have bare : ∀ {b : Addr} {o : Obj}, s₁.heap.get? b = some o → (∀ v n, o.data ≠ .seq v n) → o.data ≠ .fields #[] → H b = none := fun {b o} q d1 d2 => by
      rcases only b with z | ⟨rfl, _, _⟩ | z
      · exact z
      · rw [hobj] at q
        cases q
        exact absurd rfl (d1 _ _)
      · rw [isT b z] at q
        cases q
        exact absurd rfl d2
    have dictFree : ∀ {b : Addr} {o : Obj} {es : Array DictEntry} {n : Nat}, s₁.heap.get? b = some o → o.data = .dict es n → H b = none := fun {b o es n} q d => bare q (fun v m z => by rw [d] at z; cases z) fun z => by rw [d] at z; cases z
    have space : ∀ {b : Addr} {m : Str → Option Value}, s₁.heap.Ns b m → (hidT s₁.heap H).Ns b m := fun {b m} ⟨o, es, n, q, d, rest⟩ => ⟨o, es, n, there q (dictFree q d), d, rest⟩
    have kinB : K.In (hidT s₁.heap H) := fun b o q => there (kin b o q) (by
      rcases only b with z | ⟨rfl, z, _⟩ | z
      · exact z
      · rw [z] at q
        cases q
      · obtain ⟨p, hp, e⟩ := List.mem_map.mp z
        rw [← e, T.k p hp] at q
        cases q)
    obtain ⟨mc, lim1, lim2⟩ := hnl
    have mod : Mod K mg (hidT s₁.heap H) := ⟨kinB, space hmain, ⟨mb, space hbuilt, hboot⟩, ⟨mc, space lim1, lim2⟩⟩
    have tabB : ∀ p ∈ cs, LamX.TabB (hidT s₁.heap H) mg p.1 p.2 := fun p hp => by
      have hTp := T.t p hp
      refine ⟨?_, ?_, fun z => ?_⟩
      · obtain ⟨o, vs, file, tf, flags, tg, inF, text, tt, e1, r1, r2, r3, r4, r5, r6, r7, r8, hne⟩ := T.c p hp
        refine ⟨o, vs, file, tf, flags, tg, inF, text, tt, there e1 (bare e1 (fun v n z => by rw [r2] at z; cases z) fun z => ?_), r1, r2, r3, r4, r5, r6, r7, r8, hne⟩
        rw [r2] at z
        cases z
        simp at r3
      · obtain ⟨bm, ob, b1, b2, b3, b4, b5, b6⟩ := hbm
        refine ⟨bm, ob, b1, b2, fun q => ?_, fun q => ?_, there b3 (bare b3 (fun v n z => by rw [b6] at z; cases z) fun z => by rw [b6] at z; cases z), b4, b5, b6⟩
        · obtain ⟨o, es, ep, e, hd, _⟩ := hmain
          rw [q, e] at b3
          cases b3
          rw [hd] at b6
          cases b6
        · rw [q, hTp] at b3
          cases b3
          cases b6
      · obtain ⟨o, es, ep, e, hd, _⟩ := hmain
        rw [z, hTp] at e
        cases e
        cases hd
    have env : Env0 P w K mg (hidT s₁.heap H) callerA [] s₁ H := ⟨rfl, mod, fun b o q => of_hidT q, Nat.le_of_eq (hidT_size _ _), trivial, fun b z => absurd (show b ∈ ([] : List Addr) from z) (by simp), hok, .of_eq hgens⟩
    refine codeAny_mono ((hF _ kinB (space hmain) tabB).run callerA [] s₁ H ⟨[.ref a], []⟩ [.ref a] [.ref a] _ _ hgd room env (hbind s₁ (.ref a)) (.cons rfl .nil) (hsp H hH scr)) fun r s' h => ?_
    cases r with
    | error e =>
      obtain ⟨_, _, _, _, _, _, _, _, _, _, _, _, z⟩ := h
      exact z.elim
    | ok fl =>
      cases fl with
      | ret u =>
        obtain ⟨v, H2, os, bar, un, hok2, rel, q⟩ := h
        obtain rfl : v = V.bl true := q
        obtain rfl : u = Value.bool true := rel
        have kept : ∀ b o, b ∉ cs.map (·.2) → s₁.heap.get? b = some o → s'.heap.get? b = some o := fun b o nb q => by
          rcases only b with z | ⟨rfl, _, z⟩ | z
          · exact un.keep b o q z (by intro y; exact absurd (show b ∈ ([] : List Addr) from y) (by simp)) (by simp)
          · obtain ⟨g1, _⟩ := hok b _ z
            obtain ⟨g2, _⟩ := hok2 b _ (un.frzs b _ _ z)
            rw [q] at g1
            cases g1
            exact g2
          · exact absurd z nb
        have grown : ∀ p ∈ cs, ∃ more : Array Value, s'.heap.get? p.2 = some { cls := .none, data := .fields more } := fun p hp => by
          obtain ⟨more, z⟩ := un.tbls p.2 #[] (hH p hp)
          exact ⟨_, hok2 p.2 _ z⟩
        refine ⟨rfl, ⟨fun b o e => ?_, fun b o e => ?_⟩, os, bar⟩
        · by_cases hb : b ∈ cs.map (·.2)
          · obtain ⟨p, hp, ep⟩ := List.mem_map.mp hb
            obtain ⟨more, hm⟩ := grown p hp
            rw [← ep] at e ⊢
            rw [T.t p hp] at e
            cases e
            exact .inr (.inl ⟨((T.c p hp).tab (T.t p hp)).isCodeTable, rfl, #[], more, rfl, by rw [Array.empty_append]; exact hm⟩)
          · exact .inl (kept b o hb e)
        · by_cases hb : b ∈ cs.map (·.2)
          · obtain ⟨p, hp, ep⟩ := List.mem_map.mp hb
            obtain ⟨more, hm⟩ := grown p hp
            rw [← ep]
            exact ⟨_, hm⟩
          · exact ⟨o, kept b o hb e⟩
      | next => exact (show False from h).elim
      | brk => exact (show False from h).elim
      | cont => exact (show False from h).elim
  have scrA : ¬ ∃ c, (c, a) ∈ cs := fun ⟨c, z⟩ => aT (memT _ z)
  cases hk : K.lookup a with
  | some o =>
    have q := kin a o hk
    rw [hobj] at q
    cases q
    refine main (fun b => if b ∈ cs.map (·.2) then some (.tbl #[]) else none) (fun p hp => if_pos (memT p hp)) (fun b => ?_) (.inr (.inr ⟨_, us.toArray, _, hk, rfl, rfl, rfl, by rw [List.size_toArray, sameLen]; exact hlen, by simpa using vals⟩)) fun b u z => ?_
    · by_cases hb : b ∈ cs.map (·.2)
      · exact .inr (.inr hb)
      · exact .inl (if_neg hb)
    · by_cases hb : b ∈ cs.map (·.2)
      · have z' := (if_pos hb).symm.trans z
        cases z'
        exact isT b hb
      · cases (if_neg hb).symm.trans z
  | none =>
    have at_a : (if a = a then some (HO.frz { cls := .type "list", data := .seq us.toArray } (.lst (ns.map V.int))) else if a ∈ cs.map (·.2) then some (.tbl #[]) else none) = some (HO.frz { cls := .type "list", data := .seq us.toArray } (.lst (ns.map V.int))) := if_pos rfl
    refine main (fun b => if b = a then some (.frz { cls := .type "list", data := .seq us.toArray } (.lst (ns.map V.int))) else if b ∈ cs.map (·.2) then some (.tbl #[]) else none) (fun p hp => (if_neg (show ¬ p.2 = a from fun z => aT (by rw [← z]; exact memT p hp))).trans (if_pos (memT p hp))) (fun b => ?_) (.inl ⟨_, at_a, scrA⟩) fun b u z => ?_
    · by_cases e : b = a
      · exact .inr (.inl ⟨e, hk, if_pos e⟩)
      · by_cases hb : b ∈ cs.map (·.2)
        · exact .inr (.inr hb)
        · exact .inl ((if_neg e).trans (if_neg hb))
    · by_cases e : b = a
      · have z2 := (if_pos e).symm.trans z
        cases z2
        subst e
        exact ⟨hobj, by rw [List.length_map]; exact hlen, us, _, vals, hobj⟩
      · have z1 := (if_neg e).symm.trans z
        by_cases hb : b ∈ cs.map (·.2)
        · have z' := (if_pos hb).symm.trans z1
          cases z'
          exact isT b hb
        · cases (if_neg hb).symm.trans z1
/-- the goal that k_head leaves, from the law's promise over data -/
theorem walk_ofG {l : PySem.W.OpenLaw} {n k c : Nat} {q : Program} {loose : List Str} {XP : (Str → Option Value) → Heap → Prop} {YP : World → Heap → Prop} {d : DefRec} {K : Params → PySem.W.Frag} {cs : List (Addr × Addr)} {F : FSp} {x : Str}
    (hmost : l.most = some n) (hsmall : n ≤ sizeLine) (hdf : d.params.defaults = []) (room : Room k callerA) (hgd : callerA.guards = some []) (hc : c ≤ LIM)
    (hcs : Lams.tabs.map (·.1) = cs.map (·.2)) (htu : ∀ p ∈ Lams.tabs, ∀ q ∈ Lams.tabs, p.1 = q.1 → p.2 = q.2)
    (hK : ∀ (w : World) (h : Heap), YP w h → (K w.params).In h) (hT : ∀ (w : World) (h : Heap), YP w h → TabsAt (K w.params) cs h)
    (hF : ∀ (w : World) (mg : Str → Option Value) (fa : Addr) (h : Heap), (K w.params).In h → h.Ns mainGlobals mg → mg d.name = some (.ref fa) →
      ∃ fd : FuncData, (∀ (s : Shared) (u : Value), BindsTo s fd ⟨[u], []⟩ [(x, u)]) ∧ ∀ base : Heap, (K w.params).In base → base.Ns mainGlobals mg → (∀ p ∈ cs, LamX.TabB base mg p.1 p.2) → FnD l.prog w (K w.params) mg base k fa fd [x] F c)
    (hlaw : ∀ (ns : List Int) (Kd : D → Prop), ns.length ≤ n → (∀ z ∈ ns, Builtin.Int.intBits z ≤ 1048576) → Kd (.bool true) → F [.scr ns] Kd NoE) :
    PySem.W.WalkO q loose XP YP l.row.toRowW d [] (fun f vs => PySem.call f vs) := by
  refine Att.attach_callB hmost hdf fun w s₀ s₁ mg mb fa o pm cd doc a us ns G Y ho hd hcd hmg hobj hint hlen hbits hgens => ?_
  have kin := hK w _ Y
  have htabs : ∀ p ∈ Lams.tabs, ∃ c, (c, p.1) ∈ cs := fun p hp => by
    have z : p.1 ∈ Lams.tabs.map (·.1) := List.mem_map.mpr ⟨p, hp, rfl⟩
    rw [hcs] at z
    obtain ⟨q, hq, e⟩ := List.mem_map.mp z
    exact ⟨q.1, by rw [← e]; exact hq⟩
  obtain ⟨fd, hbind, hfn⟩ := hF w mg fa _ kin G.T.g hmg
  refine call_lawG kin G.T.g G.T.b G.T.builtins G.T.nolimit hgens (hT w _ Y) G.T.bmain hobj hint (Nat.le_trans hlen hsmall) room hgd hfn hbind fun H hH scr => ?_
  have tab : ∀ {b : Addr}, (∃ s, (b, s) ∈ (Lams.tabs : List (Addr × Str))) → H b = some (.tbl #[]) := fun {b} ⟨s, z⟩ => by
    obtain ⟨c, hc⟩ := htabs _ z
    exact hH _ hc
  have scr' : ScrAt (K w.params) (fun b => ∃ s, (b, s) ∈ (Lams.tabs : List (Addr × Str))) H a ns := by
    rcases scr with ⟨o, e, n⟩ | r
    · refine .inl ⟨o, e, fun ⟨s, z⟩ => ?_⟩
      obtain ⟨c, hc⟩ := htabs _ z
      exact n ⟨c, hc⟩
    · exact .inr r
  refine ⟨{ K := K w.params, A0 := fun b => ∃ s, (b, s) ∈ (Lams.tabs : List (Addr × Str)), P := fun _ => False, H0 := H, n0 := 0, c0 := c, E := NoE, T := Lams.tabs }, [.scr ns], fun d => d = .bool true,
    ⟨rfl, rfl, rfl, ⟨fun b z => z.elim (fun z => z.elim) fun z => by show H b ≠ none; rw [tab z]; simp, fun b z => z.elim (fun z => z.elim) id, by show 0 + c ≤ LIM; omega, htu, rfl⟩, fun b z => ⟨by rw [tab z]; simp, fun s y => by rw [tab z] at y; cases y⟩, fun _ z => z.elim, fun p hp => LamX.TabS.nil (tab ⟨_, hp⟩)⟩, .scr scr' .nil, rfl, hlaw ns _ hlen hbits rfl, ?_, ?_⟩
  · rintro d v H' rfl fin r
    cases r
    rfl
  · intro cls dd v d H' hk z
    exact (show False from z).elim
theorem guards_caller : callerA.guards = some [] := rfl
end DL
/-! DLMore: dict displays, defaults, a def by its body with room for its draws. -/
namespace DL
open PySem PySem.Spec PyProof.Rows L2
variable [Lams]
theorem vis_by {sc : Scope} {x : Str} (h : (match sc.names.lookup x with | some .local => true | some .cell => true | some .free => true | _ => false) = true) : Vis sc x := by
  unfold Vis
  revert h
  cases sc.names.lookup x with
  | none => exact fun h => by cases h
  | some k => cases k <;> first | exact fun _ => .inl rfl | exact fun _ => .inr (.inl rfl) | exact fun _ => .inr (.inr rfl) | exact fun h => by cases h
theorem loc_by {sc : Scope} {x : Str} (h : (match sc.names.lookup x with | some .local => true | some .cell => true | _ => false) = true) : L2.Loc sc x := by
  unfold L2.Loc
  revert h
  cases sc.names.lookup x with
  | none => exact fun h => by cases h
  | some k => cases k <;> first | exact fun _ => .inl rfl | exact fun _ => .inr rfl | exact fun h => by cases h
section
variable {X : Cx} {W : Wd} {N : List Str} {sc : Scope} {kk : Nat} {e : Expr} {c ca cb : Nat} {g : TDE} {pos p p2 : Pos} {k j : Nat} {σ : St} {Δ : DEnv} {H H' : Hp}
theorem DSs.le {s : List Stmt} {g : TDS} (h : DSs X W s g cb) (l : cb ≤ c) : DSs X W s g c := pss_imp h fun E σ H ⟨k, Δ, D2, h1, h2, h3, h4⟩ => ⟨k, Δ, D2, by omega, h2, h3, h4.le (by omega)⟩
/-- the same context where the object at L changes, too, and nothing is raised -/
theorem Cxt.inn (C : Cxt X W N sc kk) (L : Addr) : Cxt X (W.blk L) N sc kk := ⟨C.hN, C.hsc, C.nd, C.hr, C.gd, C.calm, C.hK, ⟨C.ok.pdom, fun b p => .inl (C.ok.sub b p), C.ok.lim, C.ok.tu, C.ok.tt⟩, C.tk.imp fun cls d _ H h => by
  obtain ⟨_, _, _, _, _, _, _, z, _⟩ := h
  exact z.elim, C.po⟩
def gDic0 : TDE := fun _ K => K (.dict [])
theorem de_dic0 (C : Cxt X W N sc kk) : DE X W (.Dict [] [] pos) gDic0 0 := pe_imp pe_dnewK fun σ H Q ⟨k, Δ, K, h1, h2, h3, h4⟩ => fun q hq => h4 _ _ _ h3 (h2.refl.laid C h2 hq) (.dic upd_same (h2.notA hq) .nil)
def gDic1 (x : Str) (g : TDE) : TDE := fun Δ K => g Δ fun d => K (.dict [(.str x, d)])
theorem de_dic1 (C : Cxt X W N sc kk) {x : Str} {j : Nat} (he : ∀ L, Cxt X (W.blk L) N sc kk → DE X (W.blk L) e g c) : DE X W (.Dict [some (.Constant (.str x) j p)] [e] pos) (gDic1 x g) c :=
  pe_imp (pe_disp (pps_cons pe_str (pe_ex fun L => he L (C.inn L)) pps_nil) rfl rfl (by simp) (by simp)) fun σ H Q ⟨k, Δ, K, h1, h2, h3, h4⟩ => fun q hq => by
    obtain ⟨en, kp⟩ := h2.blk (vs := []) C.ok hq (Fin.laid h2.fin (o := .dK []) hq) ⟨by rw [upd_same]; simp, fun s z => by rw [upd_same] at z; cases z⟩ (fun i z => by cases z)
    refine ⟨q, k, Δ, _, h1, en, h3, fun d v H2 q2 c2 r2 => ?_⟩
    have nP : ¬ W.vol q := fun z => C.ok.pdom q z (h2.fin.free hq)
    have e2 : H2 q = some (.dK []) := c2.keep q _ upd_same nP
    refine ⟨e2, [(.inr x, v)], rfl, by simp, ?_⟩
    have c3 : Chg W (k + c) H H2 := ((Fin.laid h2.fin (o := .dK []) hq).mono (Nat.le_add_right k c)).trans c2.ofBlk
    have c4 : Chg W (k + c) H (upd H2 q (.dK (mergeK [] [(.inr x, v)]))) := by
      refine ⟨fun b o z n => ?_, fun b z => ?_, tabs_upd c3.tabs (fun p hp w => nP (.inr ⟨p.2, by rw [← w]; exact hp⟩)) fun φ w => by rw [e2] at w; cases w⟩
      · rw [upd_ne (ne_of_none z hq)]
        exact c3.keep b o z n
      · obtain ⟨x1, y1, z1, g1, r⟩ := c3.pots b z
        exact ⟨x1, y1, z1, by rw [upd_ne (show b ≠ q from fun w => nP (.inl (by rw [← w]; exact z)))]; exact g1, r⟩
    refine h4 _ _ _ q2 c4 (.dic (kvs := [(.inr x, v)]) (upd_same) (h2.notA hq) (.cons ?_ .nil))
    refine r2.map fun b o z n => ⟨?_, fun w => n (w.elim (fun w => .inl (.inl w)) fun w => .inr w)⟩
    rw [upd_ne (show b ≠ q from fun w => n (.inl (.inr w)))]
    exact z
end
section
variable {K : PySem.W.Frag} {fd : FuncData} {ps ks : List Str} {n : Nat} {ds : List Value}
theorem BindG.dfl {T : Addr} {o : Obj} {its : Array Value} {m : Nat} (lT : K.lookup T = some o) (oT : o.data = .seq its m)
    (h : ∀ us ws : List Value, us.length = n → ws.length = ks.length → ∃ k, bindArgs fd ⟨us, ks.zip ws⟩ = seqItems? (.ref T) >>= k ∧ k (some its) = pure (ps.zip (us ++ (ws ++ ds)))) : BindG K fd ps n ks ds := fun s us ws X h1 h2 => by
  obtain ⟨k, e1, e2⟩ := h us ws h1 h2
  refine L2.BindsTo.of_looks fun M => ?_
  rw [e1]
  exact looks_items X lT oT (.of_pure e2)
end
section
variable {P : Program} {w : World} {K : PySem.W.Frag} {mg : Str → Option Value} {base : Heap} {k c : Nat} {f : Addr} {ps N : List Str} {F : FSp} {scope : Scope} {body : List Stmt} {qual name : Str} {params : Arguments} {dV kV doc pm cdv ct oc : Value} {an od : Option Addr} {osl : Array (Option Value)}
/-- what a body reads, as a promise -/
def specOf (n : Nat) (N : List Str) (g : (Value → D → Prop) → TDS) : FSp := fun as Kd E => as.length = n ∧ g E { nx := fun _ => Kd .none, rt := Kd } (startD N as)
theorem fnd_by (lk : K.lookup f = some ⟨oc, od, .func (PySem.W.fnOf name qual params body scope dV kV doc pm an cdv ct), osl⟩) (hcd : PySem.W.codeIn K cdv qual = true) (S : FnScope N ps scope) {g : (Value → D → Prop) → TDS} (hpn : ps.length ≤ N.length)
    (hbody : ∀ (X : Cx) (W : Wd) (E : Value → D → Prop), W.E = E → X.prog = P → X.w = w → X.K = K → X.mg = mg → X.base = base → (∀ x, X.fn x = true) → Cxt X W N scope k → ∃ cb, cb ≤ c ∧ DSs X W body (g E) cb) :
    FnD P w K mg base (k + 1) f (PySem.W.fnOf name qual params body scope dV kV doc pm an cdv ct) ps (specOf ps.length N g) c :=
  fnd_of lk hcd S (cb := c) (Nat.le_refl c) hpn (fun X W E e1 e2 e3 e4 e5 e6 hf C => by
    obtain ⟨cb, l, h⟩ := hbody X W E e1 e2 e3 e4 e5 e6 hf C
    exact h.le l) fun as Kd E hl h => h.2
end
/-! ### constants of the module -/
theorem KRep.non {K : PySem.W.Frag} : KRep K .none .none := ⟨.non, rfl, fun _ _ => .non⟩
theorem KRep.bl {K : PySem.W.Frag} {b : Bool} : KRep K (.bool b) (.bool b) := ⟨.bl b, rfl, fun _ _ => .bl b⟩
inductive KReps (K : PySem.W.Frag) : List Value → List D → Prop
  | nil : KReps K [] []
  | cons {u : Value} {us : List Value} {d : D} {ds : List D} : KRep K u d → KReps K us ds → KReps K (u :: us) (d :: ds)
theorem KReps.vals {K : PySem.W.Frag} : ∀ {us : List Value} {ds : List D}, KReps K us ds → ∃ vs, Vals vs us ∧ ∀ A H, RepAll K A H vs ds
  | _, _, .nil => ⟨[], .nil, fun _ _ => .nil⟩
  | _, _, .cons ⟨v, r1, r2⟩ t => by
    obtain ⟨vs, h1, h2⟩ := t.vals
    exact ⟨v :: vs, .cons r1 h1, fun A H => .cons (r2 A H) (h2 A H)⟩
theorem KReps.len {K : PySem.W.Frag} : ∀ {us : List Value} {ds : List D}, KReps K us ds → us.length = ds.length
  | _, _, .nil => rfl
  | _, _, .cons _ t => congrArg (· + 1) t.len
theorem KRep.tup {K : PySem.W.Frag} {a : Addr} {od : Option Addr} {its : Array Value} {n : Nat} {sl : Array (Option Value)} {ds : List D} (l : K.lookup a = some ⟨.type "tuple", od, .seq its n, sl⟩) (hz : ds.length ≤ sizeLine) (r : KReps K its.toList ds) : KRep K (.ref a) (.tuple ds) := by
  obtain ⟨vs, h1, h2⟩ := r.vals
  have e := r.len
  rw [Array.length_toList] at e
  exact ⟨.ref a, rfl, fun A H => .tup (.inr (.inr ⟨_, its, n, l, rfl, rfl, by rw [e]; exact hz, h1⟩)) hz (h2 A H)⟩
/-! ### a block of a comprehension; stores from the right -/
section
variable {X : Cx} {W : Wd} {N : List Str} {sc : Scope} {kk : Nat} {scope : Scope}
theorem blk_use (C : Cxt X W N sc kk) {Φ : Cx → Wd → Prop} (h : ∀ (L : Addr) (s : Shared) (H : Hp) (C' : Addr) (cl : List (Str × Addr)) (fp : List Addr), Cxt (X.blk s H scope (compEnvC scope cl C' X.env) fp) (W.blk L) N (relS scope sc) kk → Φ (X.blk s H scope (compEnvC scope cl C' X.env) fp) (W.blk L)) : Blk X W scope Φ :=
  fun L s H C' cl fp => h L s H C' cl fp (C.blk L s H scope cl C' fp)
theorem swp2 (C : Cxt X W N sc kk) {x y : Str} {px py pt pt2 : Pos} {kt k2 : Nat} {a b : Expr} (hk : sc.kind = .function) (lx : sc.names.lookup x = some .local) (ly : sc.names.lookup y = some .local) (hxy : (x == y) = false) (hl : (py.line == px.line) = true)
    (ha : ∀ v p, a ≠ .Starred v p) (hb : ∀ v p, b ≠ .Starred v p) (h2 : [a, b].all (foldedForSure 8) = false) (h3 : [a, b].all (constantsAlone 8) = false) :
    swappedStores [.Tuple [.Name x px, .Name y py] kt pt] (.Tuple [a, b] k2 pt2) X.env = pure (some [x, y]) := by
  have kx : X.env.kindOf x = some .local := by
    show X.env.scope.names.lookup x = _
    rw [C.hsc]
    exact lx
  have ky : X.env.kindOf y = some .local := by
    show X.env.scope.names.lookup y = _
    rw [C.hsc]
    exact ly
  have kb : (X.env.blockKind != .function) = false := by
    have e : X.env.scope.kind = .function := by rw [C.hsc, hk]
    unfold Env.blockKind
    rw [e]
    rfl
  have e1 : (([.Name x px, .Name y py] : List Expr).head?.map (·.pos.line)).getD 0 = px.line := rfl
  have yx : (y == x) = false := by
    cases e : (y == x) with
    | false => rfl
    | true => rw [beq_iff_eq.mp e, beq_self_eq_true] at hxy; cases hxy
  unfold swappedStores
  simp only [e1, kb, h2, h3, List.filterMap_cons, List.filterMap_nil, kx, ky, hl, beq_self_eq_true, Bool.and_self, if_true, List.length_cons, List.length_nil]
  simp [List.eraseDups_cons, hxy, yx, List.filter]
end
/-! ### more draws may be told than are made -/
section
variable {X : Cx} {W : Wd} {e : Expr} {c cb : Nat} {g : TDE} {gt : TDT} {ifs : List Expr}
theorem DE.le (h : DE X W e g cb) (l : cb ≤ c) : DE X W e g c := pe_imp h fun σ H Q ⟨k, Δ, K, h1, h2, h3, h4⟩ => ⟨k, Δ, K, by omega, h2, h3, fun d v H' q ch r => h4 d v H' q (ch.mono (by omega)) r⟩
theorem DT.le (h : DT X W e gt cb) (l : cb ≤ c) : DT X W e gt c := pt_imp h fun σ H Q ⟨k, Δ, K, h1, h2, h3, h4⟩ => ⟨k, Δ, K, by omega, h2, h3, fun d H' q ch => h4 d H' q (ch.mono (by omega))⟩
theorem PTsD.le (h : PTsD X W ifs gt cb) (l : cb ≤ c) : PTsD X W ifs gt c := ⟨⟨fun pins s σ H Q I ⟨k, Δ, K, h1, h2, h3, h4⟩ => h.run.run pins s σ H Q I ⟨k, Δ, K, by omega, h2, h3, fun d H' q ch => h4 d H' q (ch.mono (by omega))⟩⟩⟩
end
end DL
/-! DLRead: the readings' operators, case by case. -/
namespace DL
open PySem PySem.Spec PyProof.Rows
section
variable {K : D → Prop} {i j : Int} {a b : Str} {p q : Bool} {xs ys : List D} {x : D} {v : Int}
theorem addD_ii : addD (.int i) (.int j) K = K (.int (i + j)) := rfl
theorem addD_ss : addD (.str a) (.str b) K = (a.length + b.length ≤ sizeLine ∧ K (.str (a ++ b))) := rfl
theorem addD_ll : addD (.list xs) (.list ys) K = (xs.length + ys.length ≤ sizeLine ∧ K (.list (xs ++ ys))) := rfl
theorem addD_tt : addD (.tuple xs) (.tuple ys) K = (xs.length + ys.length ≤ sizeLine ∧ K (.tuple (xs ++ ys))) := rfl
theorem subD_ii : subD (.int i) (.int j) K = K (.int (i - j)) := rfl
theorem mulD_ii : mulD (.int i) (.int j) K = (MulOk i j ∧ K (.int (i * j))) := rfl
theorem mulD_si : mulD (.str a) (.int j) K = (PySem.MulOk a j ∧ (Txt.mul a j).length ≤ sizeLine ∧ K (.str (Txt.mul a j))) := rfl
theorem mulD_li : mulD (.list xs) (.int j) K = (-(2 ^ 63) ≤ j ∧ j < 2 ^ 63 ∧ xs.length * j.toNat ≤ sizeLine ∧ K (.list (List.replicate j.toNat xs).flatten)) := rfl
theorem fdivD_ii : fdivD (.int i) (.int j) K = (L2.CDivW i j ∧ K (.int (i / j))) := rfl
theorem modD_ii : modD (.int i) (.int j) K = (0 < j ∧ K (.int (i % j))) := rfl
theorem powD_ii : powD (.int i) (.int j) K = (0 ≤ j ∧ (Builtin.Int.intBits i : Int) * j ≤ 2 ^ 27 ∧ K (.int (i ^ j.toNat))) := rfl
theorem eqD_ii : eqD (.int i) (.int j) K = K (.bool (decide (i = j))) := rfl
theorem eqD_ss : eqD (.str a) (.str b) K = K (.bool (decide (a = b))) := rfl
theorem eqD_bb : eqD (.bool p) (.bool q) K = K (.bool (decide (p = q))) := rfl
theorem neD_ii : neD (.int i) (.int j) K = K (.bool (!decide (i = j))) := rfl
theorem neD_ss : neD (.str a) (.str b) K = K (.bool (!decide (a = b))) := rfl
theorem neD_bb : neD (.bool p) (.bool q) K = K (.bool (!decide (p = q))) := rfl
theorem ltD_ii : ltD (.int i) (.int j) K = K (.bool (decide (i < j))) := rfl
theorem ltD_ss : ltD (.str a) (.str b) K = K (.bool (decide (a.cps.toList < b.cps.toList))) := rfl
theorem leD_ii : leD (.int i) (.int j) K = K (.bool (decide (i ≤ j))) := rfl
theorem gtD_ii : gtD (.int i) (.int j) K = K (.bool (decide (j < i))) := rfl
theorem geD_ii : geD (.int i) (.int j) K = K (.bool (decide (j ≤ i))) := rfl
theorem isD_n : isD x .none K = K (.bool (isNo x)) := by cases x <;> rfl
theorem isD_bb : isD (.bool p) (.bool q) K = K (.bool (decide (p = q))) := rfl
theorem isnotD_n : isnotD x .none K = K (.bool (!isNo x)) := by cases x <;> rfl
theorem isnotD_bb : isnotD (.bool p) (.bool q) K = K (.bool (!decide (p = q))) := rfl
theorem inD_ss : inD (.str a) (.str b) K = ∃ c : Nat, a = ⟨#[c]⟩ ∧ K (.bool (decide (c ∈ b.cps.toList))) := rfl
theorem inD_l : inD x (.list ys) K = (SeqAt.shaped x = true ∧ SeqAt.shaped (.list ys) = true ∧ K (.bool (ys.any fun z => PyData.eqv z x))) := by cases x <;> rfl
theorem inD_t : inD x (.tuple ys) K = (SeqAt.shaped x = true ∧ SeqAt.shaped (.tuple ys) = true ∧ K (.bool (ys.any fun z => PyData.eqv z x))) := by cases x <;> rfl
theorem notinD_ss : notinD (.str a) (.str b) K = ∃ c : Nat, a = ⟨#[c]⟩ ∧ K (.bool (!decide (c ∈ b.cps.toList))) := rfl
theorem notinD_l : notinD x (.list ys) K = (SeqAt.shaped x = true ∧ SeqAt.shaped (.list ys) = true ∧ K (.bool (!ys.any fun z => PyData.eqv z x))) := by cases x <;> rfl
theorem notinD_t : notinD x (.tuple ys) K = (SeqAt.shaped x = true ∧ SeqAt.shaped (.tuple ys) = true ∧ K (.bool (!ys.any fun z => PyData.eqv z x))) := by cases x <;> rfl
theorem ixD_l : ixD (.list xs) (.int i) K = ∃ d, L2.atI xs i = some d ∧ K d := rfl
theorem ixD_t : ixD (.tuple xs) (.int i) K = ∃ d, L2.atI xs i = some d ∧ K d := rfl
theorem ixD_s : ixD (.str a) (.int i) K = ∃ c, L2.atI a.cps.toList i = some c ∧ K (.str ⟨#[c]⟩) := rfl
theorem slD_t {lo hi : Option Int} : slD (.tuple xs) lo hi K = K (.tuple (cutL xs lo hi)) := rfl
theorem slD_s {lo hi : Option Int} : slD (.str a) lo hi K = K (.str (L2.cutS a lo hi)) := rfl
theorem slD_l {lo hi : Option Int} : slD (.list xs) lo hi K = K (.list (cutL xs lo hi)) := rfl
theorem lenD_s : lenD [.str a] K = K (.int a.length) := rfl
theorem lenD_l : lenD [.list xs] K = K (.int xs.length) := rfl
theorem lenD_t : lenD [.tuple xs] K = K (.int xs.length) := rfl
theorem tupD_l : tupD [.list xs] K = K (.tuple xs) := rfl
theorem tupD_t : tupD [.tuple xs] K = K (.tuple xs) := rfl
theorem listD_l {K : List D → Prop} : listD [.list xs] K = K xs := rfl
theorem listD_t {K : List D → Prop} : listD [.tuple xs] K = K xs := rfl
theorem allD_l : allD [.list xs] K = ∃ bs : List Bool, xs = bs.map PyData.bool ∧ K (.bool (bs.all id)) := rfl
theorem anyD_l : anyD [.list xs] K = ∃ bs : List Bool, xs = bs.map PyData.bool ∧ K (.bool (bs.any id)) := rfl
theorem sumD_l : sumD [.list xs] K = ∃ ns : List Int, xs = ns.map PyData.int ∧ K (.int ns.sum) := rfl
theorem maxD_ii : maxD [.int i, .int j] K = K (.int (if j > i then j else i)) := rfl
theorem minD_ii : minD [.int i, .int j] K = K (.int (if j < i then j else i)) := rfl
theorem maxD_l : maxD [.list xs] K = ∃ ns : List Int, xs = ns.map PyData.int ∧ 0 < ns.length ∧ ∀ m, m ∈ ns → (∀ y, y ∈ ns → y ≤ m) → K (.int m) := rfl
theorem minD_l : minD [.list xs] K = ∃ ns : List Int, xs = ns.map PyData.int ∧ 0 < ns.length ∧ ∀ m, m ∈ ns → (∀ y, y ∈ ns → m ≤ y) → K (.int m) := rfl
theorem absD_i : absD [.int i] K = K (.int (if i < 0 then -i else i)) := rfl
theorem gcdD_ii : gcdD [.int i, .int j] K = K (.int ((Nat.gcd i.natAbs j.natAbs : Nat) : Int)) := rfl
theorem intD_i : intD [.int i] K = K (.int i) := rfl
theorem intD_b : intD [.bool p] K = K (.int (if p then 1 else 0)) := rfl
theorem intD_s : intD [.str a] K = ∃ n, PySem.intText? a = some n ∧ a.length ≤ 640 ∧ K (.int n) := rfl
theorem strD_i : strD [.int i] K = (i.natAbs.log2 < 1920 ∧ K (.str (toString i))) := rfl
theorem strD_s : strD [.str a] K = K (.str a) := rfl
theorem reprD_1 : reprD [x] K = (x.canLay0 = true ∧ x.showable = true ∧ x.depth ≤ 90 ∧ x.shown.length ≤ sizeLine ∧ K (.str x.shown)) := rfl
theorem joinD_l : joinD [.str a, .list xs] K = ∃ ys : List Str, xs = ys.map PyData.str ∧ (ys.map (·.length)).sum + ys.length * a.length ≤ 16777216 ∧ (Txt.join a ys).length ≤ sizeLine ∧ K (.str (Txt.join a ys)) := rfl
theorem splitD_s : splitD [.str a, .str b] K = ((b.length == 0) = false ∧ a.length + 2 ≤ sizeLine ∧ (Txt.split a b).length ≤ sizeLine ∧ (∀ y ∈ Txt.split a b, y.length ≤ sizeLine) ∧ K (.list ((Txt.split a b).map PyData.str))) := rfl
theorem PB_0 : PB 0 v ↔ 0 ≤ v ∧ v < 10 ^ 300 := by
  unfold PB
  constructor
  · rintro (⟨_, h⟩ | ⟨h, _⟩ | ⟨h, _⟩)
    · exact h
    · cases h
    · cases h
  · exact fun h => .inl ⟨rfl, h⟩
theorem PB_1 : PB 1 v ↔ 0 ≤ v ∧ v < 2 ^ 61 := by
  unfold PB
  constructor
  · rintro (⟨h, _⟩ | ⟨_, h⟩ | ⟨h, _⟩)
    · cases h
    · exact h
    · cases h
  · exact fun h => .inr (.inl ⟨rfl, h⟩)
theorem PB_2 : PB 2 v ↔ 0 ≤ v ∧ v ≤ 4194304 := by
  unfold PB
  constructor
  · rintro (⟨h, _⟩ | ⟨h, _⟩ | ⟨_, h⟩)
    · cases h
    · cases h
    · exact h
  · exact fun h => .inr (.inr ⟨rfl, h⟩)
end
theorem gIte_t {P Q : Prop} : gIte true P Q = P := propext ⟨fun h => h.1 rfl, fun h => ⟨fun _ => h, fun z => (nomatch z)⟩⟩
theorem gIte_f {P Q : Prop} : gIte false P Q = Q := propext ⟨fun h => h.2 rfl, fun h => ⟨fun z => (nomatch z), fun _ => h⟩⟩
theorem gIte_d {p P Q : Prop} [Decidable p] : gIte (decide p) P Q = ((p → P) ∧ (¬ p → Q)) := propext ⟨fun h => ⟨fun z => h.1 (decide_eq_true z), fun z => h.2 (decide_eq_false z)⟩, fun h => ⟨fun z => h.1 (of_decide_eq_true z), fun z => h.2 (of_decide_eq_false z)⟩⟩
theorem gIte_n {b : Bool} {P Q : Prop} : gIte (!b) P Q = gIte b Q P := by cases b <;> simp [gIte]
/-! ### sizes of ints -/
def Sz (b : Nat) (i : Int) : Prop := i.natAbs < 2 ^ b
theorem Sz.le {b c : Nat} {i : Int} (h : Sz b i) (l : b ≤ c) : Sz c i := Nat.lt_of_lt_of_le h (Nat.pow_le_pow_right (by decide) l)
theorem Sz.mul {b c : Nat} {i j : Int} (h : Sz b i) (k : Sz c j) : Sz (b + c) (i * j) := by
  unfold Sz at *
  rw [Int.natAbs_mul, Nat.pow_add]
  exact Nat.mul_lt_mul_of_le_of_lt (Nat.le_of_lt h) k (Nat.pow_pos (by decide))
theorem Sz.add {b c : Nat} {i j : Int} (h : Sz b i) (k : Sz c j) : Sz (max b c + 1) (i + j) := by
  have h1 := h.le (Nat.le_max_left b c)
  have h2 := k.le (Nat.le_max_right b c)
  unfold Sz at *
  rw [Nat.pow_succ]
  omega
theorem Sz.pow {b : Nat} {i : Int} (h : Sz b i) : ∀ n : Nat, Sz (b * n + 1) (i ^ n)
  | 0 => by
    show (i ^ 0).natAbs < 2 ^ (b * 0 + 1)
    rw [Int.pow_zero, Nat.mul_zero]
    decide
  | n + 1 => by
    have := (Sz.pow h n).mul h
    rw [Int.pow_succ]
    exact this.le (by rw [Nat.mul_succ]; omega)
theorem Sz.of_range {b : Nat} {i : Int} (h0 : 0 ≤ i) (h : i < 2 ^ b) : Sz b i := by
  unfold Sz
  have e : ((2 ^ b : Nat) : Int) = (2 : Int) ^ b := by simp
  omega
theorem Sz.log {b : Nat} {i : Int} (h : Sz b i) : i.natAbs.log2 ≤ b := by
  by_cases z : i.natAbs = 0
  · rw [z]
    exact Nat.zero_le _
  · exact Nat.le_of_lt ((Nat.log2_lt z).mpr h)
theorem Sz.mulOk {b c : Nat} {i j : Int} (h : Sz b i) (k : Sz c j) (l : b + c < 1000000 := by decide) : MulOk i j := by
  have h1 := h.log
  have h2 := k.log
  show i.natAbs.log2 + j.natAbs.log2 < 1000000
  omega
theorem Sz.bits {b : Nat} {i : Int} (h : Sz b i) : Builtin.Int.intBits i ≤ b := PySem.intBits_le_iff.mpr h
theorem Sz.emod {b : Nat} {i j : Int} (h : Sz b j) (p : 0 < j) : Sz b (i % j) := by
  have h1 := Int.emod_nonneg i (Int.ne_of_gt p)
  have h2 := Int.emod_lt_of_pos i p
  unfold Sz at *
  omega
theorem Sz.ediv {b : Nat} {i j : Int} (h : Sz b i) (p : 0 < j) : Sz b (i / j) := by
  have h1 := Int.natAbs_ediv_le_natAbs i j
  unfold Sz at *
  omega
theorem Sz.neg {b : Nat} {i : Int} (h : Sz b i) : Sz b (-i) := by
  unfold Sz at *
  omega
/-! ### comprehensions and loops over what is walked -/
def gLcX (cb m : Nat) (vs : List Nat) (xs : List D) (gg : TDG) (gt : TDT) (ge : TDE) (Δ : DEnv) (K : List D → Prop) : Prop := (vs.all fun i => noOwn (nth Δ i)) = true ∧ xs.length * cb ≤ m ∧ ∃ S : Nat → List D → Prop, S 0 [] ∧
  (∀ i d ds, xs[i]? = some d → S i ds → gg d (clr vs Δ) fun Δ2 => gt Δ2 fun b => gIte b (ge Δ2 fun y => S (i + 1) (ds ++ [y])) (S (i + 1) ds)) ∧ ∀ ds, S xs.length ds → K ds
theorem gLcC_x {cb m : Nat} {vs : List Nat} {gi : TDL} {gg : TDG} {gt : TDT} {ge : TDE} {Δ : DEnv} {K : List D → Prop} : gLcC cb m vs gi gg gt ge Δ K = gi Δ fun xs => gLcX cb m vs xs gg gt ge Δ K := rfl
def gForX (cb m : Nat) (xs : List D) (gt : TDG) (gb : TDS) (E : DEnds) (Δ : DEnv) : Prop := xs.length * cb ≤ m ∧ ∃ I : Nat → DEnv → Prop, I 0 Δ ∧ (∀ i d Δ', xs[i]? = some d → I i Δ' → gt d Δ' fun Δ2 => gb { E with nx := I (i + 1), ct := I (i + 1), bk := E.nx } Δ2) ∧ ∀ Δ', I xs.length Δ' → E.nx Δ'
theorem gForC_x {cb m : Nat} {gi : TDL} {gt : TDG} {gb : TDS} {E : DEnds} {Δ : DEnv} : gForC cb m gi gt gb E Δ = gi Δ fun xs => gForX cb m xs gt gb E Δ := rfl
section
variable {cb m i : Nat} {vs : List Nat} {Δ : DEnv} {K : List D → Prop} {ge : TDE} {xs : List D}
theorem lc_to (f : D → D) (hv : (vs.all fun i => noOwn (nth Δ i)) = true) (hm : xs.length * cb ≤ m) (step : ∀ d ∈ xs, ∀ P : D → Prop, P (f d) → ge ((clr vs Δ).set i (.dat d)) P) (hK : K (xs.map f)) : gLcX cb m vs xs (gTo i) gYes ge Δ K := by
  refine ⟨hv, hm, fun j ds => ds = (xs.take j).map f, rfl, fun j d ds hd hS => ⟨fun _ => ?_, fun z => nomatch z⟩, fun ds hS => ?_⟩
  · refine step d (List.mem_of_getElem? hd) _ ?_
    show ds ++ [f d] = (xs.take (j + 1)).map f
    rw [show ds = (xs.take j).map f from hS, List.take_add_one, hd, List.map_append]
    rfl
  · rw [show ds = (xs.take xs.length).map f from hS, List.take_length]
    exact hK
theorem lc_any (R : D → Prop) (hv : (vs.all fun i => noOwn (nth Δ i)) = true) (hm : xs.length * cb ≤ m) (step : ∀ d ∈ xs, ∀ P : D → Prop, (∀ y, R y → P y) → ge ((clr vs Δ).set i (.dat d)) P) (hK : ∀ ys : List D, ys.length = xs.length → (∀ y ∈ ys, R y) → K ys) : gLcX cb m vs xs (gTo i) gYes ge Δ K := by
  refine ⟨hv, hm, fun j ds => ds.length = j ∧ ∀ y ∈ ds, R y, ⟨rfl, fun y hy => by cases hy⟩, fun j d ds hd hS => ⟨fun _ => ?_, fun z => nomatch z⟩, fun ds hS => hK ds hS.1 hS.2⟩
  refine step d (List.mem_of_getElem? hd) _ fun y hy => ⟨by rw [List.length_append, hS.1]; rfl, fun z hz => ?_⟩
  rcases List.mem_append.mp hz with h | h
  · exact hS.2 z h
  · rw [List.mem_singleton.mp h]
    exact hy
end
end DL
/-! DLRev: e[::-1]; code that is never reached; three stores at once; the ground of a def that calls itself. -/
namespace DL
open PySem PySem.Spec PyProof.Rows L2
variable [Lams]
/-! ### t[::-1] of a tuple, of a list -/
theorem fm_congr {α β : Type} {f g : α → Option β} : ∀ {l : List α}, (∀ x ∈ l, f x = g x) → l.filterMap f = l.filterMap g
  | [], _ => rfl
  | x :: l, h => by
    rw [List.filterMap_cons, List.filterMap_cons, h x List.mem_cons_self, fm_congr fun y hy => h y (List.mem_cons_of_mem _ hy)]
section
variable {prog : Program} {w : World} {A : Around} {E : Value → Shared → Prop} {s : Shared}
theorem applied_back {sl : Addr} {vs : Value} {n : Nat} {Q : Int × Int × Nat → Shared → Prop} (hs : s.heap.IsSliceOf sl .none .none vs) (ps : IsPart vs (some (-1)))
    (h : Q ((n : Int) - 1, -1, n) s) : wpAny (model prog w) A (Builtin.Slice.sliceApplied (.ref sl) (pure (n : Int))) Q E s := by
  obtain ⟨os, hos, hcs, hds⟩ := id hs
  unfold Builtin.Slice.sliceApplied Builtin.Slice.sliceFields
  refine wpAny_bind (wpAny_bind (wpAny_field hos hds (x := .none) rfl (wpAny_bind (wpAny_field hos hds (x := .none) rfl (wpAny_bind (wpAny_field hos hds (x := vs) rfl (wpAny_pure ?_)))))))
  refine wpAny_bind (HT.slicePart_ ps ?_)
  show wpAny _ _ (if ((-1 : Int) == 0) = true then _ else _) _ _ s
  rw [if_neg (by decide)]
  refine wpAny_bind (slicePart_none (wpAny_bind (slicePart_none (wpAny_bind (wpAny_pure ?_)))))
  show wpAny _ _ (pure (((n : Int) - 1, (-1 : Int), Builtin.Slice.slicePlaces ((n : Int) - 1) (-1) (-1)) : Int × Int × Nat)) _ _ s
  have e : Builtin.Slice.slicePlaces ((n : Int) - 1) (-1) (-1) = n := by
    unfold Builtin.Slice.slicePlaces
    have h1 : ¬ ((-1 : Int) > 0) := by omega
    simp only [h1, if_false]
    split
    · rw [show (-(-1 : Int)) = 1 from rfl, Int.ediv_one]
      omega
    · omega
  rw [e]
  exact wpAny_pure h
theorem pick_back (xs : Array Value) : ((List.range xs.size).filterMap fun (m : Nat) => xs[(((xs.size : Int) - 1) + (m : Int) * (-1)).toNat]?).toArray = xs.toList.reverse.toArray := by
  have e : ((List.range xs.size).filterMap fun (m : Nat) => xs[(((xs.size : Int) - 1) + (m : Int) * (-1)).toNat]?) = (List.range xs.size).filterMap ((fun k => xs[k]?) ∘ fun k => xs.size - 1 - k) := by
    refine fm_congr fun m hm => ?_
    have := List.mem_range.mp hm
    show _ = xs[xs.size - 1 - m]?
    rw [show (((xs.size : Int) - 1) + (m : Int) * (-1)).toNat = xs.size - 1 - m by omega]
  rw [e, ← List.filterMap_map, PySem.W.krv_range, List.filterMap_reverse, PySem.W.krv_all]
theorem getItem_tuple_back {t sl : Addr} {items : Array Value} {vs : Value} {Q : Value → Shared → Prop} (ht : IsTup s.heap t items) (hs : s.heap.IsSliceOf sl .none .none vs) (ps : IsPart vs (some (-1)))
    (h : Q (.ref s.heap.objs.size) { s with heap := s.heap.push { cls := .type "tuple", data := .seq items.toList.reverse.toArray } })
    (hsz : items.size ≤ sizeLine) : wpAny (model prog w) A (getItem (.ref t) (.ref sl)) Q E s := by
  have htake : sizeOk (.seq items.toList.reverse.toArray) := by
    show items.toList.reverse.toArray.size ≤ sizeLine
    rw [List.size_toArray, List.length_reverse, Array.length_toList]
    exact hsz
  obtain ⟨os, hos, hcs, hds⟩ := id hs
  have hTs : s.TypeIs (.ref sl) "slice" := ⟨os, hos, hcs⟩
  unfold getItem
  try with_reducible refine wpAny_holding ?_
  first | refine wpAny_bind (wpAny_pure ?_) | skip
  refine wpAny_bind (wpAny_sequenceKey ht.typeIs (by decide) ?_)
  refine wpAny_bind (wpAny_callSpecial?_slot (name := Str.ofString "__getitem__") ht.typeIs PyProof.Rows.slot_tuple_getitem
    (wpAny_call_entry PyProof.Rows.slot_tuple_getitem ht.typeIs entry_tuple_getitem ?_ (args_tuple_getitem _ _)))
  show wpAny _ _ (Builtin.Tuple.tupleItemsOf (.ref t) >>= _) _ _ s
  refine wpAny_bind (tupleItemsOf_ ht ?_)
  refine wpAny_bind (wpAny_typeOf hTs ?_)
  rw [if_pos (by decide)]
  refine wpAny_bind (applied_back hs ps ?_)
  have hno : ¬ ((((items.size : Int) - 1) == 0 && (-1 : Int) == 1 && items.size == items.size) = true) := by
    intro q
    rw [Bool.and_eq_true, Bool.and_eq_true] at q
    exact absurd (eq_of_beq q.1.2) (by decide)
  show wpAny _ _ (if (((items.size : Int) - 1) == 0 && (-1 : Int) == 1 && items.size == items.size) = true then _ else _) _ _ s
  rw [if_neg hno, pick_back]
  first
    | exact wpAny_bind (m := Builtin.Tuple.tupleExact _) (wpAny_newObj_type (wpAny_pure ⟨_, rfl, wpAny_pure h⟩) htake)
    | exact wpAny_bind (m := Builtin.Tuple.tupleExact _) (wpAny_newObj_type (wpAny_bind (wpAny_pure (wpAny_pure ⟨_, rfl, wpAny_pure h⟩))) htake)
    | exact wpAny_bind (wpAny_bind (m := Builtin.Tuple.tupleExact _) (wpAny_newObj_type (wpAny_pure (wpAny_pure ⟨_, rfl, wpAny_pure h⟩)) htake))
    | exact wpAny_bind (wpAny_bind (m := Builtin.Tuple.tupleExact _) (wpAny_newObj_type (wpAny_pure ⟨_, rfl, wpAny_pure h⟩) htake))
end
def tRevA (K : PySem.W.Frag) (te : TE) : TE := fun σ H Q => te σ H fun x H1 => (∃ a xs, x = .ref a ∧ SqL K H1 a xs ∧ ∀ p, H1 p = none → Q (.ref p) (upd H1 p (.lst xs.reverse))) ∨ ∃ a xs, x = .ref a ∧ SqT K H1 a xs ∧ ∀ p, H1 p = none → Q (.ref p) (upd H1 p (.tup xs.reverse))
theorem pe_revA {X : Cx} {e : Expr} {te : TE} {k : Nat} {p1 p2 p3 pos : Pos} (he : PE X e te) : PE X (.Subscript e (.Slice none none (some (.UnaryOp .USub (.Constant (.int 1) k p1) p2)) p3) pos) (tRevA X.K te) := by
  refine ⟨fun pins s σ H Q I h => ?_⟩
  refine Subscript_ (thn (he.run pins s σ H _ I h) fun v s1 ⟨x, H1, I1, r1, q1⟩ => ?_)
  have hst : PO X (some (.UnaryOp .USub (.Constant (.int 1) k p1) p2)) (tPart (tUn (rU fun i => .int (-i)) (tC (.int 1)))) := po_some (pe_un un_neg pe_int)
  refine wpAny_Slice ?_
  rw [evalPart_none]
  refine wpAny_pure ?_
  refine wpAny_pure ?_
  refine thn (hst.run pins s1 σ H1 (fun o H4 => o = some (-1) ∧ H4 = H1) I1 ⟨1, rfl, -1, rfl, rfl, rfl⟩) fun vs s4 ⟨o, H4, I4, ps, eo, e4⟩ => ?_
  subst eo e4
  have I5 : Inv X pins σ H4 { s4 with heap := s4.heap.push { cls := .type "slice", data := .fields #[.none, .none, vs] } } := I4.kept (t' := s4.toks) fun b ob q => Heap.get?_push_of_some _ q
  rcases q1 with ⟨a, xs, ex, hx, q⟩ | ⟨a, xs, ex, hx, q⟩
  · subst ex
    cases r1
    obtain ⟨its, r, ht, hz⟩ := I5.list hx
    have hlen := r.length
    show wpAny (model X.prog X.w) X.A (subscriptTail e (.Slice none none (some (.UnaryOp .USub (.Constant (.int 1) k p1) p2)) p3) (.ref a) (.ref s4.heap.objs.size)) (EP X pins σ Q) X.xe { s4 with heap := s4.heap.push { cls := .type "slice", data := .fields #[.none, .none, vs] } }
    refine tail_any (ops := [.ref a, .ref s4.heap.objs.size]) ht.isList.typeIs (PySem.slot_list_getitem.lookup) ?_ (by with_unfolding_all rfl)
    refine wpAny_getItem_list_slice ht.isList (Heap.IsSliceOf.new _ .none .none vs) .none .none ps (by decide) ?_ (by rw [List.size_toArray]; omega)
    rw [PySem.W.krv_pick]
    refine ⟨.ref _, _, I5.laid (t' := s4.toks) (o := .lst xs.reverse) (fun b ob q => Heap.get?_push_of_some _ q) (Nat.le_refl _) ?_, rfl, q _ (I5.hok.fresh (Nat.le_refl _))⟩
    exact ⟨by rw [List.length_reverse]; exact hz, _, 0, r.reverse, Heap.get?_push_size _ rfl⟩
  · subst ex
    cases r1
    obtain ⟨its, r, ht, hz⟩ := I5.tuple hx
    have hlen := r.length
    show wpAny (model X.prog X.w) X.A (subscriptTail e (.Slice none none (some (.UnaryOp .USub (.Constant (.int 1) k p1) p2)) p3) (.ref a) (.ref s4.heap.objs.size)) (EP X pins σ Q) X.xe { s4 with heap := s4.heap.push { cls := .type "slice", data := .fields #[.none, .none, vs] } }
    refine tail_any (ops := [.ref a, .ref s4.heap.objs.size]) ht.typeIs PyProof.Rows.slot_tuple_getitem.lookup ?_ (by with_unfolding_all rfl)
    refine getItem_tuple_back ht (Heap.IsSliceOf.new _ .none .none vs) ps ?_ (by rw [List.size_toArray]; omega)
    refine ⟨.ref _, _, I5.laid (t' := s4.toks) (o := .tup xs.reverse) (fun b ob q => Heap.get?_push_of_some _ q) (Nat.le_refl _) ?_, rfl, q _ (I5.hok.fresh (Nat.le_refl _))⟩
    exact ⟨by rw [List.length_reverse]; exact hz, _, r.reverse, IsTup.new _ _⟩
theorem RepAll.rev {K : PySem.W.Frag} {A : Addr → Prop} {H : Hp} {vs : List V} {ds : List D} (r : RepAll K A H vs ds) : RepAll K A H vs.reverse ds.reverse := by
  induction ds generalizing vs with
  | nil => cases r; exact .nil
  | cons d ds ih =>
    cases r with
    | cons r1 r2 =>
      rw [List.reverse_cons, List.reverse_cons]
      exact (ih r2).append (.cons r1 .nil)
section
variable {X : Cx} {W : Wd} {N : List Str} {sc : Scope} {kk : Nat} {e a b : Expr} {c ca cb cc : Nat} {g ga gb gc : TDE} {pos p p2 : Pos} {k j : Nat} {σ : St} {Δ : DEnv} {H H' : Hp} {s : Stmt}
def revD : D → (D → Prop) → Prop
  | .tuple xs, K => K (.tuple xs.reverse)
  | .list xs, K => K (.list xs.reverse)
  | _, _ => False
def gRev (g : TDE) : TDE := fun Δ K => g Δ fun d => revD d K
theorem de_rev (C : Cxt X W N sc kk) {n : Nat} {p1 p2 p3 : Pos} (he : DB X W e g c) : DE X W (.Subscript e (.Slice none none (some (.UnaryOp .USub (.Constant (.int 1) n p1) p2)) p3) pos) (gRev g) c :=
  pe_imp (pe_revA he) fun σ H Q ⟨k, Δ, K, h1, h2, h3, h4⟩ => ⟨k, Δ, _, h1, h2, h3, fun d v H1 q c1 r => by
    have e1 := h2.chg C.ok c1
    have rb : RepB X.K (AA W σ Δ) H1 v d := RepB.of C e1 r e1.refl
    match d, q with
    | .tuple xs, q =>
      obtain ⟨a, vs, rfl, ha, ra, z, _⟩ := rb.tup
      refine .inr ⟨a, vs, rfl, ha, fun p hp => ?_⟩
      refine h4 _ _ _ q (c1.laid C h2 hp) (.tup (.inl ⟨.inl upd_same, e1.notA hp⟩) (by rw [List.length_reverse]; exact z) ?_)
      rw [C.hK]
      exact ra.rev.map (kp_laid hp)
    | .list xs, q =>
      obtain ⟨a, vs, rfl, ha, ra, z⟩ := rb.list
      refine .inl ⟨a, vs, rfl, .inl (.inl ha), fun p hp => ?_⟩
      refine h4 _ _ _ q (c1.laid C h2 hp) (.lst upd_same (e1.notA hp) (by rw [List.length_reverse]; exact z) ?_)
      rw [C.hK]
      exact ra.rev.map (kp_laid hp)⟩
/-! ### code that is never reached -/
def gOff : TDE := fun _ _ => False
theorem de_off : DE X W e gOff 0 := ⟨fun _ _ _ _ _ _ ⟨_, _, _, _, _, z, _⟩ => z.elim⟩
def gOffS : TDS := fun _ _ => False
theorem ds_off : DS X W s gOffS 0 := ⟨fun _ _ _ _ _ _ ⟨_, _, _, _, _, z, _⟩ => z.elim⟩
theorem fnd_off {P : Program} {w : World} {K : PySem.W.Frag} {mg : Str → Option Value} {base : Heap} {k : Nat} {f : Addr} {fd : FuncData} {ps : List Str} {c : Nat} : FnD P w K mg base k f fd ps (fun _ _ _ => False) c :=
  ⟨fun _ _ _ _ ⟨_, _, _, _, _, _, z, _⟩ => z.elim, fun _ _ _ _ _ _ _ _ _ _ _ _ _ _ ⟨_, _, _, _, _, _, z, _⟩ => z.elim⟩
/-! ### x, y, z = [..], e, e -/
def gPar3F (i j l : Nat) (g : TDL) (gb gc : TDE) : TDS := fun D Δ => g Δ fun ds => gb Δ fun d => gc Δ fun e => i < Δ.length ∧ D.nx (((Δ.set i (.own ds)).set j (.dat d)).set l (.dat e))
theorem ds_par3F (C : Cxt X W N sc kk) {f : TDL} {i j l : Nat} {x y z : Str} {a b e : Expr} {px py pz pt : Pos} {kt k2 pt2} (hx : N[i]? = some x) (hy : N[j]? = some y) (hz : N[l]? = some z) (hij : i ≠ j) (hil : i ≠ l) (hjl : j ≠ l)
    (lx : sc.names.lookup x = some .local) (ly : sc.names.lookup y = some .local) (lz : sc.names.lookup z = some .local) (ha : DF X W a f ca) (hb : ∀ L, Cxt X (W.blk L) N sc kk → DE X (W.blk L) b gb cb) (hc : ∀ L, Cxt X (W.blk L) N sc kk → DE X (W.blk L) e gc cc)
    (hw : swappedStores [.Tuple [.Name x px, .Name y py, .Name z pz] kt pt] (.Tuple [a, b, e] k2 pt2) X.env = pure (some [x, y, z]))
    (s1 : starEach [a, b, e] X.env = (false, eval a X.env) :: starEach [b, e] X.env := by rfl) (s2 : starEach [b, e] X.env = (false, eval b X.env) :: starEach [e] X.env := by rfl) (s3 : starEach [e] X.env = (false, eval e X.env) :: starEach [] X.env := by rfl)
    (hs : swapsWithSole [.Tuple [.Name x px, .Name y py, .Name z pz] kt pt] (.Tuple [a, b, e] k2 pt2) pos.line X.env = pure false := by rfl) :
    DS X W (.Assign [.Tuple [.Name x px, .Name y py, .Name z pz] kt pt] (.Tuple [a, b, e] k2 pt2) pos) (gPar3F i j l f gb gc) (ca + cb + cc) :=
  ps_imp (ps_par3 C.calm (by rw [C.hN]; exact C.nd) (by rw [C.hN]; exact hx) (by rw [C.hN]; exact hy) (by rw [C.hN]; exact hz) hij hil hjl (by rw [C.hsc]; exact lx) (by rw [C.hsc]; exact ly) (by rw [C.hsc]; exact lz) (pa_cons ha (pa_cons (pe_ex fun L => hb L (C.inn L)) (pa_cons (pe_ex fun L => hc L (C.inn L)) pa_nil s3) s2) s1) hw hs)
    fun E σ H ⟨k, Δ, D2, h1, h2, h3, h4⟩ => ⟨k, Δ, _, by omega, h2, h3, fun ds L xs H1 q1 c1 hn hL hz r => by
      obtain ⟨enB, kpB⟩ := h2.blk (vs := []) C.ok hn c1 (sol_lst hL) (fun i z => by cases z)
      refine ⟨L, k + ca, Δ, _, (show k + ca + cb ≤ W.c0 by omega), enB, q1, fun d v H2 q2 c2 r2 => ?_⟩
      have e2 := enB.chg (C.inn L).ok c2
      refine ⟨L, k + ca + cb, Δ, _, (show k + ca + cb + cc ≤ W.c0 by omega), e2, q2, fun d3 v3 H3 ⟨li, q3⟩ c3 r3 => ?_⟩
      have li' : i < σ.length := by
        rw [← h2.len]
        exact li
      have nP1 : ¬ W.vol L := fun q => C.ok.pdom L q (h2.fin.free hn)
      have hL3 : H3 L = some (.lst xs) := c3.keep L _ (c2.keep L _ hL nP1) nP1
      have cc' : Chg W (k + (ca + cb + cc)) H H3 := by
        have e : k + ca + cb + cc = k + (ca + cb + cc) := by omega
        rw [← e]
        exact c1.trans (c2.ofBlk.trans c3.ofBlk)
      obtain ⟨e4, kp4⟩ := h2.own (i := i) (by rw [← h2.len]; exact li) cc' hn hL3 hz (r.map ((c2.ofBlk.trans c3.ofBlk).kp C.ok fun a q => .inl (.inl q))) C.ok
      have sub : ∀ b, AA W (σ.set i (some (.ref L))) (Δ.set i (.own ds)) b → AA (W.blk L) σ Δ b := fun b q => by
        rcases q with q | ⟨j, es, h1, h2⟩
        · exact .inl (.inl q)
        · by_cases e : j = i
          · subst e
            have : (σ.set j (some (.ref L)))[j]? = some (some (.ref L)) := List.getElem?_set_self li'
            rw [this] at h2
            cases h2
            exact .inl (.inr rfl)
          · rw [nth_set_ne e] at h1
            rw [List.getElem?_set_ne (fun z => e z.symm)] at h2
            exact .inr ⟨j, es, h1, h2⟩
      have rv : Rep W.K (AA W (σ.set i (some (.ref L))) (Δ.set i (.own ds))) H3 v d := (r2.map (c3.kpE (C.inn L).ok)).map (Kp.less sub)
      have rw3 : Rep W.K (AA W (σ.set i (some (.ref L))) (Δ.set i (.own ds))) H3 v3 d3 := r3.map (Kp.less sub)
      have e5 := e4.dat (i := j) rv
      have e6 := e5.dat (i := l) (rw3.map (kp_set fun _ z => by cases z))
      exact ⟨.ref L, v, v3, rfl, h4.nx _ _ _ q3 e6 (kp4.trans ((kp_set fun _ z => by cases z).trans (kp_set fun _ z => by cases z)))⟩⟩
theorem swp3 (C : Cxt X W N sc kk) {x y z : Str} {px py pz pt pt2 : Pos} {kt k2 : Nat} {a b e : Expr} (hk : sc.kind = .function) (lx : sc.names.lookup x = some .local) (ly : sc.names.lookup y = some .local) (lz : sc.names.lookup z = some .local) (hxy : (x == y) = false) (hxz : (x == z) = false) (hyz : (y == z) = false)
    (hl : (py.line == px.line) = true) (hl2 : (pz.line == px.line) = true)
    (ha : ∀ v p, a ≠ .Starred v p) (hb : ∀ v p, b ≠ .Starred v p) (hc : ∀ v p, e ≠ .Starred v p) (h2 : [a, b, e].all (foldedForSure 8) = false) (h3 : [a, b, e].all (constantsAlone 8) = false) :
    swappedStores [.Tuple [.Name x px, .Name y py, .Name z pz] kt pt] (.Tuple [a, b, e] k2 pt2) X.env = pure (some [x, y, z]) := by
  have kd : ∀ {u : Str}, sc.names.lookup u = some .local → X.env.kindOf u = some .local := fun {u} h => by
    show X.env.scope.names.lookup u = _
    rw [C.hsc]
    exact h
  have kb : (X.env.blockKind != .function) = false := by
    have e : X.env.scope.kind = .function := by rw [C.hsc, hk]
    unfold Env.blockKind
    rw [e]
    rfl
  have e1 : (([.Name x px, .Name y py, .Name z pz] : List Expr).head?.map (·.pos.line)).getD 0 = px.line := rfl
  have sym : ∀ {u v : Str}, (u == v) = false → (v == u) = false := fun {u v} h => by
    cases q : (v == u) with
    | false => rfl
    | true => rw [beq_iff_eq.mp q, beq_self_eq_true] at h; cases h
  unfold swappedStores
  simp only [e1, kb, h2, h3, List.filterMap_cons, List.filterMap_nil, kd lx, kd ly, kd lz, hl, hl2, beq_self_eq_true, Bool.and_self, if_true, List.length_cons, List.length_nil]
  simp [List.eraseDups_cons, hxy, hxz, hyz, sym hxy, sym hxz, sym hyz, List.filter]
/-- one of two names is shared with a block within: they are stored from the left -/
theorem swc2 (C : Cxt X W N sc kk) {x y : Str} {px py pt pt2 : Pos} {kt k2 : Nat} {a b : Expr} (hk : sc.kind = .function) (hc : (sc.names.lookup x == some .local && sc.names.lookup y == some .local) = false) :
    swappedStores [.Tuple [.Name x px, .Name y py] kt pt] (.Tuple [a, b] k2 pt2) X.env = pure none := by
  have kx : X.env.kindOf x = sc.names.lookup x := by
    show X.env.scope.names.lookup x = _
    rw [C.hsc]
  have ky : X.env.kindOf y = sc.names.lookup y := by
    show X.env.scope.names.lookup y = _
    rw [C.hsc]
  have kb : (X.env.blockKind != .function) = false := by
    have e : X.env.scope.kind = .function := by rw [C.hsc, hk]
    unfold Env.blockKind
    rw [e]
    rfl
  unfold swappedStores
  simp only [kb, kx, ky, List.filterMap_cons, List.filterMap_nil, List.length_cons, List.length_nil]
  cases h1 : (sc.names.lookup x == some .local) with
  | false =>
    simp only [Bool.false_and]
    cases (sc.names.lookup y == some .local && py.line == (Option.map (fun x => x.pos.line) [Expr.Name x px, Expr.Name y py].head?).getD 0) <;> repeat' (first | rfl | split)
  | true =>
    have h2 : (sc.names.lookup y == some .local) = false := by rw [h1, Bool.true_and] at hc; exact hc
    simp only [h2, Bool.false_and, Bool.true_and]
    cases (px.line == (Option.map (fun x => x.pos.line) [Expr.Name x px, Expr.Name y py].head?).getD 0) <;> repeat' (first | rfl | split)
end
/-! ### == of a tuple and what it may be -/
theorem eqD_xt {x : D} {ys : List D} {K : D → Prop} : eqD x (.tuple ys) K = (SeqAt.shaped x = true ∧ SeqAt.shaped (.tuple ys) = true ∧ K (.bool (PyData.eqv x (.tuple ys)))) := by cases x <;> rfl
theorem eqD_tx {x : D} {ys : List D} {K : D → Prop} : eqD (.tuple ys) x K = (SeqAt.shaped (.tuple ys) = true ∧ SeqAt.shaped x = true ∧ K (.bool (PyData.eqv (.tuple ys) x))) := by cases x <;> rfl
theorem neD_xt {x : D} {ys : List D} {K : D → Prop} : neD x (.tuple ys) K = (SeqAt.shaped x = true ∧ SeqAt.shaped (.tuple ys) = true ∧ K (.bool (!PyData.eqv x (.tuple ys)))) := by cases x <;> rfl
theorem neD_tx {x : D} {ys : List D} {K : D → Prop} : neD (.tuple ys) x K = (SeqAt.shaped (.tuple ys) = true ∧ SeqAt.shaped x = true ∧ K (.bool (!PyData.eqv (.tuple ys) x))) := by cases x <;> rfl
theorem eqv_pair {p q a b : Int} : PyData.eqv (.tuple [.int p, .int q]) (.tuple [.int a, .int b]) = (decide (p = a) && decide (q = b)) := by
  simp [PyData.eqv, PyData.eqvAll]
  rfl
def isUnit : D → Bool
  | .tuple [] => true
  | _ => false
theorem eqv_unit {x : D} : PyData.eqv x (.tuple []) = isUnit x := by
  cases x with
  | tuple xs => cases xs <;> simp [PyData.eqv, PyData.eqvAll, isUnit]
  | _ => simp [PyData.eqv, isUnit]
theorem eqD_tt {xs ys : List D} {K : D → Prop} : eqD (.tuple xs) (.tuple ys) K = (SeqAt.shaped (.tuple xs) = true ∧ SeqAt.shaped (.tuple ys) = true ∧ K (.bool (PyData.eqv (.tuple xs) (.tuple ys)))) := rfl
theorem neD_tt {xs ys : List D} {K : D → Prop} : neD (.tuple xs) (.tuple ys) K = (SeqAt.shaped (.tuple xs) = true ∧ SeqAt.shaped (.tuple ys) = true ∧ K (.bool (!PyData.eqv (.tuple xs) (.tuple ys)))) := rfl
theorem shaped_pair {p q : Int} : SeqAt.shaped (.tuple [.int p, .int q]) = true := rfl
end DL
/-! DLZip: zip and enumerate over lists, tuples, texts, mixed. -/
namespace DL
open PySem PySem.Spec PyProof.Rows L2
variable [Lams]
/-- what an iterator is drawn from -/
inductive Src where
  | lst (a : Addr)
  | tup (a : Addr)
  | txt (y : Str)
def signsV (y : Str) : List V := y.cps.toList.map fun c => V.str ⟨#[c]⟩
def Src.at (K : PySem.W.Frag) : Src → Hp → List V → Prop
  | .lst a, H, xs => SqL K H a xs
  | .tup a, H, xs => SqT K H a xs
  | .txt y, _, xs => xs = signsV y
def Src.it : Src → Heap → Addr → Nat → Prop
  | .lst a, h, i, k => h.IsListIter i a k
  | .tup a, h, i, k => h.IsTupleIter i a k
  | .txt y, h, i, k => ∃ t, h.IsStrIter i (strIterType y) y t k
def Src.far : Src → Addr → Prop
  | .lst a, b => a ≠ b
  | .tup a, b => a ≠ b
  | .txt _, _ => True
def Src.fp : Src → List Addr
  | .lst a => [a]
  | .tup a => [a]
  | .txt _ => []
theorem Src.far_fp {s : Src} {b : Addr} (h : s.far b) : b ∉ s.fp := by
  cases s with
  | lst a => exact fun q => h (List.mem_singleton.mp q).symm
  | tup a => exact fun q => h (List.mem_singleton.mp q).symm
  | txt y => exact fun q => by cases q
theorem Src.it_at {s : Src} {h h' : Heap} {i : Addr} {k : Nat} (st : s.it h i k) (hk : ∀ o, h.get? i = some o → h'.get? i = some o) : s.it h' i k := by
  cases s with
  | lst a => exact Heap.IsListIter.at st hk
  | tup a => exact Heap.IsTupleIter.at st hk
  | txt y =>
    obtain ⟨t, o, e, r⟩ := st
    exact ⟨t, o, hk o e, r⟩
theorem Src.it_obj {s : Src} {h : Heap} {i : Addr} {k : Nat} (st : s.it h i k) : ∃ o, h.get? i = some o ∧ ∃ fs, o.data = .fields fs := by
  cases s with
  | lst a =>
    obtain ⟨o, e, _, d⟩ := st
    exact ⟨o, e, _, d⟩
  | tup a =>
    obtain ⟨o, e, _, d⟩ := st
    exact ⟨o, e, _, d⟩
  | txt y =>
    obtain ⟨t, o, e, _, d⟩ := st
    exact ⟨o, e, _, d⟩
/-- what a source gives from where its iterator stands -/
structure Srcs (X : Cx) (s : Src) (xs : List V) (i k : Nat) (h : Heap) : Prop where
  ex : ∃ (P : Nat → Value → Prop) (St : Nat → Heap → Prop), Draws X.prog X.w X.A.in1 i (i :: s.fp) xs.length P St ∧ St k h ∧ (∀ j h', St j h' → s.it h' i j) ∧ ∀ j u, P j u → ∃ v, xs[j]? = some v ∧ RelV v u
theorem srcs_of {X : Cx} {pins : List (Addr × Obj)} {σ : L2.St} {H : Hp} {sh : Shared} (hc : X.calm = true) (I : Inv X pins σ H sh) {s : Src} {xs : List V} {i k : Nat} (hq : s.at X.K H xs) (st : s.it sh.heap i k) (hf : s.far i) : Srcs X s xs i k sh.heap := by
  have hh : X.A.in1.handled = none := I.ok.hd hc
  cases s with
  | lst a =>
    obtain ⟨its, r, p, hz⟩ := I.list hq
    have e : its.toArray.size = xs.length := by rw [List.size_toArray]; exact r.length.symm
    have D := Draws.list (prog := X.prog) (w := X.w) hh i a hf its.toArray
    rw [e] at D
    refine ⟨_, _, D, ⟨st, p.isList⟩, fun j h' q => q.1, fun j u hu => ?_⟩
    have hj : j < xs.length := by
      have := (Array.getElem?_eq_some_iff.mp hu).1
      omega
    obtain ⟨u2, h2, r2⟩ := r.get (List.getElem?_eq_getElem hj)
    have : its.toArray[j]? = some u2 := by simpa using h2
    have hu : its.toArray[j]? = some u := hu
    rw [hu] at this
    cases this
    exact ⟨_, List.getElem?_eq_getElem hj, r2⟩
  | tup a =>
    obtain ⟨its, r, p, hz⟩ := I.tuple hq
    have e : its.toArray.size = xs.length := by rw [List.size_toArray]; exact r.length.symm
    have D := Draws.tuple (prog := X.prog) (w := X.w) hh i a hf its.toArray
    rw [e] at D
    refine ⟨_, _, D, ⟨st, p⟩, fun j h' q => q.1, fun j u hu => ?_⟩
    have hj : j < xs.length := by
      have := (Array.getElem?_eq_some_iff.mp hu).1
      omega
    obtain ⟨u2, h2, r2⟩ := r.get (List.getElem?_eq_getElem hj)
    have : its.toArray[j]? = some u2 := by simpa using h2
    have hu : its.toArray[j]? = some u := hu
    rw [hu] at this
    cases this
    exact ⟨_, List.getElem?_eq_getElem hj, r2⟩
  | txt y =>
    have hq : xs = signsV y := hq
    subst hq
    obtain ⟨t, st⟩ := st
    have e : y.cps.size = (signsV y).length := by unfold signsV; simp
    have D := Draws.text (prog := X.prog) (w := X.w) hh i y t
    rw [e] at D
    refine ⟨_, _, D, st, fun j h' q => ⟨t, q⟩, fun j u hu => ?_⟩
    obtain ⟨c, tk, hc, rfl⟩ := hu
    refine ⟨.str ⟨#[c]⟩, ?_, ⟨tk, rfl⟩⟩
    unfold signsV
    rw [List.getElem?_map, Array.getElem?_toList, hc]
    rfl
theorem at_inj {X : Cx} {pins : List (Addr × Obj)} {σ : L2.St} {H : Hp} {sh : Shared} (I : Inv X pins σ H sh) {s : Src} {xs ys : List V} (h : s.at X.K H xs) (k : s.at X.K H ys) : xs = ys := by
  cases s with
  | lst a => exact I.list_inj h k
  | tup a => exact I.tuple_inj h k
  | txt y => exact (show xs = signsV y from h).trans (show ys = signsV y from k).symm
/-! ### zip -/
def ItzG (K : PySem.W.Frag) (s1 s2 : Src) : It :=
  ⟨fun i H => ∃ (xs ys : List V) (x y : V), s1.at K H xs ∧ s2.at K H ys ∧ xs[i]? = some x ∧ ys[i]? = some y,
    fun i H v H' => ∃ T x y, v = .ref T ∧ H T = none ∧ H' = upd H T (.tup [x, y]) ∧ (∀ xs, s1.at K H xs → xs[i]? = some x) ∧ ∀ ys, s2.at K H ys → ys[i]? = some y,
    fun i H => ∃ xs ys : List V, s1.at K H xs ∧ s2.at K H ys ∧ i ≤ xs.length ∧ i ≤ ys.length ∧ (i = xs.length ∨ i = ys.length)⟩
structure ApG (z TI TO i1 i2 : Addr) (s1 s2 : Src) : Prop where
  TIz : TI ≠ z
  TOz : TO ≠ z
  TITO : TI ≠ TO
  TIi1 : TI ≠ i1
  TIi2 : TI ≠ i2
  zi1 : z ≠ i1
  zi2 : z ≠ i2
  Ti1 : TO ≠ i1
  Ti2 : TO ≠ i2
  i12 : i1 ≠ i2
  f1 : ∀ b, b = z ∨ b = TO ∨ b = i1 ∨ b = i2 → s1.far b
  f2 : ∀ b, b = z ∨ b = TO ∨ b = i1 ∨ b = i2 → s2.far b
theorem ApG.sep {z TI TO i1 i2 : Addr} {s1 s2 : Src} (D : ApG z TI TO i1 i2 s1 s2) : ZipSep2 z TI TO i1 i2 (i1 :: s1.fp) (i2 :: s2.fp) where
  TIz := D.TIz
  TOz := D.TOz
  TITO := D.TITO
  TIi1 := D.TIi1
  mem1 := List.mem_cons_self
  zf1 := fun q => (List.mem_cons.mp q).elim D.zi1 (Src.far_fp (D.f1 _ (.inl rfl)))
  Tf1 := fun q => (List.mem_cons.mp q).elim D.Ti1 (Src.far_fp (D.f1 _ (.inr (.inl rfl))))
  TIi2 := D.TIi2
  mem2 := List.mem_cons_self
  zf2 := fun q => (List.mem_cons.mp q).elim D.zi2 (Src.far_fp (D.f2 _ (.inl rfl)))
  Tf2 := fun q => (List.mem_cons.mp q).elim D.Ti2 (Src.far_fp (D.f2 _ (.inr (.inl rfl))))
  sep1_2 := fun q => (List.mem_cons.mp q).elim D.i12 (Src.far_fp (D.f2 _ (.inr (.inr (.inl rfl)))))
  sep2_1 := fun q => (List.mem_cons.mp q).elim D.i12.symm (Src.far_fp (D.f1 _ (.inr (.inr (.inr rfl)))))
theorem turn_zipG {P : Program} {w : World} {K : PySem.W.Frag} {elts : List Expr} {kk : Nat} {tpos : Pos} {s1 s2 : Src} {z TI TO i1 i2 : Addr} (D : ApG z TI TO i1 i2 s1 s2) :
    Turn P w K (.Tuple elts kk tpos) (ItzG K s1 s2) [z, TI, TO, i1, i2] z (fun i h => IsZip h z TI TO .none ∧ IsTupOf2 h TI (.ref i1) (.ref i2) ∧ (∃ x y, IsTupOf2 h TO x y) ∧ s1.it h i1 i ∧ s2.it h i2 i) where
  mem := by simp
  obj := fun i h st c hc => by
    obtain ⟨hz, hTI, ⟨x, y, hTO⟩, h1, h2⟩ := st
    obtain ⟨o1, e1, fs1, d1⟩ := (Src.it_obj h1)
    obtain ⟨o2, e2, fs2, d2⟩ := (Src.it_obj h2)
    have e' : c = z ∨ c = TI ∨ c = TO ∨ c = i1 ∨ c = i2 := by simpa using hc
    rcases e' with q | q | q | q | q
    · rw [q]; exact ⟨_, hz, fun v q => nomatch q⟩
    · rw [q]; exact ⟨_, hTI, fun v q => nomatch q⟩
    · rw [q]; exact ⟨_, hTO, fun v q => nomatch q⟩
    · rw [q]; exact ⟨o1, e1, fun v q => by rw [d1] at q; cases q⟩
    · rw [q]; exact ⟨o2, e2, fun v q => by rw [d2] at q; cases q⟩
  keep := fun i h h' st k => by
    obtain ⟨hz, hTI, ⟨x, y, hTO⟩, h1, h2⟩ := st
    exact ⟨k z (by simp) _ hz, k TI (by simp) _ hTI, ⟨x, y, k TO (by simp) _ hTO⟩, Src.it_at h1 fun o q => k i1 (by simp) o q, Src.it_at h2 fun o q => k i2 (by simp) o q⟩
  item := by
    intro X hP hw hK hc i pins s σ H E I hf st hg
    subst hP hw hK
    obtain ⟨hz, hTI, ⟨x0, y0, hTO⟩, h1, h2⟩ := st
    obtain ⟨xs, ys, x, y, hqx, hqy, hx, hy⟩ := hg
    obtain ⟨P1, St1, D1, st1, back1, rel1⟩ := (srcs_of hc I hqx h1 (D.f1 _ (.inr (.inr (.inl rfl))))).ex
    obtain ⟨P2, St2, D2, st2, back2, rel2⟩ := (srcs_of hc I hqy h2 (D.f2 _ (.inr (.inr (.inr rfl))))).ex
    have hzl : z < s.heap.objs.size := Heap.lt_size hz
    have lx := (List.getElem?_eq_some_iff.mp hx).1
    have ly := (List.getElem?_eq_some_iff.mp hy).1
    refine wpAny_pyNext_zipD2_item D.sep D1 D2 hz hTI hTO st1 st2 lx ly fun u u2 h' tk p1 p2 z' TO' st1' st2' hT hsz hk => ?_
    obtain ⟨x', hx', ru⟩ := rel1 i u p1
    obtain ⟨y', hy', ru2⟩ := rel2 i u2 p2
    rw [hx] at hx'
    cases hx'
    rw [hy] at hy'
    cases hy'
    refine ⟨_, rfl, wpAny_letOwnedTupleGo_zip (s := { s with heap := h', toks := tk }) z' fun h'' z'' sb => ?_⟩
    have hT2 : h''.get? s.heap.objs.size = some { cls := .type "tuple", data := .seq #[u, u2] } := (sb.2 _ (Nat.ne_of_gt hzl)).trans hT
    have new : ObjOk X.prog X.w (upd H s.heap.objs.size (.tup [x, y])) h'' s.heap.objs.size (.tup [x, y]) :=
      ⟨by show 2 ≤ sizeLine; decide, [u, u2], .cons ru (.cons ru2 .nil), ⟨_, hT2, rfl, _, rfl⟩⟩
    have I1 : Inv X pins σ (upd H s.heap.objs.size (.tup [x, y])) { s with heap := h'', toks := tk } :=
      I.turnedNew (t' := tk) (ch := [z, TI, TO, i1, i2]) (fun c o hb q => (sb.2 c (fun q' => hb (by simp [q']))).trans (hk c o (fun q' => hb (by simp [q'])) (fun q' => hb (by simp [q'])) (fun q' => hb (by simp [q'])) (fun q' => hb (by simp [q'])) q)) hf (Nat.le_refl _) new
    refine ⟨.ref s.heap.objs.size, _, I1, rfl, ⟨_, x, y, rfl, I.hok.fresh (Nat.le_refl _), rfl, fun l hl => by rw [at_inj I hl hqx]; exact hx, fun l hl => by rw [at_inj I hl hqy]; exact hy⟩, ⟨z'', ?_, ⟨u, u2, ?_⟩, ?_, ?_⟩, fun c hcm => ?_⟩
    · exact (sb.2 _ D.TIz).trans (hk _ _ D.TIz D.TITO D.TIi1 D.TIi2 hTI)
    · exact (sb.2 _ D.TOz).trans TO'
    · exact Src.it_at (back1 _ _ st1') fun o q => (sb.2 _ D.zi1.symm).trans q
    · exact Src.it_at (back2 _ _ st2') fun o q => (sb.2 _ D.zi2.symm).trans q
    · have hlt : c < s.heap.objs.size := by
        have e' : c = z ∨ c = TI ∨ c = TO ∨ c = i1 ∨ c = i2 := by simpa using hcm
        rcases e' with q | q | q | q | q
        · rw [q]; exact hzl
        · rw [q]; exact Heap.lt_size hTI
        · rw [q]; exact Heap.lt_size hTO
        · rw [q]; obtain ⟨_, e1, _⟩ := (Src.it_obj h1); exact Heap.lt_size e1
        · rw [q]; obtain ⟨_, e2, _⟩ := (Src.it_obj h2); exact Heap.lt_size e2
      rw [upd_ne (Nat.ne_of_lt hlt)]
      exact (hf c hcm).1
  done := by
    intro X hP hw hK hc i pins s σ H E I hf st hg
    subst hP hw hK
    obtain ⟨hz, hTI, ⟨x0, y0, hTO⟩, h1, h2⟩ := st
    obtain ⟨xs, ys, hqx, hqy, l1, l2, hend⟩ := hg
    obtain ⟨P1, St1, D1, st1, back1, rel1⟩ := (srcs_of hc I hqx h1 (D.f1 _ (.inr (.inr (.inl rfl))))).ex
    obtain ⟨P2, St2, D2, st2, back2, rel2⟩ := (srcs_of hc I hqy h2 (D.f2 _ (.inr (.inr (.inr rfl))))).ex
    exact wpAny_pyNext_zipD2_end D.sep D1 D2 hz hTI hTO st1 st2 l1 l2 hend fun h' tk hk => ⟨rfl, I.turnedL (t' := tk) (ch := [z, TI, TO, i1, i2]) (fun c o hb q =>
      hk c o (fun q' => hb (by simp [q'])) (fun q' => hb (by simp [q'])) (fun q' => hb (by simp [q'])) (fun q' => hb (by simp [q'])) q) hf⟩
  self := fun A i s Q E st h => wpAny_pyIter_zip st.1 h
def Src.is : Src → V → Prop
  | .lst a, v => v = .ref a
  | .tup a, v => v = .ref a
  | .txt y, v => v = .str y
structure Beg (s : Src) (u : Value) (h : Heap) : Prop where
  ex : ∃ (o : Obj) (Hb : Heap → Prop), Begins u o Hb ∧ Hb h ∧ (∀ h' i, h'.get? i = some o → s.it h' i 0) ∧ ∀ b, h.objs.size ≤ b → s.far b
theorem beg_of {X : Cx} {pins : List (Addr × Obj)} {σ : L2.St} {H : Hp} {sh : Shared} (I : Inv X pins σ H sh) {s : Src} {x : V} {u : Value} {xs : List V} (hs : s.is x) (hq : s.at X.K H xs) (r : RelV x u) : Beg s u sh.heap := by
  cases s with
  | lst a =>
    have hs : x = .ref a := hs
    subst hs
    cases r
    obtain ⟨its, rv, p, hz⟩ := I.list hq
    exact ⟨_, _, begins_list a its.toArray, p.isList, fun h' i e => ⟨_, e, rfl, rfl⟩, fun b hb => Nat.ne_of_lt (Nat.lt_of_lt_of_le p.lt hb)⟩
  | tup a =>
    have hs : x = .ref a := hs
    subst hs
    cases r
    obtain ⟨its, rv, p, hz⟩ := I.tuple hq
    obtain ⟨o, ho, _⟩ := id p
    exact ⟨_, _, begins_tuple a its.toArray, p, fun h' i e => ⟨_, e, rfl, rfl⟩, fun b hb => Nat.ne_of_lt (Nat.lt_of_lt_of_le (Heap.lt_size ho) hb)⟩
  | txt y =>
    have hs : x = .str y := hs
    subst hs
    obtain ⟨t, rfl⟩ := r
    exact ⟨_, _, begins_text y t, trivial, fun h' i e => ⟨t, _, e, rfl, rfl⟩, fun b hb => trivial⟩
def iZipG (K : PySem.W.Frag) (ta : TA) : TI := fun σ H R => ta σ H fun vs H1 => ∃ s1 s2 x y xs ys, vs = [x, y] ∧ Src.is s1 x ∧ Src.is s2 y ∧ s1.at K H1 xs ∧ s2.at K H1 ys ∧ R (ItzG K s1 s2) H1
theorem pi_zipG {X : Cx} {e e2 : Expr} {ta : TA} {p pos tpos : Pos} {elts : List Expr} {kk : Nat} (hg : Gl X "zip") (hm : X.mg "zip" = none) (ha : PA X [e, e2] ta)
    (hs : starEach [e, e2] X.env = (false, eval e X.env) :: starEach [e2] X.env := by rfl) (hpl : (backTo pos (starEach [e2] X.env)).any (·.1) = false := by rfl) :
    PI X (.Tuple elts kk tpos) (.Call (.Name "zip" p) [e, e2] [] pos) (iZipG X.K ta) := by
  refine ⟨fun pins s σ H R I h => ?_⟩
  refine Call_ (ld_blt I hg hm PyProof.Rows.boot_zip (PyProof.Rows.callWith_type1 (thn (ha.run pos pins s σ H _ I h) fun us s1 ⟨vs, H1, I1, r1, q1⟩ => ?_) hs hpl))
  obtain ⟨c1, c2, x, y, xs, ys, ex, hx, hy, hqx, hqy, q⟩ := q1
  subst ex
  cases r1 with
  | cons r rr =>
    cases rr with
    | cons r' rr =>
      cases rr
      have fresh5 : ∀ c, c ∈ [s1.heap.objs.size + 4, s1.heap.objs.size + 2, s1.heap.objs.size + 3, s1.heap.objs.size, s1.heap.objs.size + 1] → FpOk X pins H1 c := fun c hcm => by
        have e' : c = s1.heap.objs.size + 4 ∨ c = s1.heap.objs.size + 2 ∨ c = s1.heap.objs.size + 3 ∨ c = s1.heap.objs.size ∨ c = s1.heap.objs.size + 1 := by simpa using hcm
        have hle : s1.heap.objs.size ≤ c := by
          rcases e' with z | z | z | z | z
          · rw [z]; exact Nat.le_add_right _ _
          · rw [z]; exact Nat.le_add_right _ _
          · rw [z]; exact Nat.le_add_right _ _
          · rw [z]; exact Nat.le_refl _
          · rw [z]; exact Nat.le_add_right _ _
        exact I1.fpOk hle (I1.hok.fresh hle)
      obtain ⟨o1, Hb1, B1, hb1, it1, far1⟩ := (beg_of I1 hx hqx r).ex
      obtain ⟨o2, Hb2, B2, hb2, it2, far2⟩ := (beg_of I1 hy hqy r').ex
      refine zip_begins2 B1 B2 hb1 hb2 fun h' hz hTI hTO h1 h2 hsz hk => wpAny_pyIter_zip hz ?_
      have I2 : Inv X pins σ H1 { s1 with heap := h' } := I1.kept (t' := s1.toks) hk
      have ne : ∀ {a b : Nat}, a ≠ b → (s1.heap.objs.size + a : Addr) ≠ s1.heap.objs.size + b := fun h z => h (Nat.add_left_cancel z)
      have ap : ApG (s1.heap.objs.size + 4) (s1.heap.objs.size + 2) (s1.heap.objs.size + 3) s1.heap.objs.size (s1.heap.objs.size + 1) c1 c2 := by
        refine ⟨ne (by decide), ne (by decide), ne (by decide), ne (b := 0) (by decide), ne (by decide), ne (b := 0) (by decide), ne (by decide), ne (b := 0) (by decide), ne (by decide), ne (a := 0) (by decide), fun b hb => far1 b ?_, fun b hb => far2 b ?_⟩
        · rcases hb with q | q | q | q
          · rw [q]; exact Nat.le_add_right _ _
          · rw [q]; exact Nat.le_add_right _ _
          · rw [q]; exact Nat.le_refl _
          · rw [q]; exact Nat.le_add_right _ _
        · rcases hb with q | q | q | q
          · rw [q]; exact Nat.le_add_right _ _
          · rw [q]; exact Nat.le_add_right _ _
          · rw [q]; exact Nat.le_refl _
          · rw [q]; exact Nat.le_add_right _ _
      exact ⟨s1.heap.objs.size + 4, [s1.heap.objs.size + 4, s1.heap.objs.size + 2, s1.heap.objs.size + 3, s1.heap.objs.size, s1.heap.objs.size + 1], _, _, H1, rfl, I2, turn_zipG ap, ⟨hz, hTI, ⟨_, _, hTO⟩, it1 _ _ h1, it2 _ _ h2⟩, fresh5, q⟩
/-! ### the same over data -/
def seqL : D → Option (List D)
  | .list xs => some xs
  | .tuple xs => some xs
  | .str s => some (signs s)
  | _ => none
theorem sign_reps {K : PySem.W.Frag} {A : Addr → Prop} {H : Hp} : ∀ (l : List Nat), RepAll K A H (l.map fun c => V.str ⟨#[c]⟩) (l.map fun c => PyData.str ⟨#[c]⟩)
  | [] => .nil
  | c :: l => .cons (.str _ (one_sign c)) (sign_reps l)
theorem src_rep {K : PySem.W.Frag} {A : Addr → Prop} {H0 : Hp} {v : V} {d : D} {xs : List D} (r : Rep K A H0 v d) (h : seqL d = some xs) : ∃ s : Src, s.is v ∧ xs.length ≤ sizeLine ∧ ∀ H A', Kp A A' H0 H → ∃ vs, s.at K H vs ∧ RepAll K A' H vs xs := by
  cases r with
  | lst e n z r =>
    cases h
    exact ⟨.lst _, rfl, z, fun H A' kp => ⟨_, .inl (.inl (kp _ _ e n).1), r.map kp⟩⟩
  | tup s z r =>
    cases h
    exact ⟨.tup _, rfl, z, fun H A' kp => ⟨_, s.elim (fun q => .inl (kp.rd q.1 q.2).1) KT.sq, r.map kp⟩⟩
  | str y z =>
    cases h
    have hl : (signs y).length = y.cps.size := by unfold signs; simp
    exact ⟨.txt y, rfl, by rw [hl]; exact z, fun H A' kp => ⟨_, rfl, sign_reps _⟩⟩
  | _ => cases h
def pairsD (xs ys : List D) : List D := List.zipWith (fun a b => PyData.tuple [a, b]) xs ys
def gZip (ga gb : TDE) : TDL := fun Δ K => ga Δ fun d => gb Δ fun e => match seqL d, seqL e with
  | some xs, some ys => K (pairsD xs ys)
  | _, _ => False
theorem two_line : 2 ≤ sizeLine := by rw [sizeLine_eq]; decide
theorem seqs_zip {K : PySem.W.Frag} {A : Addr → Prop} {H0 : Hp} {s1 s2 : Src} {xs ys : List D} (z1 : xs.length ≤ sizeLine) (h1 : ∀ H A', Kp A A' H0 H → ∃ vs, s1.at K H vs ∧ RepAll K A' H vs xs) (h2 : ∀ H A', Kp A A' H0 H → ∃ vs, s2.at K H vs ∧ RepAll K A' H vs ys) : Seqs K A (fun _ => False) (ItzG K s1 s2) (pairsD xs ys) H0 := by
  have hl : (pairsD xs ys).length = min xs.length ys.length := by unfold pairsD; simp
  refine ⟨by omega, fun i d H A' hd kp _ dm => ?_, fun H A' kp _ => ?_⟩
  · obtain ⟨vs, q1, r1⟩ := h1 H A' kp
    obtain ⟨ws, q2, r2⟩ := h2 H A' kp
    have hi : i < min xs.length ys.length := by
      have := (List.getElem?_eq_some_iff.mp hd).1
      omega
    have hx : xs[i]? = some xs[i] := List.getElem?_eq_getElem (by omega)
    have hy : ys[i]? = some ys[i] := List.getElem?_eq_getElem (by omega)
    have e : d = .tuple [xs[i], ys[i]] := by
      unfold pairsD at hd
      rw [List.getElem?_zipWith, hx, hy] at hd
      cases hd
      rfl
    obtain ⟨v, hv, rv⟩ := r1.getD hx
    obtain ⟨w, hw, rw'⟩ := r2.getD hy
    refine ⟨⟨vs, ws, v, w, q1, q2, hv, hw⟩, fun u H' hyld => ?_⟩
    obtain ⟨T, x, y, rfl, hT, rfl, f1, f2⟩ := hyld
    have ex := f1 vs q1
    have ey := f2 ws q2
    rw [hv] at ex
    rw [hw] at ey
    cases ex
    cases ey
    refine ⟨ext_laid hT, ?_⟩
    rw [e]
    exact .tup (.inl ⟨.inl upd_same, fun q => dm T q hT⟩) two_line (.cons (rv.map (kp_laid hT)) (.cons (rw'.map (kp_laid hT)) .nil))
  · obtain ⟨vs, q1, r1⟩ := h1 H A' kp
    obtain ⟨ws, q2, r2⟩ := h2 H A' kp
    have l1 := r1.length
    have l2 := r2.length
    exact ⟨vs, ws, q1, q2, by omega, by omega, by omega⟩
/-! ### enumerate -/
set_option maxHeartbeats 4000000 in
theorem meets_enum1 {v : Value} {o : Obj} {H : Heap → Prop} (B : Begins v o H) :
    Meets (Builtin.«enumerate.__new__» ⟨[.type "enumerate", v], []⟩) (fun _ R s => H s.heap ∧
      R (.ok (.ret (.ref (s.heap.push o).objs.size))) { s with heap := (s.heap.push o).push { cls := .type "enumerate", data := .fields #[.none, .bool false, .ref s.heap.objs.size, rawInt 0, .none, .none] } }) :=
  .of_wp fun prog w A R s h => by
    obtain ⟨hp, g, d, tk, os⟩ := s; obtain ⟨h1, h⟩ := h
    have hsub := sub_enumerate
    have q1 : ∀ {A' : Around} {E : Value → Shared → Prop} {Q : Value → Shared → Prop}, Q (.ref hp.objs.size) ⟨hp.push o, g, d, tk, os⟩ → wpAny (model prog w) A' (pyIter v) Q E ⟨hp, g, d, tk, os⟩ :=
      fun q => B.iter prog w _ _ ⟨hp, g, d, tk, os⟩ _ h1 q
    wp_walk using q1
    refine wpAny_stack_any fun st => wpAny_pure ?_
    split
    · rename_i c _ _ _ _ _
      cases (c == Value.type "enumerate")
      · wp_walk using q1
        exact ⟨_, rfl, h⟩
      · wp_walk using q1
        exact ⟨_, rfl, h⟩
    · wp_walk using q1
      exact ⟨_, rfl, h⟩
section
variable {prog : Program} {w : World} {A : Around} {E : Value → Shared → Prop} {s : Shared}
theorem enum_begins1 {v : Value} {o : Obj} {H : Heap → Prop} {Q : Value → Shared → Prop} (B : Begins v o H) (h1 : H s.heap)
    (h : ∀ h', IsEnum h' (s.heap.objs.size + 1) s.heap.objs.size 0 .none → h'.get? s.heap.objs.size = some o → h'.objs.size = s.heap.objs.size + 2 →
      (∀ b o, s.heap.get? b = some o → h'.get? b = some o) → Q (.ref (s.heap.objs.size + 1)) { s with heap := h' }) :
    wpAny (model prog w) A (call (.type "enumerate") [v]) Q E s := by
  refine callType_new F.called_enumerate (by decide) (F.typeCall_enumerate_1 _) (F.newCall_enumerate_1 _) (fun obj => F.args_object_init_2 obj _) F.entry_enumerate_new
    (meets_enum1 B) ⟨h1, ?_⟩
  have hz : (s.heap.push o).objs.size = s.heap.objs.size + 1 := Heap.size_push ..
  show _ ∧ _
  rw [hz]
  have he : IsEnum ((s.heap.push o).push { cls := .type "enumerate", data := .fields #[.none, .bool false, .ref s.heap.objs.size, rawInt 0, .none, .none] }) (s.heap.objs.size + 1) s.heap.objs.size 0 .none := by
    have := Heap.get?_push_size (s.heap.push o) (o := { cls := .type "enumerate", data := .fields #[.none, .bool false, .ref s.heap.objs.size, rawInt 0, .none, .none] }) rfl
    rw [hz] at this; exact this
  refine ⟨⟨_, he, rfl⟩, h _ he (Heap.get?_push_of_some _ (Heap.get?_push_size _ B.free)) (by rw [Heap.size_push, hz]) fun b o x => Heap.get?_push_of_some _ (Heap.get?_push_of_some _ x)⟩
end
def IteG (K : PySem.W.Frag) (s1 : Src) : It :=
  ⟨fun i H => ∃ (xs : List V) (x : V), s1.at K H xs ∧ xs[i]? = some x, fun i H v H' => ∃ T x, v = .ref T ∧ H T = none ∧ H' = upd H T (.tup [.int (i : Nat), x]) ∧ ∀ xs, s1.at K H xs → xs[i]? = some x, fun i H => ∃ xs : List V, s1.at K H xs ∧ i = xs.length⟩
theorem turn_enumG {P : Program} {w : World} {K : PySem.W.Frag} {elts : List Expr} {kk : Nat} {tpos : Pos} {s1 : Src} {e it : Addr} (hne : e ≠ it) (fe : s1.far e) (fi : s1.far it) :
    Turn P w K (.Tuple elts kk tpos) (IteG K s1) [e, it] e (fun i h => (∃ old, IsEnum h e it ((i : Nat) : Int) old) ∧ s1.it h it i) where
  mem := by simp
  obj := fun i h st b hb => by
    obtain ⟨⟨old, he⟩, hi⟩ := st
    obtain ⟨o, ho, fs, hd⟩ := Src.it_obj hi
    have e' : b = e ∨ b = it := by simpa using hb
    rcases e' with z | z
    · rw [z]; exact ⟨_, he, fun v q => nomatch q⟩
    · rw [z]; exact ⟨o, ho, fun v q => by rw [hd] at q; cases q⟩
  keep := fun i h h' st k => let ⟨⟨old, he⟩, hi⟩ := st; ⟨⟨old, k e (by simp) _ he⟩, Src.it_at hi fun o q => k it (by simp) o q⟩
  item := by
    intro X hP hw hK hc i pins s σ H E I hf st hg
    subst hP hw hK
    obtain ⟨⟨old, he⟩, hit⟩ := st
    obtain ⟨xs, x, hq, hx⟩ := hg
    obtain ⟨P1, St1, D1, st1, back1, rel1⟩ := (srcs_of hc I hq hit fi).ex
    have hel : e < s.heap.objs.size := Heap.lt_size he
    have hil : it < s.heap.objs.size := by obtain ⟨_, q, _⟩ := Src.it_obj hit; exact Heap.lt_size q
    have lx := (List.getElem?_eq_some_iff.mp hx).1
    refine wpAny_pyNext_enum_itemD D1 he st1 lx hne (fun q => (List.mem_cons.mp q).elim hne (Src.far_fp fe)) fun u h' tk p1 ho st1' hT hsz hk => ?_
    obtain ⟨x', hx', ru⟩ := rel1 i u p1
    rw [hx] at hx'
    cases hx'
    refine ⟨_, rfl, wpAny_letOwnedTupleGo_enum (s := { s with heap := h', toks := tk + 1 }) ho fun h'' he' sb => ?_⟩
    have hT2 : h''.get? s.heap.objs.size = some { cls := .type "tuple", data := .seq #[.int i tk, u] } := (sb.2 _ (Nat.ne_of_gt hel)).trans hT
    have new : ObjOk X.prog X.w (upd H s.heap.objs.size (.tup [.int (i : Nat), x])) h'' s.heap.objs.size (.tup [.int (i : Nat), x]) :=
      ⟨by show 2 ≤ sizeLine; decide, [.int i tk, u], .cons ⟨_, rfl⟩ (.cons ru .nil), ⟨_, hT2, rfl, _, rfl⟩⟩
    have I1 : Inv X pins σ (upd H s.heap.objs.size (.tup [.int (i : Nat), x])) { s with heap := h'', toks := tk + 1 } :=
      I.turnedNew (ch := [e, it]) (fun b ob hb q => (sb.2 b (fun z => hb (by simp [z]))).trans (hk b ob (fun z => hb (by simp [z])) (fun z => hb (by simp [z])) q)) hf (Nat.le_refl _) new
    refine ⟨.ref s.heap.objs.size, _, I1, rfl, ⟨_, x, rfl, I.hok.fresh (Nat.le_refl _), rfl, fun ys hy => by rw [at_inj I hy hq]; exact hx⟩, ⟨⟨u, ?_⟩, Src.it_at (back1 _ _ st1') fun o q => (sb.2 it (Ne.symm hne)).trans q⟩, fun b hb => ?_⟩
    · have e1 : ((i + 1 : Nat) : Int) = (i : Int) + 1 := by omega
      rw [e1]; exact he'
    · have hb' : b < s.heap.objs.size := by
        have e' : b = e ∨ b = it := by simpa using hb
        rcases e' with z | z
        · rw [z]; exact hel
        · rw [z]; exact hil
      rw [upd_ne (Nat.ne_of_lt hb')]
      exact (hf b hb).1
  done := by
    intro X hP hw hK hc i pins s σ H E I hf st hg
    subst hP hw hK
    obtain ⟨⟨old, he⟩, hit⟩ := st
    obtain ⟨xs, hq, hx⟩ := hg
    obtain ⟨P1, St1, D1, st1, back1, rel1⟩ := (srcs_of hc I hq hit fi).ex
    obtain ⟨f0, f1, f2, f3, f4, f5⟩ := hf it (by simp)
    exact wpAny_pyNext_enum_endD D1 he (by rw [← hx]; exact st1) fun h' eb => ⟨rfl, I.turned (t' := s.toks) (fun b o hb q => eb b o hb q) f0 f1 f3 f4 f5⟩
  self := fun A i s Q E st h => let ⟨⟨_, he⟩, _⟩ := st; wpAny_pyIter_enum he h
def iEnumG (K : PySem.W.Frag) (ta : TA) : TI := fun σ H R => ta σ H fun vs H1 => ∃ s1 x xs, vs = [x] ∧ Src.is s1 x ∧ s1.at K H1 xs ∧ R (IteG K s1) H1
theorem pi_enumG {X : Cx} {e : Expr} {ta : TA} {p pos tpos : Pos} {elts : List Expr} {kk : Nat} (hg : Gl X "enumerate") (hm : X.mg "enumerate" = none) (ha : PA X [e] ta) (hs : starEach [e] X.env = [(false, eval e X.env)] := by rfl) :
    PI X (.Tuple elts kk tpos) (.Call (.Name "enumerate" p) [e] [] pos) (iEnumG X.K ta) := by
  refine ⟨fun pins s σ H R I h => ?_⟩
  refine Call_ (ld_blt I hg hm boot_enumerate (PyProof.Rows.callWith_type1 (thn (ha.run pos pins s σ H _ I h) fun us s1 ⟨vs, H1, I1, r1, q1⟩ => ?_) hs rfl))
  obtain ⟨c1, x, xs, ex, hx, hq, q⟩ := q1
  subst ex
  cases r1 with
  | cons r rr =>
    cases rr
    obtain ⟨o1, Hb1, B1, hb1, it1, far1⟩ := (beg_of I1 hx hq r).ex
    refine enum_begins1 B1 hb1 fun h' he hit hsz hk => wpAny_pyIter_enum he ?_
    have I2 : Inv X pins σ H1 { s1 with heap := h' } := I1.kept (t' := s1.toks) hk
    refine ⟨s1.heap.objs.size + 1, [s1.heap.objs.size + 1, s1.heap.objs.size], _, _, H1, rfl, I2, turn_enumG (Nat.succ_ne_self _) (far1 _ (Nat.le_add_right _ _)) (far1 _ (Nat.le_refl _)), ⟨⟨.none, he⟩, it1 _ _ hit⟩, fun b hb => ?_, q⟩
    have e' : b = s1.heap.objs.size + 1 ∨ b = s1.heap.objs.size := by simpa using hb
    have hle : s1.heap.objs.size ≤ b := by
      rcases e' with z | z
      · rw [z]; exact Nat.le_add_right _ _
      · rw [z]; exact Nat.le_refl _
    exact I1.fpOk hle (I1.hok.fresh hle)
def numD (xs : List D) : List D := xs.zipIdx.map fun p => PyData.tuple [.int (p.2 : Nat), p.1]
def gEnum (ga : TDE) : TDL := fun Δ K => ga Δ fun d => match seqL d with
  | some xs => K (numD xs)
  | none => False
theorem seqs_enum {K : PySem.W.Frag} {A : Addr → Prop} {H0 : Hp} {s1 : Src} {xs : List D} (z1 : xs.length ≤ sizeLine) (h1 : ∀ H A', Kp A A' H0 H → ∃ vs, s1.at K H vs ∧ RepAll K A' H vs xs) : Seqs K A (fun _ => False) (IteG K s1) (numD xs) H0 := by
  have hl : (numD xs).length = xs.length := by unfold numD; simp
  refine ⟨by omega, fun i d H A' hd kp _ dm => ?_, fun H A' kp _ => ?_⟩
  · obtain ⟨vs, q1, r1⟩ := h1 H A' kp
    have hi : i < xs.length := by
      have := (List.getElem?_eq_some_iff.mp hd).1
      omega
    have hx : xs[i]? = some xs[i] := List.getElem?_eq_getElem (by omega)
    have e : d = .tuple [.int (i : Nat), xs[i]] := by
      unfold numD at hd
      rw [List.getElem?_map, List.getElem?_zipIdx, hx] at hd
      simp at hd
      exact hd.symm
    obtain ⟨v, hv, rv⟩ := r1.getD hx
    refine ⟨⟨vs, v, q1, hv⟩, fun u H' hyld => ?_⟩
    obtain ⟨T, x, rfl, hT, rfl, f1⟩ := hyld
    have ex := f1 vs q1
    rw [hv] at ex
    cases ex
    refine ⟨ext_laid hT, ?_⟩
    rw [e]
    exact .tup (.inl ⟨.inl upd_same, fun q => dm T q hT⟩) two_line (.cons (.int _) (.cons (rv.map (kp_laid hT)) .nil))
  · obtain ⟨vs, q1, r1⟩ := h1 H A' kp
    have l1 := r1.length
    exact ⟨vs, q1, by omega⟩
section
variable {X : Cx} {W : Wd} {N : List Str} {sc : Scope} {kk : Nat} {e a b : Expr} {c ca cb : Nat} {g ga gb : TDE} {pos p tpos : Pos} {elts : List Expr} {kt : Nat}
theorem di_zip (C : Cxt X W N sc kk) (hg : sc.names.lookup ("zip" : Str) = some .globalImplicit) (hm : X.mg ("zip" : Str) = none) (ha : DE X W a ga ca) (hb : DE X W b gb cb)
    (hs : starEach [a, b] X.env = (false, eval a X.env) :: starEach [b] X.env := by rfl) (hs2 : starEach [b] X.env = (false, eval b X.env) :: starEach [] X.env := by rfl) (hpl : (backTo pos (starEach [b] X.env)).any (·.1) = false := by rfl) :
    DI X W (.Tuple elts kt tpos) (.Call (.Name "zip" p) [a, b] [] pos) (gZip ga gb) (ca + cb) :=
  pi_imp (pi_zipG (C.gl hg) hm (pa_cons ha (pa_cons hb pa_nil hs2) hs) hs hpl) fun σ H R ⟨k, Δ, K, h1, h2, h3, h4⟩ => ⟨k, Δ, _, by omega, h2, h3, fun d v H1 q1 c1 r1 => ⟨k + ca, Δ, _, by omega, h2.chg C.ok c1, q1, fun e w H2 q2 c2 r2 => by
    cases e1 : seqL d with
    | none =>
      rw [e1] at q2
      exact (show False from q2).elim
    | some xs =>
      cases e2 : seqL e with
      | none =>
        rw [e1, e2] at q2
        exact (show False from q2).elim
      | some ys =>
        rw [e1, e2] at q2
        have q2 : K (pairsD xs ys) := q2
        obtain ⟨s1, i1, z1, f1⟩ := src_rep (r1.map (c2.kpE C.ok)) e1
        obtain ⟨s2, i2, z2, f2⟩ := src_rep r2 e2
        obtain ⟨vs, t1, _⟩ := f1 H2 _ Kp.refl
        obtain ⟨ws, t2, _⟩ := f2 H2 _ Kp.refl
        have sq := seqs_zip z1 f1 f2
        rw [← C.hK]
        have cc : Chg W (k + (ca + cb)) H H2 := by
          rw [← Nat.add_assoc]
          exact c1.trans c2
        exact ⟨s1, s2, v, w, vs, ws, rfl, i1, i2, t1, t2, h4 _ _ _ q2 cc sq⟩⟩⟩
theorem di_enum (C : Cxt X W N sc kk) (hg : sc.names.lookup ("enumerate" : Str) = some .globalImplicit) (hm : X.mg ("enumerate" : Str) = none) (ha : DE X W a ga ca)
    (hs : starEach [a] X.env = (false, eval a X.env) :: starEach [] X.env := by rfl) :
    DI X W (.Tuple elts kt tpos) (.Call (.Name "enumerate" p) [a] [] pos) (gEnum ga) ca :=
  pi_imp (pi_enumG (C.gl hg) hm (pa_cons ha pa_nil hs) hs) fun σ H R ⟨k, Δ, K, h1, h2, h3, h4⟩ => ⟨k, Δ, _, by omega, h2, h3, fun d v H1 q1 c1 r1 => by
    cases e1 : seqL d with
    | none =>
      rw [e1] at q1
      exact (show False from q1).elim
    | some xs =>
      rw [e1] at q1
      have q1 : K (numD xs) := q1
      obtain ⟨s1, i1, z1, f1⟩ := src_rep r1 e1
      obtain ⟨vs, t1, _⟩ := f1 H1 _ Kp.refl
      have sq := seqs_enum z1 f1
      rw [← C.hK]
      exact ⟨s1, v, vs, rfl, i1, t1, h4 _ _ _ q1 c1 sq⟩⟩
end
end DL
/-! DLSort: sorted of pairs of whole numbers. -/
namespace DL
open PySem PySem.Spec PyProof.Rows L2
variable [Lams]
def rSortedG (K : PySem.W.Frag) : List V → Hp → VK → Prop := fun vs H Q => ∃ (a : Addr) (xs : List V), vs = [V.ref a] ∧ SqL K H a xs ∧ (∀ x ∈ xs, ∃ t i j, x = V.ref t ∧ SqT K H t [.int i, .int j]) ∧
  ∀ (k : V → Int × Int) ys p, (∀ x ∈ xs, ∀ t i j, x = V.ref t → SqT K H t [.int i, .int j] → k x = (i, j)) → SrtO.Srtd (ltP k) ys → ys.Perm xs → H p = none → Q (.ref p) (upd H p (.lst ys))
section
variable {X : Cx}
open Classical in
theorem cr_sortedG : CallR X (.builtin "sorted") (rSortedG X.K) := by
  intro pins s σ H vs us Q I r h
  obtain ⟨a, xs, rfl, hs, hx, q⟩ := h
  obtain ⟨k, hk⟩ : ∃ k : V → Int × Int, ∀ x ∈ xs, ∀ t i j, x = V.ref t → SqT X.K H t [.int i, .int j] → k x = (i, j) := by
    refine ⟨fun x => if hh : ∃ ij : Int × Int, ∃ t, x = V.ref t ∧ SqT X.K H t [.int ij.1, .int ij.2] then choose hh else (0, 0), fun x _ t i j e hq => ?_⟩
    have hh : ∃ ij : Int × Int, ∃ t, x = V.ref t ∧ SqT X.K H t [.int ij.1, .int ij.2] := ⟨(i, j), t, e, hq⟩
    show (if hh : ∃ ij : Int × Int, ∃ t, x = V.ref t ∧ SqT X.K H t [.int ij.1, .int ij.2] then choose hh else (0, 0)) = (i, j)
    rw [dif_pos hh]
    obtain ⟨t', e', hq'⟩ := choose_spec hh
    rw [e] at e'
    cases e'
    have := I.tuple_inj hq' hq
    generalize choose hh = ij at *
    obtain ⟨i', j'⟩ := ij
    cases this
    rfl
  obtain ⟨its, rv, hl, hz⟩ := I.list hs
  obtain ⟨u, rfl, ru⟩ := vals1 r
  obtain rfl : u = Value.ref a := ru
  obtain ⟨e1, e2⟩ := refs_back rv fun x m => by
    obtain ⟨t, _, _, e, _⟩ := hx x m
    exact ⟨t, e⟩
  refine SrtO.sorted_pairsO (k := fun u => k (backV u)) hl.isList (by rw [← rv.length]; exact hz) (fun v hv => ?_) fun h' d out h1 h2 kp hd hn => ?_
  · obtain ⟨t, rfl⟩ := e2 v hv
    have hm : V.ref t ∈ xs := by rw [e1]; exact List.mem_map.mpr ⟨_, hv, rfl⟩
    obtain ⟨t', i, j, e, ht⟩ := hx _ hm
    cases e
    have ek := hk _ hm t i j rfl ht
    obtain ⟨its2, r2, ⟨o, ho, hc, n, hd⟩, _⟩ := I.tuple ht
    obtain ⟨u1, u2, rfl, ri, rj⟩ := vals2 r2
    obtain ⟨t1, rfl⟩ := ri
    obtain ⟨t2, rfl⟩ := rj
    have ek : k (backV (Value.ref t)) = (i, j) := ek
    refine ⟨t, o, t1, t2, n, rfl, ho, hc, ?_⟩
    rw [ek]
    exact hd
  · have h3 : ∀ u ∈ out, ∃ a, u = Value.ref a := fun u hu => e2 u (h2.perm.mem_iff.mp hu)
    obtain ⟨n, hn⟩ := hn
    have hb : SrtO.Stb (ltP k) (out.map backV) xs := by
      rw [e1]
      exact SrtO.Stb.map (ltP_swo k) backV h2
    refine ⟨.ref d, upd H d (.lst (out.map backV)), I.laid (t' := s.toks) kp hd ⟨?_, out, n, vals_back h3, hn⟩, rfl, q k _ d hk (SrtO.srtd_map h1) hb.perm (I.hok.fresh hd)⟩
    rw [hb.len]
    exact hz
def prD (p : Int × Int) : D := .tuple [.int p.1, .int p.2]
def lexLe (a b : Int × Int) : Prop := a.1 < b.1 ∨ (a.1 = b.1 ∧ a.2 ≤ b.2)
def sortedD : List D → (D → Prop) → Prop
  | [.list xs], K => ∃ ps : List (Int × Int), xs = ps.map prD ∧ ∀ qs : List (Int × Int), qs.Perm ps → qs.Pairwise lexLe → K (.list (qs.map prD))
  | _, _ => False
theorem RepAll.mem {K : PySem.W.Frag} {A : Addr → Prop} {H : Hp} : ∀ {vs : List V} {ds : List D}, RepAll K A H vs ds → ∀ v ∈ vs, ∃ d ∈ ds, Rep K A H v d
  | _, _, .nil => fun v h => by cases h
  | _, _, .cons r t => fun v h => by
    rcases List.mem_cons.mp h with e | h
    · rw [e]
      exact ⟨_, List.mem_cons_self, r⟩
    · obtain ⟨d, hd, rd⟩ := RepAll.mem t v h
      exact ⟨d, List.mem_cons_of_mem _ hd, rd⟩
theorem rep_pair {K : PySem.W.Frag} {A : Addr → Prop} {H : Hp} {v : V} {p : Int × Int} (r : Rep K A H v (prD p)) : ∃ t, v = .ref t ∧ SqT K H t [.int p.1, .int p.2] := by
  cases r with
  | tup s z r =>
    have : ∀ {vs : List V}, RepAll K A H vs [.int p.1, .int p.2] → vs = [.int p.1, .int p.2] := fun r => by
      cases r with
      | cons r1 t =>
        cases t with
        | cons r2 t =>
          cases t
          cases r1
          cases r2
          rfl
    have e := this r
    subst e
    exact ⟨_, rfl, sqT s⟩
theorem map_keys {K : PySem.W.Frag} {A : Addr → Prop} {H : Hp} {k : V → Int × Int} : ∀ {vs : List V} {ps : List (Int × Int)}, RepAll K A H vs (ps.map prD) → (∀ x ∈ vs, ∀ t i j, x = V.ref t → SqT K H t [.int i, .int j] → k x = (i, j)) → vs.map k = ps
  | [], [], _, _ => rfl
  | [], _ :: _, r, _ => by cases r
  | _ :: _, [], r, _ => by cases r
  | v :: vs, p :: ps, r, h => by
    cases r with
    | cons r1 t =>
      obtain ⟨a, e, hq⟩ := rep_pair r1
      have h1 := h v List.mem_cons_self a _ _ e hq
      rw [List.map_cons, map_keys t fun x hx => h x (List.mem_cons_of_mem _ hx), h1]
theorem reps_keys {K : PySem.W.Frag} {A : Addr → Prop} {H : Hp} {k : V → Int × Int} : ∀ {ys : List V}, (∀ y ∈ ys, Rep K A H y (prD (k y))) → RepAll K A H ys ((ys.map k).map prD)
  | [], _ => .nil
  | y :: ys, h => .cons (h y List.mem_cons_self) (reps_keys fun z hz => h z (List.mem_cons_of_mem _ hz))
theorem dc_sorted : DCall X (.builtin "sorted") sortedD := by
  intro pins s σ H xs us Q I rv ⟨A, ds, K, dm, rs, q, hQ⟩
  unfold sortedD at q
  split at q
  · obtain ⟨ps, rfl, q⟩ := q
    obtain ⟨v, rfl, r⟩ := rs.one
    obtain ⟨a, vs, rfl, ha, ra, z⟩ := r.list
    refine cr_sortedG pins s σ H _ us Q I rv ⟨a, vs, rfl, .inl (.inl ha), fun x hx => ?_, fun k ys p hk hs hp hn => ?_⟩
    · obtain ⟨d, hd, rd⟩ := RepAll.mem ra x hx
      obtain ⟨p, _, rfl⟩ := List.mem_map.mp hd
      obtain ⟨t, e, hq⟩ := rep_pair rd
      exact ⟨t, _, _, e, hq⟩
    · have e1 := map_keys ra hk
      have e2 : (ys.map k).Perm ps := by
        rw [← e1]
        exact hp.map k
      have e3 : (ys.map k).Pairwise lexLe := List.pairwise_map.mpr (hs.imp fun {x y} h => by
        have := SrtO.lexB_no.mp h
        unfold lexLe
        omega)
      have rr : ∀ y ∈ ys, Rep X.K A H y (prD (k y)) := fun y hy => by
        have hy' := hp.mem_iff.mp hy
        obtain ⟨d, hd, rd⟩ := RepAll.mem ra y hy'
        obtain ⟨p, _, rfl⟩ := List.mem_map.mp hd
        obtain ⟨t, e, hq⟩ := rep_pair rd
        rw [hk y hy' t _ _ e hq]
        exact rd
      have len : ((ys.map k).map prD).length ≤ sizeLine := by
        rw [List.length_map, List.length_map, hp.length_eq, ra.length]
        exact z
      exact hQ _ _ _ (q _ e2 e3) (ext_laid hn) (.lst upd_same (fun w => dm p w hn) len ((reps_keys rr).map (kp_laid hn)))
  · exact q.elim
end
end DL
/-! DLStar: starred items of displays. -/
namespace DL
open PySem PySem.Spec PyProof.Rows L2
variable [Lams]
/-- the items of a list, of a tuple -/
def itemsL : D → Option (List D)
  | .list xs => some xs
  | .tuple xs => some xs
  | _ => none
def gStar (ga : TDE) (gr : TDL) : TDL := fun Δ K => ga Δ fun d => match itemsL d with
  | some xs => gr Δ fun ys => K (xs ++ ys)
  | none => False
section
variable {X : Cx} {W : Wd} {N : List Str} {sc : Scope} {kk : Nat} {e : Expr} {es : List Expr} {ca cb : Nat} {ga : TDE} {gr : TDL} {p : Pos}
theorem da_star (C : Cxt X W N sc kk) (ha : DE X W e ga ca) (hr : DA X W es gr cb) (hs : starEach (.Starred e p :: es) X.env = (true, eval e X.env) :: starEach es X.env := by rfl) : DA X W (.Starred e p :: es) (gStar ga gr) (ca + cb) :=
  pa_imp (StX.pa_star ha hr hs) fun σ H Q ⟨k, Δ, K, h1, h2, h3, h4⟩ => ⟨k, Δ, _, by omega, h2, h3, fun dx x H1 q1 c1 r1 => by
    cases r1 with
    | lst e n z r =>
      have q1 : gr Δ fun ys => K (_ ++ ys) := q1
      refine ⟨_, _, rfl, .inr (.inl (.inl e)), k + ca, Δ, _, by omega, h2.chg C.ok c1, q1, fun ds vs H2 q2 c2 r2 => h4 _ _ H2 q2 (chg3 c1 c2) ((r.map (c2.kpE C.ok)).append r2)⟩
    | tup s z r =>
      have q1 : gr Δ fun ys => K (_ ++ ys) := q1
      refine ⟨_, _, rfl, .inl (by rw [← C.hK]; exact sqT s), k + ca, Δ, _, by omega, h2.chg C.ok c1, q1, fun ds vs H2 q2 c2 r2 => h4 _ _ H2 q2 (chg3 c1 c2) ((r.map (c2.kpE C.ok)).append r2)⟩
    | _ => exact (show False from q1).elim⟩
end
end DL
/-! DLRaise: raise C(e); the value and the class of a caught exception. -/
namespace DL
open PySem PySem.Spec PyProof.Rows L2
variable [Lams]
section
variable {X : Cx} {W : Wd} {N : List Str} {sc : Scope} {kk : Nat} {e : Expr} {c : Nat} {g : TDE} {pos p p2 apos : Pos} {E : Value → D → Prop} {D0 Cc fI : Addr} {fd : FuncData} {x : Str}
def gRaise (Cc : Addr) (E : Value → D → Prop) (g : TDE) : TDS := fun _ Δ => g Δ fun d => E (.ref Cc) d
theorem ds_raise (C : Cxt X W N sc kk) (hE : W.E = E) (hk2 : 2 ≤ kk) (T : InitC X.K D0 Cc) (ek : ExcK X.K Cc) (iC : PySem.W.findIn X.K (.ref Cc) "__init__" = some (some (.ref fI))) (tI : PySem.W.typeIn X.K (.ref fI) = some (.type "function"))
    (FI : FnOk X.prog X.w X.K X.mg X.base (L2.CX X.prog X.w) 1 fI fd ["self", "value"] (spI X.K D0)) (hb : Binds X.K fd ["self", "value"] []) (hg : sc.names.lookup x = some .globalImplicit) (hm : X.mg x = some (.ref Cc)) (he : DE X W e g c)
    (hdb : (x == ("__debug__" : Str)) = false := by decide +kernel) (hs : starEach [e] X.env = (false, eval e X.env) :: starEach [] X.env := by rfl) (hpl : (backTo p2 (starEach [] X.env)).any (·.1) = false := by rfl) :
    DS X W (.Raise (some (.Call (.Name x p) [e] [] p2)) none pos) (gRaise Cc E g) c := by
  subst hE
  have ha : DA X W [e] (gCo g gN) (c + 0) := da_cons C he da_nil hs
  refine ps_imp (ps_raise C.calm C.tk (pmk_oex T.ox iC tI FI (C.hr.mono hk2) hb .nil (passes_call C.tk fun _ _ _ _ z => z.elim) (C.gl hg) hm ha hdb hs hpl)) fun Ed σ H ⟨k, Δ, D2, h1, h2, h3, h4⟩ => ?_
  refine ⟨k, Δ, fun ds => match ds with
    | [d] => W.E (.ref Cc) d
    | _ => False, by omega, h2, h3, fun ds vs H1 q c1 r1 => ?_⟩
  match ds, q with
  | [d], q =>
    cases r1 with
    | @cons v vs _ _ r1 t =>
    cases t
    have e1 := h2.chg C.ok c1
    refine ⟨by simp, fun a na => ⟨a, Cc, v, rfl, T, upd_same, fun dx ndx hne => ⟨rfl, dx, [("value", v)], upd_same, by rw [upd_ne hne, upd_same], ?_, ?_⟩⟩⟩
    · rw [upd_ne hne] at ndx
      exact ndx
    · rw [upd_ne hne] at ndx
      have ext : ∀ b o, H1 b = some o → upd (del (upd (upd (upd H1 a (exo a Cc none)) dx (exd dx [("value", v)])) a (exo a Cc (some dx))) a) dx (.xd [("value", v)]) b = some o := fun b o z => by
        have nb : b ≠ dx := ne_of_none z ndx
        have na' : b ≠ a := ne_of_none z na
        rw [upd_ne nb, del_ne na', upd_ne na', upd_ne nb, upd_ne na']
        exact z
      have c2 := Chg.of_ext e1.fin ext
      exact ⟨Cc, dx, v, d, rfl, by rw [C.hK]; exact ek, rfl, q, (e1.fin.chg c2).mono (by omega), upd_same, e1.fin.free ndx, (r1.map (c2.kpE C.ok)).map (Kp.toA0 fun _ => .inl)⟩
/-! ### what is known of a caught exception -/
theorem Rep.exc_inv {K : PySem.W.Frag} {A : Addr → Prop} {H : Hp} {v : V} {C : Addr} {d : D} (r : Rep K A H v (excD C d)) : ∃ (a dd : Addr) (u : V), v = .ref a ∧ H a = some (ExcO a C dd) ∧ H dd = some (.xd [("value", u)]) ∧ ExcK K C ∧ Rep K A H u d := by
  generalize e : excD C d = d0 at r
  cases r with
  | dic _ _ r =>
    unfold excD at e
    cases e
    exact r.first.elim
  | exc h1 _ h2 _ k r =>
    unfold excD at e
    simp only [PyData.dict.injEq, List.cons.injEq, Prod.mk.injEq, PyData.int.injEq, Int.natCast_inj, and_true, true_and] at e
    obtain ⟨rfl, rfl⟩ := e
    exact ⟨_, _, _, rfl, h1, h2, k, r⟩
  | fno => simp [excD, fnO] at e
  | fnc => simp [excD, fnC] at e
  | _ => simp [excD] at e
/-- e.value -/
def gVal (g : TDE) : TDE := fun Δ K => g Δ fun x => ∃ C d, x = excD C d ∧ K d
theorem de_val (C : Cxt X W N sc kk) (he : DE X W e g c) (hb : attributeBase e "value" X.env (eval e X.env) = eval e X.env := by rfl) : DE X W (.Attribute e "value" pos) (gVal g) c := by
  refine ⟨fun pins s σ H Q I ⟨k, Δ, K, h1, h2, h3, h4⟩ => ?_⟩
  refine attr_of hb (thn (he.run pins s σ H (fun v H1 => ∃ Cx d, Chg W (k + c) H H1 ∧ Rep W.K (AA W σ Δ) H1 v (excD Cx d) ∧ K d) I ⟨k, Δ, _, h1, h2, h3, fun d v H' ⟨Cx, d', ed, q⟩ c1 r => ⟨Cx, d', c1, ed ▸ r, q⟩⟩) fun u s1 ⟨v, H1, I1, ru, Cx, d, c1, r, q⟩ => ?_)
  obtain ⟨a, dd, y, ev, ea, ed, ek, ry⟩ := r.exc_inv
  subst ev
  obtain rfl : u = Value.ref a := ru
  rw [C.hK] at ek
  obtain ⟨⟨o, vs, ho, hc, hd, hdat⟩, _, _⟩ := I1.hok a _ ea
  obtain ⟨mA, hns, hr⟩ := (show ObjOk X.prog X.w H1 s1.heap dd (.xd [("value", y)]) from I1.hok dd _ ed)
  obtain ⟨od, hod, hl⟩ := lookIn_ns hns
  obtain ⟨w, hw, rw'⟩ := RelO.some_of (v := y) (o := mA "value") (by have z := hr "value"; exact z)
  have J : PySem.W.InstAt s1.heap a o Cx (some od) := ⟨ho, hc, by unfold PySem.W.notCls; rw [hdat] <;> rfl, by rw [hd]; exact hod⟩
  exact HandSPX.exc_get I1.kIn J ek.hga ek.hgt ek.hsub (PySem.W.findObj_own ek.hdc ek.hav rfl (by rw [hl, hw])) (handed_of rw') ⟨y, H1, I1.tok _, rw', h4 d y H1 q c1 ry⟩
/-- isinstance of a caught exception; m: the classes, what is told of each -/
def gIsE (m : Addr → Option Bool) (g : TDE) : TDE := fun Δ K => g Δ fun x => ∃ C d b, x = excD C d ∧ m C = some b ∧ K (.bool b)
def MIs (K : PySem.W.Frag) (m : Addr → Option Bool) (u : Value) : Prop := ∀ C b, m C = some b → PySem.W.kitOne K (.ref C) u = some b
theorem de_isE (C : Cxt X W N sc kk) {m : Addr → Option Bool} {C2 : Addr} (hM : MIs X.K m (.ref C2)) (hg : sc.names.lookup ("isinstance" : Str) = some .globalImplicit) (hm : X.mg ("isinstance" : Str) = none) (hgT : sc.names.lookup x = some .globalImplicit) (hmT : X.mg x = some (.ref C2)) (ha : DE X W e g c)
    (hdb : (x == ("__debug__" : Str)) = false := by decide +kernel) (hs1 : starEach [e, .Name x p2] X.env = (false, eval e X.env) :: starEach [.Name x p2] X.env := by rfl) (hs2 : starEach [.Name x p2] X.env = (false, eval (.Name x p2) X.env) :: starEach [] X.env := by rfl)
    (hpl : (backTo pos (starEach [.Name x p2] X.env)).any (·.1) = false := by rfl) :
    DE X W (.Call (.Name "isinstance" p) [e, .Name x p2] [] pos) (gIsE m g) c :=
  pe_imp (pe_callB call_isiS (C.gl hg) hm PyProof.Rows.boot_isinstance (pa_cons ha (pa_cons (pe_glob (v := .ref C2) (C.gl hgT) hmT rfl hdb) pa_nil hs2) hs1) (by decide +kernel) (by decide +kernel) hs1 hpl) fun σ H Q ⟨k, Δ, K, h1, h2, h3, h4⟩ => ⟨k, Δ, _, h1, h2, h3, fun d v H1 ⟨Cx, d', b, ed, hmb, q1⟩ c1 r1 => by
    subst ed
    obtain ⟨a, dd, y, rfl, ea, ed, ek, ry⟩ := r1.exc_inv
    exact ⟨.ref a, .ref C2, .ref Cx, .ref C2, b, rfl, .own C2, .exc ea ed (by rw [← C.hK]; exact ek), hM Cx b hmb, h4 _ _ H1 q1 c1 (.bl _)⟩⟩
theorem de_isET (C : Cxt X W N sc kk) {m : Addr → Option Bool} {T : String} (hM : MIs X.K m (.type T)) (hg : sc.names.lookup ("isinstance" : Str) = some .globalImplicit) (hm : X.mg ("isinstance" : Str) = none) (hgT : sc.names.lookup x = some .globalImplicit) (hmT : X.mg x = none) (hvT : bootBuiltins x = some (.type T)) (ha : DE X W e g c)
    (hn : x ≠ "__name__" := by decide +kernel) (hdb : (x == ("__debug__" : Str)) = false := by decide +kernel) (hs1 : starEach [e, .Name x p2] X.env = (false, eval e X.env) :: starEach [.Name x p2] X.env := by rfl) (hs2 : starEach [.Name x p2] X.env = (false, eval (.Name x p2) X.env) :: starEach [] X.env := by rfl)
    (hpl : (backTo pos (starEach [.Name x p2] X.env)).any (·.1) = false := by rfl) :
    DE X W (.Call (.Name "isinstance" p) [e, .Name x p2] [] pos) (gIsE m g) c :=
  pe_imp (pe_callB call_isiS (C.gl hg) hm PyProof.Rows.boot_isinstance (pa_cons ha (pa_cons (pe_bltn (v := .ty T) (C.gl hgT) hmT hvT rfl hn hdb) pa_nil hs2) hs1) (by decide +kernel) (by decide +kernel) hs1 hpl) fun σ H Q ⟨k, Δ, K, h1, h2, h3, h4⟩ => ⟨k, Δ, _, h1, h2, h3, fun d v H1 ⟨Cx, d', b, ed, hmb, q1⟩ c1 r1 => by
    subst ed
    obtain ⟨a, dd, y, rfl, ea, ed, ek, ry⟩ := r1.exc_inv
    exact ⟨.ref a, .ty T, .ref Cx, .type T, b, rfl, .ty T, .exc ea ed (by rw [← C.hK]; exact ek), hM Cx b hmb, h4 _ _ H1 q1 c1 (.bl _)⟩⟩
end
/-! ### a def whose reading knows its cells -/
def specOfL (n : Nat) (N : List Str) (g : List (Str × Addr) → (Value → D → Prop) → TDS) : FSp := fun as Kd E => as.length = n ∧ ∀ cells, g cells E { nx := fun _ => Kd .none, rt := Kd } (startD N as)
section
variable {P : Program} {w : World} {K : PySem.W.Frag} {mg : Str → Option Value} {base : Heap} {k j c n : Nat} {f : Addr} {ps N : List Str} {F : FSp} {scope : Scope} {body : List Stmt} {qual name : Str} {params : Arguments} {dV kV doc pm cdv ct oc : Value} {an od : Option Addr} {osl : Array (Option Value)}
theorem fnd_byL (lk : K.lookup f = some ⟨oc, od, .func (PySem.W.fnOf name qual params body scope dV kV doc pm an cdv ct), osl⟩) (hcd : PySem.W.codeIn K cdv qual = true) (S : FnScope N ps scope) {g : List (Str × Addr) → (Value → D → Prop) → TDS} (hpn : ps.length ≤ N.length)
    (hbody : ∀ (X : Cx) (W : Wd) (E : Value → D → Prop), W.E = E → X.prog = P → X.w = w → X.K = K → X.mg = mg → X.base = base → (∀ x, X.fn x = true) → DefX X qual cdv → Cxt X W N scope k → ∃ cb, cb ≤ c ∧ DSs X W body (g X.env.cells E) cb) :
    FnD P w K mg base (k + 1) f (PySem.W.fnOf name qual params body scope dV kV doc pm an cdv ct) ps (specOfL ps.length N g) c := by
  refine fn_g lk hcd S (fun vs H Q E ⟨W, as, Kd, _, r, hl, _⟩ => r.length.trans hl) fun A outer s H vs Q E hg hr ⟨W, as, Kd, en, r, hl, hF, hQ, hE⟩ => ?_
  obtain ⟨hK, hH, hc, ok, dom, pots, tabs⟩ := en
  subst hK
  obtain ⟨cb, hcb, hb⟩ := hbody (cxOf (L2.CX P w) P w W.K mg base N qual scope f cdv A outer s H E) W W.E rfl rfl rfl rfl rfl rfl (fun _ => rfl) ⟨rfl, rfl, rfl, fun _ => rfl, rfl, rfl⟩ ⟨rfl, rfl, S.nd, hr, hg, rfl, rfl, ok, by
    refine (takes_of (E := E) rfl rfl rfl rfl).imp fun cls d σ H' h => ?_
    obtain ⟨C, dd, v, d', rfl, hk, rfl, h1, h2, h3, h4, h5⟩ := h
    exact hE C dd v d' H' hk h1 (hc ▸ h2) h3 (hH ▸ h4) h5, passes_of rfl⟩
  refine ⟨_, hb.le hcb, 0, startD N as, _, by omega, ?_, hF.2 _, ⟨fun Δ' σ' H' q e kp => ?_, fun d v H' q fin rr => ?_, fun _ _ _ q => q.elim, fun _ _ _ q => q.elim⟩⟩
  · refine ⟨?_, fun i => SlotOk.mono (A := W.A0) (fun a q => ?_) (startD_ok N i r), fun i j ds es a h1 => absurd h1 (startD_own N as i ds), ⟨fun b o e _ => hH ▸ e, fun b p => (pots b p).mono (by omega), tabs⟩, dom⟩
    · rw [startD_len]
      unfold L2.start
      rw [List.length_append, List.length_map, List.length_replicate]
      have h := r.length
      omega
    · exact q.elim id fun ⟨i, ds, h1, _⟩ => absurd h1 (startD_own N as i ds)
  · exact hQ .none .non H' q (e.fin.mono (by omega)) .non
  · exact hQ d v H' q (fin.mono (by omega)) rr
theorem LamD.mono (F1 : LamD P w K mg base j n F c) (h : j ≤ k) : LamD P w K mg base k n F c := ⟨fun L W as Kd A outer s H f c' cl q vs Q E h1 h2 hr => F1.run L W as Kd A outer s H f c' cl q vs Q E h1 h2 (hr.mono h)⟩
theorem lamd_none (h : Lams.tab n = none) : LamD P w K mg base k n F c := ⟨fun L W as Kd A outer s H f c' cl q vs Q E h1 => by rw [h] at h1; cases h1⟩
end
def lamsOkB (ns : List Nat) (N ys : List Str) : Bool := ns.all fun n => match Lams.tab n with
  | some L => decide (L.ix.map (fun i => N[i]?) = L.names.map some) && (L.names.all fun y => decide (y ∈ ys) && decide ((y, NameKind.free) ∈ L.scope.names)) && L.scope.names.all fun y => !decide (y.2 = .free) || decide (y.1 ∈ L.names)
  | none => true
theorem lamsOk_by {ns : List Nat} {N ys : List Str} (h : lamsOkB ns N ys = true) : LamsOk (fun n => ns.contains n) N ys := by
  have key : ∀ n L, ns.contains n = true → Lams.tab n = some L → (L.ix.map (fun i => N[i]?) = L.names.map some) ∧ (∀ y ∈ L.names, y ∈ ys ∧ (y, NameKind.free) ∈ L.scope.names) ∧ ∀ y ∈ L.scope.names, y.2 = .free → y.1 ∈ L.names := fun n L hn hL => by
    unfold lamsOkB at h
    have z := List.all_eq_true.mp h n (List.contains_iff_mem.mp hn)
    rw [hL] at z
    simp only [Bool.and_eq_true, Bool.or_eq_true, Bool.not_eq_true', decide_eq_true_eq, decide_eq_false_iff_not, List.all_eq_true] at z
    obtain ⟨⟨z1, z2⟩, z3⟩ := z
    exact ⟨z1, z2, fun y hy e => (z3 y hy).elim (fun q => absurd e q) id⟩
  exact ⟨fun n L a b => (key n L a b).1, fun n L a b => (key n L a b).2.1, fun n L a b => (key n L a b).2.2⟩
section
variable {X : Cx} {W : Wd} {N : List Str} {sc : Scope} {kk : Nat}
/-- a, b = two constants: one constant, taken apart -/
theorem swk2 (C : Cxt X W N sc kk) {x y : Str} {px py pt pt2 q1 q2 : Pos} {kt k2 j1 j2 : Nat} {c1 c2 : Const} (hk : sc.kind = .function) (lx : sc.names.lookup x = some .local) (ly : sc.names.lookup y = some .local) (hxy : (x == y) = false) (hl : (py.line == px.line) = true)
    (h2 : [Expr.Constant c1 j1 q1, Expr.Constant c2 j2 q2].all (foldedForSure 8) = true) :
    swappedStores [.Tuple [.Name x px, .Name y py] kt pt] (.Tuple [.Constant c1 j1 q1, .Constant c2 j2 q2] k2 pt2) X.env = pure none := by
  have kx : X.env.kindOf x = some .local := by
    show X.env.scope.names.lookup x = _
    rw [C.hsc]
    exact lx
  have ky : X.env.kindOf y = some .local := by
    show X.env.scope.names.lookup y = _
    rw [C.hsc]
    exact ly
  have kb : (X.env.blockKind != .function) = false := by
    have e : X.env.scope.kind = .function := by rw [C.hsc, hk]
    unfold Env.blockKind
    rw [e]
    rfl
  have e1 : (([.Name x px, .Name y py] : List Expr).head?.map (·.pos.line)).getD 0 = px.line := rfl
  have yx : (y == x) = false := by
    cases e : (y == x) with
    | false => rfl
    | true => rw [beq_iff_eq.mp e, beq_self_eq_true] at hxy; cases hxy
  unfold swappedStores
  simp only [e1, kb, h2, List.filterMap_cons, List.filterMap_nil, kx, ky, hl, beq_self_eq_true, Bool.and_self, if_true, List.length_cons, List.length_nil]
  simp [List.eraseDups_cons, hxy, yx, List.filter]
end
/-! ### parts of the text -/
def exA : Stmt → Expr
  | .Assign _ v _ => v
  | .Expr v _ => v
  | .Return (some v) _ => v
  | _ => .Constant .none 0 ⟨0, 0, 0, 0⟩
def exL (e : Expr) (i : Nat) : Expr := match e with
  | .List es _ => es.getD i e
  | .Tuple es _ _ => es.getD i e
  | .Call _ es _ _ => es.getD i e
  | .Subscript a _ _ => a
  | .Compare a _ _ _ => a
  | _ => e
def stB : Stmt → List Stmt
  | .For _ _ b _ _ => b
  | .While _ b _ _ => b
  | .If _ b _ _ => b
  | .ClassDef _ _ _ b _ _ _ _ _ _ _ => b
  | _ => []
def stN (l : List Stmt) (i : Nat) : Stmt := l.getD i (.Pass ⟨0, 0, 0, 0⟩)
def lamX (e : Expr) (names : List Str) (ix : List Nat) : LamC := match e with
  | .Lambda p b sc _ => ⟨p, b, sc, names, ix⟩
  | _ => ⟨{ posonlyargs := [], args := [], vararg := none, kwonlyargs := [], kw_defaults := [], kwarg := none, defaults := [] }, .Constant .none 0 ⟨0, 0, 0, 0⟩, initSc, names, ix⟩
end DL
/-! DLTry3: try: y = x() / except C as e: return (e, None), over data. -/
namespace DL
open PySem PySem.Spec PyProof.Rows L2
variable [Lams]
section
variable {X : Cx} {W : Wd} {N : List Str} {sc : Scope} {kk k j kF : Nat} {σ : St} {H H' : Hp} {Δ : DEnv} {q : Str} {cd : Value} {B : Nat → FSp} {E : Value → D → Prop}
/-- a tuple laid beside a pinned object -/
def tTupN (a : Addr) (t : TA) : TE := fun σ H Q => t σ H fun xs H1 => xs.length ≤ sizeLine ∧ ∀ p, H1 p = none → p ≠ a → Q (.ref p) (upd H1 p (.tup xs))
theorem pe_tupN {es : List Expr} {t : TA} {pos : Pos} {x1} {a : Addr} {oe : Obj} (hp : (a, oe) ∈ X.pn) (h : PA X es t) : PE X (.Tuple es x1 pos) (tTupN a t) := by
  refine ⟨fun pins s σ H Q I hq => ?_⟩
  refine wpAny_Tuple_spliced (thn (h.run pos pins s σ H _ I hq) fun us s1 ⟨xs, H1, I1, r, z, q⟩ => ⟨by rw [← r.length]; exact z, ?_⟩)
  have hf : H1 s1.heap.objs.size = none := I1.hok.fresh (Nat.le_refl _)
  have hn : s1.heap.objs.size ≠ a := fun e => by
    have := (I1.pin (a, oe) (List.mem_append_left _ hp)).1
    have h2 : a < s1.heap.objs.size := Heap.lt_size this
    rw [e] at h2
    exact Nat.lt_irrefl _ h2
  refine ⟨.ref s1.heap.objs.size, upd H1 s1.heap.objs.size (.tup xs), I1.laid (t' := s1.toks) (fun b u e => Heap.get?_push_of_some _ e) (Nat.le_refl _) ?_, rfl, q _ hf hn⟩
  exact ⟨z, us, r, ⟨_, Heap.get?_push_size _ rfl, rfl, _, rfl⟩⟩
def gTryR (m : Value → Option Bool) (B : Nat → FSp) (E : Value → D → Prop) (il ib ie : Nat) : TDS := fun D Δ => ie < Δ.length ∧ match nth Δ il with
  | .dat d => ∃ n ds, d = fnC n ds ∧ B n (ds.map AV.dat) (fun d => D.nx (Δ.set ib (.dat d))) fun cls d => ∃ b, m cls = some b ∧ (b = true → ∀ C, cls = .ref C → D.rt (.tuple [excD C d, .none])) ∧ (b = false → E cls d)
  | _ => False
theorem upd_comm {H : Hp} {a b : Addr} {x y : HO} (h : a ≠ b) : upd (upd H a x) b y = upd (upd H b y) a x := by
  funext c
  by_cases ea : c = a
  · subst ea
    rw [upd_ne (fun z => h z), upd_same, upd_same]
  · by_cases eb : c = b
    · subst eb
      rw [upd_same, upd_ne ea, upd_same]
    · rw [upd_ne eb, upd_ne ea, upd_ne ea, upd_ne eb]
theorem ds_tryR (C : Cxt X W N sc kk) (DX : DefX X q cd) (hE : W.E = E) {m : Value → Option Bool} {CP : Value} {xl xb xe xp : Str} {il ib ie : Nat} {p1 p2 p3 p4 p5 p6 p7 p8 p9 p10 pos : Pos} {j1 j2} (LD : ∀ n, LamD X.prog X.w X.K X.mg X.base kF n (B n) 0) (hkF : kF ≤ kk) (hm : MOk X.K m CP) (hCP : X.mg xp = some CP) (hgp : sc.names.lookup xp = some .globalImplicit)
    (hl : N[il]? = some xl) (hvl : Vis sc xl) (hb : N[ib]? = some xb) (lb : sc.names.lookup xb = some .local) (he : N[ie]? = some xe) (le : sc.names.lookup xe = some .local)
    (dl : (xl == ("__debug__" : Str)) = false := by decide +kernel) (cl : (xl == ("__classdict__" : Str)) = false := by decide +kernel) (dp : (xp == ("__debug__" : Str)) = false := by decide +kernel) (de : (xe == ("__debug__" : Str)) = false := by decide +kernel) (ce : (xe == ("__classdict__" : Str)) = false := by decide +kernel)
    (hsw : swapsWith (.Call (.Name xl p3) [] [] p4) (some (.Name xb p1)) p2.line X.env = pure false := by rfl) :
    DS X W (.Try [.Assign [.Name xb p1] (.Call (.Name xl p3) [] [] p4) p2] [.ExceptHandler (some (.Name xp p8)) (some xe) [.Return (some (.Tuple [.Name xe p6, .Constant .none j1 p5] j2 p10)) p7] p9] [] [] pos) (gTryR m B E il ib ie) 0 := by
  subst hE
  have kind : ∀ {y : Str}, sc.names.lookup y = some .local → X.env.scope.names.lookup y = some .local := fun {y} h => by rw [C.hsc]; exact h
  refine ps_imp (ps_try_keep (i := ie) (tb := fun Wx => tAsg (tLc X.K B il fun σ E => ∀ cls d H', E cls d H' → Wx cls d σ H') (gName ib)) (ts := fun a cls d => tRet (tTupN a (tCons (tVar ie) (tCons (tC .non) tNil)))) DX.stk DX.fr DX.ex (by rw [C.hN]; exact C.nd) (by rw [C.hN]; exact he) (kind le) ⟨C.gl hgp, dp, .inl hCP⟩ C.tk (fun Wx pn xe tk po => ?_) fun a oe cls d pn => ?_) fun D σ H ⟨k, Δ, D2, h1, h2, h3, h4⟩ => ?_
  · refine pss_one (ps_set (X := X.tr pn xe) (i := ib) (by show X.N.Nodup; rw [C.hN]; exact C.nd) (by show X.N[ib]? = _; rw [C.hN]; exact hb) (.inl (kind lb)) ?_ hsw (.inr (kind lb)))
    exact pe_imp (pe_lc (X := X.tr pn xe) LD (C.hr.mono hkF) C.gd (by show X.N[il]? = _; rw [C.hN]; exact hl) (by show Vis X.env.scope xl; rw [C.hsc]; exact hvl) dl cl) fun σ H Q ⟨E, n, ds, v, W, Kd, hpa, r⟩ => ⟨E, n, ds, v, W, Kd, fun pins H s e s' I c => tk e s' (XE.of_call I (fun cls d H' h => hpa cls d H' h) c), r⟩
  · exact pss_one (ps_ret (pe_tupN (X := X.suite a ((a, oe) :: pn)) List.mem_cons_self (pa_cons (X := X.suite a ((a, oe) :: pn)) (pe_var (X := X.suite a ((a, oe) :: pn)) (i := ie) (by show X.N[ie]? = _; rw [C.hN]; exact he) (.inl (kind le)) de ce) (pa_cons (X := X.suite a ((a, oe) :: pn)) pe_non pa_nil rfl) rfl)))
  · obtain ⟨li, h3⟩ := h3
    have s := h2.sl il
    revert h3 s
    cases nth Δ il with
    | un => exact fun z => z.elim
    | pot => exact fun z => z.elim
    | own _ => exact fun z => z.elim
    | scr _ => exact fun z => z.elim
    | dat d =>
      rintro ⟨n, ds, rfl, hB⟩ ⟨v, hs, r⟩
      refine ⟨fun cls dopt H' => ∃ Cc dd v d, cls = .ref Cc ∧ ExcK W.K Cc ∧ dopt = some dd ∧ (∃ b, m cls = some b ∧ (b = true → ∀ C, cls = .ref C → D2.rt (.tuple [excD C d, .none])) ∧ (b = false → W.E cls d)) ∧ Fin (W.in k 0 σ Δ H) 0 H' ∧ H' dd = some (.xd [("value", v)]) ∧ H dd = none ∧ Rep W.K (AA W σ Δ) H' v d, n, ds, v,
        { W.in k 0 σ Δ H with E := fun cls d => ∃ b, m cls = some b ∧ (b = true → ∀ C, cls = .ref C → D2.rt (.tuple [excD C d, .none])) ∧ (b = false → W.E cls d) }, _, fun cls dopt H' h => ?_, hs, by rw [← C.hK]; exact r,
        ⟨C.hK, rfl, rfl, ⟨fun b p => vol_some h2.fin.pots h2.fin.tabs p, fun b p => .inl (C.ok.sub b p), (by have := C.ok.lim; show W.n0 + k + 0 ≤ LIM; omega), C.ok.tu, C.ok.tt⟩, h2.domS, h2.fin.pots, h2.fin.tabs⟩, hB, fun d v H' hd hf hr => ?_, fun Cc dd v d H' hk hE hf hx hn hr => ?_⟩
      · obtain ⟨Cc, dd, v, d, rfl, hk, rfl, ⟨b, hmb, hy, hno⟩, hf, hx, hn, hr⟩ := h
        refine ⟨b, hm _ _ hmb, fun hb a na => ?_, fun hb => ?_⟩
        · have c1 : Chg W (k + 0) H H' := Fin.of_in C h2 hf
          have e1 := h2.chg C.ok c1
          have c2 : Chg W (k + 0) H' (upd H' a (ExcO a Cc dd)) := e1.fin.laid na
          have e2 := e1.chg C.ok c2
          obtain ⟨_, rr, _⟩ := exc_in C h2 hk hf hx hn hr na
          refine ⟨.ref a, List.getElem?_set_self (by rw [← h2.len]; exact li), (show 2 ≤ sizeLine by rw [sizeLine_eq]; decide), fun p np hpa => ?_⟩
          have np2 : upd H' a (ExcO a Cc dd) p = none := by rw [upd_ne hpa]; exact np
          have c3 : Chg W (k + 0) (upd H' a (ExcO a Cc dd)) (upd (upd H' a (ExcO a Cc dd)) p (.tup [.ref a, .non])) := e2.fin.laid np2
          have e3 := e2.chg C.ok c3
          show D.rt (.ref p) (upd (upd H' p (.tup [.ref a, .non])) a (ExcO a Cc dd))
          rw [upd_comm hpa]
          have rt : Rep W.K (AA W σ Δ) (upd (upd H' a (ExcO a Cc dd)) p (.tup [.ref a, .non])) (.ref p) (.tuple [excD Cc d, .none]) := .tup (.inl ⟨.inl upd_same, e2.notA np2⟩) (show 2 ≤ sizeLine by rw [sizeLine_eq]; decide) ((RepAll.cons rr (.cons .non .nil)).map (kp_laid np2))
          exact h4.rt _ _ _ (hy hb Cc rfl) (h2.fin.chg ((c1.trans c2).trans c3)) (rt.map (Kp.toA0 fun _ => .inl))
        · exact ⟨Cc, dd, v, d, rfl, hk, rfl, hno hb, (h2.fin.chg (Fin.of_in C h2 hf)).mono h1, hx, h2.fin.free hn, hr.map (Kp.toA0 fun _ => .inl)⟩
      · have hr' : Rep W.K (AA W σ Δ) H' v d := by rw [C.hK]; exact hr
        have c1 : Chg W (k + 0) H H' := Fin.of_in C h2 ⟨hf.since, hf.pots, hf.tabs⟩
        exact h4.nx _ _ _ hd ((h2.chg C.ok c1).dat hr') (kp_chg_set C c1 fun _ z => by cases z)
      · exact ⟨Cc, dd, v, d, rfl, by rw [C.hK]; exact hk, rfl, hE, ⟨hf.since, hf.pots, hf.tabs⟩, hx, hn, by rw [C.hK]; exact hr⟩
end
end DL
/-! DLIdx: l.index(x), t.index(x): numbers. -/
namespace DL
open PySem PySem.Spec PyProof.Rows L2
variable [Lams]
def idxD : List D → (D → Prop) → Prop
  | [.list ds, .int k], K => ∃ (ns : List Int) (j : Nat), ds = ns.map PyData.int ∧ ns[j]? = some k ∧ (∀ m, m < j → ns[m]? ≠ some k) ∧ K (.int (j : Int))
  | _, _ => False
section
variable {X : Cx} {W : Wd} {N : List Str} {sc : Scope} {kk : Nat} {o e : Expr} {c ca cb : Nat} {ga gb : TDE} {pos apos : Pos}
theorem dm_index : DMeth X "list.index" idxD := by
  intro pins s σ H x xs v us Q I rx rs ⟨A, ds, K, dm, rd, q, hQ⟩
  unfold idxD at q
  split at q
  · rename_i ds' k
    obtain ⟨ns, j, rfl, hj, hno, q⟩ := q
    obtain ⟨v1, v2, e, r1, r2⟩ := rd.two
    cases e
    obtain ⟨a, zs, rfl, ha, ra, _⟩ := r1.list
    have e := ra.ints
    subst e
    have e2 : v2 = .int k := r2.int
    subst e2
    refine mt_index pins s σ H _ _ v us Q I rx rs ⟨a, ns.map V.int, .int k, j, .int k, rfl, rfl, .inl (.inl ha), rfl, ?_, ?_, ?_, ?_, hQ _ _ H q (fun _ _ e => e) (.int _)⟩
    · rw [List.all_map]
      exact List.all_eq_true.mpr fun _ _ => rfl
    · rw [List.getElem?_map, hj]
      rfl
    · show (k == k) = true
      exact beq_self_eq_true k
    · intro m z' hm hz
      rw [List.getElem?_map] at hz
      cases en : ns[m]? with
      | none =>
        rw [en] at hz
        cases hz
      | some w =>
        rw [en] at hz
        cases hz
        show (w == k) = false
        exact beq_eq_false_iff_ne.mpr fun z => hno m hm (by rw [en, z])
  · exact q.elim
def tyLst (x : V) (H : Hp) : Prop := ∃ a xs, x = .ref a ∧ H a = some (.lst xs)
theorem ty_lst : TyOk X "list" tyLst := by
  intro pins σ H s x v I r ty
  obtain ⟨a, xs, rfl, ha⟩ := ty
  cases r
  obtain ⟨its, _, ⟨⟨cls, dd, data, sl⟩, n, ho, hc, hdn, hd⟩, _⟩ := I.list (a := a) (xs := xs) (.inl (.inl ha))
  refine ⟨⟨_, ho, hc⟩, fun b e => ?_⟩
  cases e
  exact ⟨_, ho, hdn⟩
def gIdx (ga gb : TDE) : TDE := fun Δ K => ga Δ fun x => isListD x = true ∧ gb Δ fun y => idxD [x, y] K
theorem de_index (C : Cxt X W N sc kk) (ho : DB X W o ga ca) (he : DB X W e gb cb)
    (hbase : attributeBase o "index" X.env (eval o X.env) = eval o X.env := by rfl)
    (hfew : ((backTo pos (starEach [e] X.env)).all (fun x => !x.1) && (backToKw pos (keywordEach [] X.env)).all (fun x => x.1.isSome) && decide (([e] : List Expr).length + ([] : List Keyword).length + (if ([] : List Keyword).isEmpty then 0 else 1) < 30)) = true := by rfl)
    (hline : (apos.endLine == pos.line) = true := by rfl) (hs : starEach [e] X.env = (false, eval e X.env) :: starEach [] X.env := by rfl) :
    DE X W (.Call (.Attribute o "index" apos) [e] [] pos) (gIdx ga gb) (ca + cb) :=
  pe_imp (pe_mG ty_lst F.plainAttrs_list F.slot_list_index F.type_list_index dm_index ho (pa_cons he pa_nil hs) hbase hfew hline hs rfl) fun σ H Q ⟨k, Δ, K, h1, h2, h3, h4⟩ => ⟨k, Δ, _, by omega, h2, h3, fun dx x H1 ⟨s1, q1⟩ c1 r1 => by
    have e1 := h2.chg C.ok c1
    have hb := RepO.bo C r1
    refine ⟨?_, k + ca, Δ, _, by omega, e1, q1, fun dy y H2 q2 c2 r2 => ?_⟩
    · cases dx with
      | list ds =>
        obtain ⟨a, xs, rfl, ha, _⟩ := hb.list
        exact ⟨a, xs, rfl, ha⟩
      | _ => cases s1
    have e2 := e1.chg C.ok c2
    refine ⟨AA W σ Δ, [dx, dy], K, e2.dom C, .cons (RepO.bo C (RepO.chg C e1 r1 c2)) (.cons (RepO.bo C r2) .nil), q2, fun d v H' hd hx hv => h4 d v H' hd ((chg3 c1 c2).trans ?_) (by rw [C.hK]; exact hv)⟩
    have e : k + ca + cb = k + (ca + cb) := by omega
    exact e ▸ Chg.of_ext e2.fin hx⟩
/-! ### a tuple of numbers that the module holds -/
def KIdx (K : PySem.W.Frag) (u : Value) (ns : List Int) : Prop := ∃ (a : Addr) (its : Array Value) (n : Nat) (sl : Array (Option Value)), u = .ref a ∧ K.lookup a = some ⟨.type "tuple", none, .seq its n, sl⟩ ∧ its.size ≤ sizeLine ∧ Vals (ns.map V.int) its.toList
def rKidx (K : PySem.W.Frag) (u : Value) (ns : List Int) : V → List V → Hp → VK → Prop := fun x xs H Q => ∃ a k j, u = .ref a ∧ x = .ref a ∧ xs = [.int k] ∧ ns[j]? = some k ∧ (∀ m, m < j → ns[m]? ≠ some k) ∧ Q (.int (j : Nat)) H
theorem mt_kidx {u : Value} {ns : List Int} (hk : KIdx X.K u ns) : MtR X "tuple.index" (rKidx X.K u ns) := by
  intro pins s σ H x xs v us Q I rx rs h
  obtain ⟨a, k, j, rfl, rfl, rfl, hy, hno, q⟩ := h
  obtain ⟨a', its, n, sl, e, hl, hz, r⟩ := hk
  cases e
  cases rx
  obtain ⟨u, rfl, t, rfl⟩ := vals1 rs
  have ho := I.kIn a _ hl
  have hl : its.size = ns.length := by
    have := r.length
    rw [List.length_map] at this
    rw [← Array.length_toList]
    exact this.symm
  have hj : j < its.size := by rw [hl]; exact (List.getElem?_eq_some_iff.mp hy).1
  have at' : ∀ (m : Nat) (hm : m < its.size), ∃ y t', ns[m]? = some y ∧ its[m] = Value.int y t' := fun m hm => by
    have hm' : m < ns.length := by rw [← hl]; exact hm
    obtain ⟨w, hw, t', hw'⟩ := r.get (i := m) (x := .int ns[m]) (by simp [hm'])
    refine ⟨ns[m], t', List.getElem?_eq_getElem hm', ?_⟩
    have e := (List.getElem?_eq_some_iff.mp hw).2
    rw [← hw', ← e]
    simp
  refine call_meets PySem.F.slot_tuple_index ⟨_, ho, rfl⟩ PySem.F.entry_tuple_index (PySem.F.args_tuple_index_2 _ _) (_root_.TI.tuple_indexAt a its n none sl (.int k t) (eqU (.int k)) j hj ?_ ?_)
    ⟨ho, fun w hw => mem_eqAt (x := .int k) ⟨t, rfl⟩ rfl r (by rw [List.all_map]; exact List.all_eq_true.mpr fun _ _ => rfl) w (by simpa using hw), ⟨.int (j : Nat), H, I.tok _, ⟨_, rfl⟩, q⟩⟩
  · obtain ⟨y, t', h1, h2⟩ := at' j hj
    rw [hy] at h1
    cases h1
    rw [h2]
    show (k == k) = true
    exact beq_self_eq_true k
  · intro m hm hmj
    obtain ⟨y, t', h1, h2⟩ := at' m hm
    rw [h2]
    show (y == k) = false
    exact beq_eq_false_iff_ne.mpr fun e => hno m hmj (e ▸ h1)
theorem ty_kidx {u : Value} {ns : List Int} (hk : KIdx X.K u ns) : TyOk X "tuple" fun x _ => ∃ a, u = .ref a ∧ x = .ref a := by
  intro pins σ H s x v I r ty
  obtain ⟨a, rfl, rfl⟩ := ty
  cases r
  obtain ⟨a', its, n, sl, e, hl, _⟩ := hk
  cases e
  have ho := I.kIn a _ hl
  refine ⟨⟨_, ho, rfl⟩, fun b e => ?_⟩
  cases e
  exact ⟨_, ho, rfl⟩
def gKidx (ns : List Int) (gb : TDE) : TDE := fun Δ K => gb Δ fun d => match d with
  | .int k => ∃ j : Nat, ns[j]? = some k ∧ (∀ m, m < j → ns[m]? ≠ some k) ∧ K (.int (j : Int))
  | _ => False
theorem de_kidx (C : Cxt X W N sc kk) {x : Str} {u : Value} {ns : List Int} {p : Pos} (hg : sc.names.lookup x = some .globalImplicit) (hm : X.mg x = some u) (hk : KIdx X.K u ns) (he : DB X W e gb cb) (hd : (x == ("__debug__" : Str)) = false := by decide +kernel)
    (hbase : attributeBase (.Name x p) "index" X.env (eval (.Name x p) X.env) = eval (.Name x p) X.env := by rfl)
    (hfew : ((backTo pos (starEach [e] X.env)).all (fun x => !x.1) && (backToKw pos (keywordEach [] X.env)).all (fun x => x.1.isSome) && decide (([e] : List Expr).length + ([] : List Keyword).length + (if ([] : List Keyword).isEmpty then 0 else 1) < 30)) = true := by rfl)
    (hline : (apos.endLine == pos.line) = true := by rfl) (hs : starEach [e] X.env = (false, eval e X.env) :: starEach [] X.env := by rfl) :
    DE X W (.Call (.Attribute (.Name x p) "index" apos) [e] [] pos) (gKidx ns gb) cb := by
  obtain ⟨a, its, n, sl, rfl, hl⟩ := _root_.id hk
  refine pe_imp (pe_mG (ty_kidx hk) F.plainAttrs_tuple F.slot_tuple_index F.type_tuple_index (mt_kidx hk) (pe_glob (v := .ref a) (C.gl hg) hm rfl hd) (pa_cons he pa_nil hs) hbase hfew hline hs rfl) fun σ H Q ⟨k, Δ, K, h1, h2, h3, h4⟩ => ?_
  refine ⟨⟨a, rfl, rfl⟩, k, Δ, _, by omega, h2, h3, fun dy y H2 q2 c2 r2 => ?_⟩
  cases dy with
  | int w =>
    obtain ⟨j, hj, hno, q⟩ := q2
    have e := RepO.int r2
    subst e
    exact ⟨a, w, j, rfl, rfl, rfl, hj, hno, h4 _ _ _ q c2 (.int _)⟩
  | _ => exact q2.elim
end
end DL
/-! K33: what the defs read (printed by gen.py). -/
namespace K33
open PySem PySem.Spec PyProof.Rows L2 DL
def topS (i : Nat) : Stmt := PySem.Challenge.pw_whatthepicturesays_k33_whole_costs_of_ti.main.body.getD i (.Pass ⟨0, 0, 0, 0⟩)
abbrev s__law_cells : Stmt := topS 50
abbrev s__law_pot : Stmt := topS 49
abbrev s__law_common : Stmt := topS 65
abbrev s__law_reduced : Stmt := topS 66
abbrev s__law_plus : Stmt := topS 67
abbrev s__law_times : Stmt := topS 64
abbrev s__law_values : Stmt := topS 68
abbrev s__law_less : Stmt := topS 63
abbrev s__law_power : Stmt := topS 61
abbrev s__law_parts : Stmt := topS 62
abbrev s__law_text : Stmt := topS 60
abbrev s__law_cost : Stmt := topS 69
abbrev s_is_integer : Stmt := topS 9
abbrev s_is_between : Stmt := topS 10
abbrev s_common : Stmt := topS 11
abbrev s_is_fraction : Stmt := topS 13
abbrev s_are_written : Stmt := topS 30
abbrev s_without_tens : Stmt := topS 27
abbrev s_parts_of_step : Stmt := topS 28
abbrev s_reduced : Stmt := topS 12
abbrev s_quotient : Stmt := topS 17
abbrev s_is_ticks : Stmt := topS 29
abbrev s_check_ticks : Stmt := topS 31
abbrev s_is_less : Stmt := topS 18
abbrev s_is_told_fraction : Stmt := topS 14
abbrev s_check_ends : Stmt := topS 46
abbrev s_are_wishes : Stmt := topS 42
abbrev s_check_wishes : Stmt := topS 43
abbrev s_added : Stmt := topS 15
abbrev s_product_of : Stmt := topS 16
abbrev s_last_of : Stmt := topS 33
abbrev s_do_cover : Stmt := topS 34
abbrev s_plain_cost : Stmt := topS 44
abbrev s_floor_of : Stmt := topS 19
abbrev s_ceiling_of : Stmt := topS 26
abbrev s_steps_around : Stmt := topS 36
abbrev s_steps_in_vain : Stmt := topS 37
abbrev s_fraction_text : Stmt := topS 20
abbrev s_values_of : Stmt := topS 32
abbrev s_signs_of : Stmt := topS 35
abbrev s_whole_cost : Stmt := topS 45
abbrev s_ticks_cost : Stmt := topS 47
abbrev s__law_take : Stmt := topS 57
abbrev s__law_of : Stmt := topS 58
abbrev s__law_odd : Stmt := topS 55
abbrev s__law_is_int : Stmt := topS 53
abbrev s__law_is_fraction : Stmt := topS 52
abbrev s__law_are_ticks : Stmt := topS 54
abbrev s__law_heard : Stmt := topS 51
abbrev s__law_are_refused : Stmt := topS 71
abbrev s__law_ticks : Stmt := topS 59
abbrev s__law_wishes : Stmt := topS 56
abbrev s__law_right : Stmt := topS 70
abbrev s_law : Stmt := topS 72
def lam_0 : LamC := lamX (exL (exL (exA (stN (defBody s__law_are_refused) 8)) 0) 0) ["bad", "far", "late"] [4, 5, 6]
def lam_1 : LamC := lamX (exL (exL (exA (stN (defBody s__law_are_refused) 9)) 0) 0) ["ticks", "far", "late"] [1, 5, 6]
def lam_2 : LamC := lamX (exL (exL (exA (stN (defBody s__law_are_refused) 10)) 0) 0) ["ticks", "ends", "late"] [1, 2, 6]
instance : Lams := ⟨fun n => match n with
  | 0 => some lam_0
  | 1 => some lam_1
  | 2 => some lam_2
  | _ => none, [(445, "_law_are_refused.<locals>.<lambda>")]⟩
def C_PictureError : Addr := 61
def C_BadTicks : Addr := 86
def C_BadRange : Addr := 98
def C_BadWishes : Addr := 74
def m_PictureError : Value → Option Bool
  | .ref 98 => some true
  | .ref 86 => some true
  | .ref 74 => some true
  | _ => none
def mi_BadRange : Addr → Option Bool
  | 98 => some true
  | 86 => some false
  | 74 => some false
  | _ => none
def mi_BadTicks : Addr → Option Bool
  | 98 => some false
  | 86 => some true
  | 74 => some false
  | _ => none
def mi_BadWishes : Addr → Option Bool
  | 98 => some false
  | 86 => some false
  | 74 => some true
  | _ => none
def d_BEYOND_TICKS : D := (.int 100000000000000000000000000000000000000000000000000000000000000000000000000000000000000000000000000000000000000000000000000000000000000000000000000000000000000000000000000000000000000000000000000000000000000000000000000000000000000000000000000000000000000000000000000000000000000000000000000000000000000000000000000000000000000000000000000000000000000000000000000000000000000000000000000000000000000000000000000000000000000000000000000000000000000000000000000000000000000000000000000000000000000000000000000000000000000000000000000000000000000000000000000000000000000000000000000000000000000000000000000000000000000000000000000000000000000000000000000000000000000000000000000000000000000000000000000000000000000000000000000000000000000000000000000000000000000000000000000000000000000000000000000000000000000000000000000000000000000000000000000000000000000000000000000000000000000000000000000000000000000000000000000000000000000000000000000000000000000000000000000000000000000000000000000000000000000000000000000000000000000000000000000000000000000000000000000000000000000000000000000000000000000000000000000000000000000000000000000000000000000000000000000000000000000000000000000000000000000000000000000000000000000000000000000000000000000000000000000000000000000000000000000000000000000000000000000000000000000000000000000000000000000000000000000000000000000000000000000000000000000000000000000000000000000000000000000000000000000000000000000000000000000000000000000000000000000000000000000000000000000000000000000000000000000000000000000000000000000000000000000000000000000000000000000000000000000000000000000000000000000000000000000000000000000000000000000000000000000000000000000000000000000000000000000000000000000000000000000000000000000000000000000000000000000000000000000000000000000000000000000000000000000000000000000000000000000000000000000000000000000000000000000000000000000000000000000000000000000000000000000000000000000000000000000000000000000000000000000000000000000000000000000000000)
def d_DIGITS : D := (.tuple [(.int 1), (.int 2), (.int 5)])
def d_FEWEST : D := (.int 2)
def d_MOST_TICKS : D := (.int 12)
def d_BEYOND : D := (.int 1000000000000000000000000000000000000000000000000000000000000000000000000000000000000000000000000000000000000000000000000000000000000000000000000000000000000000000000000000000000000000000000000000000000000000000000000000000000000000000000000000000000000000000000000000000000000000000000000000000000000)
def d_LEAST_WISH : D := (.int 2)
def d_MOST_WISH : D := (.int 10)
def d_MOST_WEIGHT : D := (.int 1000000)
def d_STROKE : D := (.str "/")
def N__law_cells : List Str := ["script", "limit"]
def G__law_cells (E : Value → D → Prop) : TDS :=
  (gRet (gL (gLRg (gCall maxD (gCo (gC (.int 1)) (gCo (gCall minD (gCo (gVar 1) (gCo (gLenS 0) gN))) gN))))))
@[irreducible] def F__law_cells : FSp := specOf 2 N__law_cells G__law_cells
def N__law_pot : List Str := ["script", "place", "cell", "own", "small"]
def R__law_pot_0 (E : Value → D → Prop) : TDS :=
  (gRet (gL (gLst (gCo (gVar 3) (gCo (gBin modD (gCall intD (gCo (gBin addD (gBin addD (gBin mulD (gVar 4) (gC (.int 590693))) (gBin mulD (gBin mulD (gC (.int 100381)) (gVar 1)) (gVar 1))) (gC (.int 61151))) gN)) (gC (.int 2305843009213693921))) (gCo (gC (.int 0)) gN))))))
def R__law_pot_1 (E : Value → D → Prop) : TDS :=
  (gSeq (gSet 4 (gBin modD (gCall intD (gCo (gVar 2) gN)) (gC (.int 2305843009213693951)))) (R__law_pot_0 E))
def R__law_pot_2 (E : Value → D → Prop) : TDS :=
  (gSeq (gSet 3 (gBin mulD (gBin modD (gCall intD (gCo (gCall absD (gCo (gVar 2) gN)) gN)) (gBin powD (gBin powD (gC (.int 10)) (gC (.int 60))) (gC (.int 5)))) (gCall intD (gCo (gBin geD (gCall absD (gCo (gVar 2) gN)) (gBin powD (gC (.int 10)) (gC (.int 18)))) gN)))) (R__law_pot_1 E))
def G__law_pot (E : Value → D → Prop) : TDS :=
  (gSeq (gSet 2 (gIf (gTB (gBin ltD (gVar 1) (gLenS 0))) (gIxS 0 (gVar 1)) (gBin addD (gBin addD (gBin modD (gSumS 0) (gC (.int 1000003))) (gBin mulD (gC (.int 90767)) (gVar 1))) (gC (.int 113965))))) (R__law_pot_2 E))
@[irreducible] def F__law_pot : FSp := specOf 2 N__law_pot G__law_pot
def N__law_common : List Str := ["one", "other"]
def R__law_common_0 (E : Value → D → Prop) : TDS :=
  (gRet (gVar 0))
def R__law_common_1 (E : Value → D → Prop) : TDS :=
  (gSeq (gWhC (0 + 0) 0 (gTB (gBin neD (gVar 1) (gC (.int 0)))) (gPar 0 1 (gCo (gVar 1) (gCo (gBin modD (gVar 0) (gVar 1)) gN)))) (R__law_common_0 E))
def G__law_common (E : Value → D → Prop) : TDS :=
  (gSeq (gPar 0 1 (gCo (gCall absD (gCo (gVar 0) gN)) (gCo (gCall absD (gCo (gVar 1) gN)) gN))) (R__law_common_1 E))
@[irreducible] def F__law_common : FSp := specOf 2 N__law_common G__law_common
def N__law_reduced : List Str := ["top", "low", "by"]
def R__law_reduced_0 (E : Value → D → Prop) : TDS :=
  (gRet (gTup (gCo (gBin fdivD (gVar 0) (gVar 2)) (gCo (gBin fdivD (gVar 1) (gVar 2)) gN))))
def G__law_reduced (E : Value → D → Prop) : TDS :=
  (gSeq (gSet 2 (gFn F__law_common E [] (gAd (gVar 0) (gAd (gVar 1) gAn)))) (R__law_reduced_0 E))
@[irreducible] def F__law_reduced : FSp := specOf 2 N__law_reduced G__law_reduced
def N__law_plus : List Str := ["one", "other"]
def G__law_plus (E : Value → D → Prop) : TDS :=
  (gRet (gFn F__law_reduced E [] (gAd (gBin addD (gBin mulD (gBin ixD (gVar 0) (gC (.int 0))) (gBin ixD (gVar 1) (gC (.int 1)))) (gBin mulD (gBin ixD (gVar 1) (gC (.int 0))) (gBin ixD (gVar 0) (gC (.int 1))))) (gAd (gBin mulD (gBin ixD (gVar 0) (gC (.int 1))) (gBin ixD (gVar 1) (gC (.int 1)))) gAn))))
@[irreducible] def F__law_plus : FSp := specOf 2 N__law_plus G__law_plus
def N__law_times : List Str := ["one", "other"]
def G__law_times (E : Value → D → Prop) : TDS :=
  (gRet (gFn F__law_reduced E [] (gAd (gBin mulD (gBin ixD (gVar 0) (gC (.int 0))) (gBin ixD (gVar 1) (gC (.int 0)))) (gAd (gBin mulD (gBin ixD (gVar 0) (gC (.int 1))) (gBin ixD (gVar 1) (gC (.int 1)))) gAn))))
@[irreducible] def F__law_times : FSp := specOf 2 N__law_times G__law_times
def N__law_values : List Str := ["first", "step", "many", "at"]
def G__law_values (E : Value → D → Prop) : TDS :=
  (gRet (gL (gLcC (0 + 0) 0 [3] (gRg1 (gVar 2)) (gTo 3) gYes (gFn F__law_plus NoE [] (gAd (gVar 0) (gAd (gFn F__law_times NoE [] (gAd (gTup (gCo (gVar 3) (gCo (gC (.int 1)) gN))) (gAd (gVar 1) gAn))) gAn))))))
@[irreducible] def F__law_values : FSp := specOf 3 N__law_values G__law_values
def N__law_less : List Str := ["one", "other"]
def G__law_less (E : Value → D → Prop) : TDS :=
  (gRet (gBin ltD (gBin mulD (gBin ixD (gVar 0) (gC (.int 0))) (gBin ixD (gVar 1) (gC (.int 1)))) (gBin mulD (gBin ixD (gVar 1) (gC (.int 0))) (gBin ixD (gVar 0) (gC (.int 1))))))
@[irreducible] def F__law_less : FSp := specOf 2 N__law_less G__law_less
def N__law_power : List Str := ["power", "found", "lap"]
def R__law_power_0 (E : Value → D → Prop) : TDS :=
  (gRet (gIf (gTB (gBin geD (gVar 0) (gC (.int 0)))) (gTup (gCo (gVar 1) (gCo (gC (.int 1)) gN))) (gTup (gCo (gC (.int 1)) (gCo (gVar 1) gN)))))
def R__law_power_1 (E : Value → D → Prop) : TDS :=
  (gSeq (gForC 0 0 (gRg1 (gCall absD (gCo (gVar 0) gN))) (gTo 2) (gSet 1 (gBin mulD (gVar 1) (gC (.int 10))))) (R__law_power_0 E))
def G__law_power (E : Value → D → Prop) : TDS :=
  (gSeq (gSet 1 (gC (.int 1))) (R__law_power_1 E))
@[irreducible] def F__law_power : FSp := specOf 1 N__law_power G__law_power
def N__law_parts : List Str := ["step", "size", "power", "digit"]
def R__law_parts_0 (E : Value → D → Prop) : TDS :=
  (gRet (gC .none))
def R__law_parts_1 (E : Value → D → Prop) : TDS :=
  (gSeq (gForC 0 0 (gSeqI (gTup (gCo (gBin subD (gVar 1) (gC (.int 1))) (gCo (gVar 1) (gCo (gBin addD (gVar 1) (gC (.int 1))) gN))))) (gTo 2) (gForC 0 0 (gSeqI (gTup (gCo (gC (.int 1)) (gCo (gC (.int 2)) (gCo (gC (.int 5)) gN))))) (gTo 3) (gIfS (gTB (gBin eqD (gFn F__law_times E [] (gAd (gTup (gCo (gVar 3) (gCo (gC (.int 1)) gN))) (gAd (gFn F__law_power E [] (gAd (gVar 2) gAn)) gAn))) (gVar 0))) (gRet (gTup (gCo (gVar 3) (gCo (gVar 2) gN)))) gNext))) (R__law_parts_0 E))
def R__law_parts_2 (E : Value → D → Prop) : TDS :=
  (gSeq (gSet 1 (gBin subD (gCall lenD (gCo (gCall strD (gCo (gBin ixD (gVar 0) (gC (.int 0))) gN)) gN)) (gCall lenD (gCo (gCall strD (gCo (gBin ixD (gVar 0) (gC (.int 1))) gN)) gN)))) (R__law_parts_1 E))
def G__law_parts (E : Value → D → Prop) : TDS :=
  (gSeq (gIfS (gTB (gBin ltD (gBin ixD (gVar 0) (gC (.int 0))) (gC (.int 1)))) (gRet (gC .none)) gNext) (R__law_parts_2 E))
@[irreducible] def F__law_parts : FSp := specOf 1 N__law_parts G__law_parts
def N__law_text : List Str := ["one"]
def G__law_text (E : Value → D → Prop) : TDS :=
  (gRet (gIf (gTB (gBin eqD (gBin ixD (gVar 0) (gC (.int 1))) (gC (.int 1)))) (gCall strD (gCo (gBin ixD (gVar 0) (gC (.int 0))) gN)) (gBin addD (gBin addD (gCall strD (gCo (gBin ixD (gVar 0) (gC (.int 0))) gN)) (gC (.str "/"))) (gCall strD (gCo (gBin ixD (gVar 0) (gC (.int 1))) gN)))))
@[irreducible] def F__law_text : FSp := specOf 1 N__law_text G__law_text
def N__law_cost : List Str := ["ticks", "ends", "wishes", "first", "step", "many", "values", "vain", "found", "one"]
def R__law_cost_0 (E : Value → D → Prop) : TDS :=
  (gRet (gCall intD (gCo (gBin addD (gBin addD (gVar 8) (gBin mulD (gBin ixD (gVar 2) (gC (.int 3))) (gVar 7))) (gBin mulD (gBin ixD (gVar 2) (gC (.int 4))) (gCall maxD (gCo (gL (gLcC (0 + 0) 0 [9] (gSeqI (gVar 6)) (gTo 9) gYes (gCall lenD (gCo (gFn F__law_text NoE [] (gAd (gVar 9) gAn)) gN)))) gN)))) gN)))
def R__law_cost_1 (E : Value → D → Prop) : TDS :=
  (gSeq (gSet 8 (gBin addD (gBin mulD (gBin ixD (gVar 2) (gC (.int 1))) (gIdx (gL (gLst (gCo (gC (.int 1)) (gCo (gC (.int 2)) (gCo (gC (.int 5)) gN))))) (gBin ixD (gFn F__law_parts E [] (gAd (gVar 4) gAn)) (gC (.int 0))))) (gBin mulD (gBin ixD (gVar 2) (gC (.int 2))) (gCall absD (gCo (gBin subD (gVar 5) (gBin ixD (gVar 2) (gC (.int 0)))) gN))))) (R__law_cost_0 E))
def R__law_cost_2 (E : Value → D → Prop) : TDS :=
  (gSeq (gSet 7 (gBin addD (gVar 7) (gCall lenD (gCo (gL (gLcC (0 + 0) 0 [9] (gSeqI (gSl slD (gVar 6) gNo (gPart (gNeg (gC (.int 1)))))) (gTo 9) (gNotT (gTB (gFn F__law_less NoE [] (gAd (gVar 9) (gAd (gBin ixD (gVar 1) (gC (.int 1))) gAn))))) (gVar 9))) gN)))) (R__law_cost_1 E))
def R__law_cost_3 (E : Value → D → Prop) : TDS :=
  (gSeq (gSet 7 (gCall lenD (gCo (gL (gLcC (0 + 0) 0 [9] (gSeqI (gSl slD (gVar 6) (gPart (gC (.int 1))) gNo)) (gTo 9) (gNotT (gTB (gFn F__law_less NoE [] (gAd (gBin ixD (gVar 1) (gC (.int 0))) (gAd (gVar 9) gAn))))) (gVar 9))) gN))) (R__law_cost_2 E))
def R__law_cost_4 (E : Value → D → Prop) : TDS :=
  (gSeq (gIfS (gOrT (gTB (gFn F__law_less E [] (gAd (gBin ixD (gVar 1) (gC (.int 0))) (gAd (gVar 3) gAn)))) (gTB (gFn F__law_less E [] (gAd (gBin ixD (gVar 6) (gNeg (gC (.int 1)))) (gAd (gBin ixD (gVar 1) (gC (.int 1))) gAn))))) (gRet (gC .none)) gNext) (R__law_cost_3 E))
def R__law_cost_5 (E : Value → D → Prop) : TDS :=
  (gSeq (gSet 6 (gFn F__law_values E [] (gAd (gVar 3) (gAd (gVar 4) (gAd (gVar 5) gAn))))) (R__law_cost_4 E))
def G__law_cost (E : Value → D → Prop) : TDS :=
  (gSeq (gAsg (gVar 0) (gToT 3 (gToC (gTo 3) (gToC (gTo 4) (gToC (gTo 5) gTo0))))) (R__law_cost_5 E))
@[irreducible] def F__law_cost : FSp := specOf 3 N__law_cost G__law_cost
def N_is_integer : List Str := ["value"]
def G_is_integer (E : Value → D → Prop) : TDS :=
  (gRet (gAndV (gIsi isIntD (gVar 0)) (gNotV (gIsi isBoolD (gVar 0)))))
@[irreducible] def F_is_integer : FSp := specOf 1 N_is_integer G_is_integer
def N_is_between : List Str := ["value", "low", "high"]
def G_is_between (E : Value → D → Prop) : TDS :=
  (gRet (gAndV (gFn F_is_integer E [] (gAd (gVar 0) gAn)) (gChain leD leD (gVar 1) (gVar 0) (gVar 2))))
@[irreducible] def F_is_between : FSp := specOf 3 N_is_between G_is_between
def N_common : List Str := ["one", "other"]
def G_common (E : Value → D → Prop) : TDS :=
  (gRet (gCall gcdD (gCo (gVar 0) (gCo (gVar 1) gN))))
@[irreducible] def F_common : FSp := specOf 2 N_common G_common
def N_is_fraction : List Str := ["value", "part"]
def R_is_fraction_0 (E : Value → D → Prop) : TDS :=
  (gRet (gAndV (gBin geD (gBin ixD (gVar 0) (gC (.int 1))) (gC (.int 1))) (gBin eqD (gFn F_common E [] (gAd (gBin ixD (gVar 0) (gC (.int 0))) (gAd (gBin ixD (gVar 0) (gC (.int 1))) gAn))) (gC (.int 1)))))
def G_is_fraction (E : Value → D → Prop) : TDS :=
  (gSeq (gIfS (gOrT (gNotT (gTB (gIsi isTupD (gVar 0)))) (gOrT (gTB (gBin neD (gCall lenD (gCo (gVar 0) gN)) (gC (.int 2)))) (gNotT (gTB (gCall allD (gCo (gL (gLcC (0 + 0) 0 [1] (gSeqI (gVar 0)) (gTo 1) gYes (gFn F_is_integer NoE [] (gAd (gVar 1) gAn)))) gN)))))) (gRet (gC (.bool false))) gNext) (R_is_fraction_0 E))
@[irreducible] def F_is_fraction : FSp := specOf 1 N_is_fraction G_is_fraction
def N_are_written : List Str := ["value", "part"]
def R_are_written_0 (E : Value → D → Prop) : TDS :=
  (gRet (gAndV (gCall allD (gCo (gL (gLcC (0 + 0) 0 [1] (gSeqI (gVar 0)) (gTo 1) gYes (gBin ltD (gCall absD (gCo (gVar 1) gN)) (gC d_BEYOND_TICKS)))) gN)) (gFn F_is_fraction E [] (gAd (gVar 0) gAn))))
def G_are_written (E : Value → D → Prop) : TDS :=
  (gSeq (gIfS (gOrT (gNotT (gTB (gIsi isTupD (gVar 0)))) (gOrT (gTB (gBin neD (gCall lenD (gCo (gVar 0) gN)) (gC (.int 2)))) (gNotT (gTB (gCall allD (gCo (gL (gLcC (0 + 0) 0 [1] (gSeqI (gVar 0)) (gTo 1) gYes (gFn F_is_integer NoE [] (gAd (gVar 1) gAn)))) gN)))))) (gRet (gC (.bool false))) gNext) (R_are_written_0 E))
@[irreducible] def F_are_written : FSp := specOf 1 N_are_written G_are_written
def N_without_tens : List Str := ["number", "many"]
def R_without_tens_0 (E : Value → D → Prop) : TDS :=
  (gRet (gTup (gCo (gVar 0) (gCo (gVar 1) gN))))
def R_without_tens_1 (E : Value → D → Prop) : TDS :=
  (gSeq (gWhC (0 + 0) 0 (gTB (gBin eqD (gBin modD (gVar 0) (gC (.int 10))) (gC (.int 0)))) (gPar 0 1 (gCo (gBin fdivD (gVar 0) (gC (.int 10))) (gCo (gBin addD (gVar 1) (gC (.int 1))) gN)))) (R_without_tens_0 E))
def G_without_tens (E : Value → D → Prop) : TDS :=
  (gSeq (gSet 1 (gC (.int 0))) (R_without_tens_1 E))
@[irreducible] def F_without_tens : FSp := specOf 1 N_without_tens G_without_tens
def N_parts_of_step : List Str := ["step", "digit", "power", "rest", "many"]
def R_parts_of_step_0 (E : Value → D → Prop) : TDS :=
  (gRet (gIf (gTB (gBin eqD (gVar 3) (gC (.int 1)))) (gTup (gCo (gC (.int 1)) (gCo (gBin subD (gC (.int 0)) (gVar 4)) gN))) (gTup (gCo (gBin fdivD (gC (.int 10)) (gVar 3)) (gCo (gBin subD (gBin subD (gC (.int 0)) (gVar 4)) (gC (.int 1))) gN)))))
def R_parts_of_step_1 (E : Value → D → Prop) : TDS :=
  (gSeq (gIfS (gOrT (gTB (gBin neD (gBin ixD (gVar 0) (gC (.int 0))) (gC (.int 1)))) (gTB (gBin notinD (gVar 3) (gC d_DIGITS)))) (gRet (gC .none)) gNext) (R_parts_of_step_0 E))
def R_parts_of_step_2 (E : Value → D → Prop) : TDS :=
  (gSeq (gAsg (gFn F_without_tens E [] (gAd (gBin ixD (gVar 0) (gC (.int 1))) gAn)) (gToT 2 (gToC (gTo 3) (gToC (gTo 4) gTo0)))) (R_parts_of_step_1 E))
def R_parts_of_step_3 (E : Value → D → Prop) : TDS :=
  (gSeq (gIfS (gTB (gBin eqD (gBin ixD (gVar 0) (gC (.int 1))) (gC (.int 1)))) (gRet (gIf (gTB (gBin inD (gVar 1) (gC d_DIGITS))) (gTup (gCo (gVar 1) (gCo (gVar 2) gN))) (gC .none))) gNext) (R_parts_of_step_2 E))
def R_parts_of_step_4 (E : Value → D → Prop) : TDS :=
  (gSeq (gAsg (gFn F_without_tens E [] (gAd (gBin ixD (gVar 0) (gC (.int 0))) gAn)) (gToT 2 (gToC (gTo 1) (gToC (gTo 2) gTo0)))) (R_parts_of_step_3 E))
def G_parts_of_step (E : Value → D → Prop) : TDS :=
  (gSeq (gIfS (gTB (gBin ltD (gBin ixD (gVar 0) (gC (.int 0))) (gC (.int 1)))) (gRet (gC .none)) gNext) (R_parts_of_step_4 E))
@[irreducible] def F_parts_of_step : FSp := specOf 1 N_parts_of_step G_parts_of_step
def N_reduced : List Str := ["top", "low", "by"]
def R_reduced_0 (E : Value → D → Prop) : TDS :=
  (gRet (gTup (gCo (gBin fdivD (gVar 0) (gVar 2)) (gCo (gBin fdivD (gVar 1) (gVar 2)) gN))))
def G_reduced (E : Value → D → Prop) : TDS :=
  (gSeq (gSet 2 (gIf (gTB (gBin gtD (gVar 1) (gC (.int 0)))) (gFn F_common E [] (gAd (gVar 0) (gAd (gVar 1) gAn))) (gBin subD (gC (.int 0)) (gFn F_common E [] (gAd (gVar 0) (gAd (gVar 1) gAn)))))) (R_reduced_0 E))
@[irreducible] def F_reduced : FSp := specOf 2 N_reduced G_reduced
def N_quotient : List Str := ["one", "other"]
def G_quotient (E : Value → D → Prop) : TDS :=
  (gRet (gFn F_reduced E [] (gAd (gBin mulD (gBin ixD (gVar 0) (gC (.int 0))) (gBin ixD (gVar 1) (gC (.int 1)))) (gAd (gBin mulD (gBin ixD (gVar 0) (gC (.int 1))) (gBin ixD (gVar 1) (gC (.int 0)))) gAn))))
@[irreducible] def F_quotient : FSp := specOf 2 N_quotient G_quotient
def N_is_ticks : List Str := ["value", "first", "step"]
def R_is_ticks_0 (E : Value → D → Prop) : TDS :=
  (gRet (gBin eqD (gBin ixD (gFn F_quotient E [] (gAd (gVar 1) (gAd (gVar 2) gAn))) (gC (.int 1))) (gC (.int 1))))
def R_is_ticks_1 (E : Value → D → Prop) : TDS :=
  (gSeq (gIfS (gOrT (gNotT (gTB (gFn F_are_written E [] (gAd (gVar 1) gAn)))) (gOrT (gNotT (gTB (gFn F_are_written E [] (gAd (gVar 2) gAn)))) (gTB (gBin isD (gFn F_parts_of_step E [] (gAd (gVar 2) gAn)) (gC .none))))) (gRet (gC (.bool false))) gNext) (R_is_ticks_0 E))
def R_is_ticks_2 (E : Value → D → Prop) : TDS :=
  (gSeq (gPar 1 2 (gCo (gBin ixD (gVar 0) (gC (.int 0))) (gCo (gBin ixD (gVar 0) (gC (.int 1))) gN))) (R_is_ticks_1 E))
def G_is_ticks (E : Value → D → Prop) : TDS :=
  (gSeq (gIfS (gOrT (gNotT (gTB (gIsi isTupD (gVar 0)))) (gOrT (gTB (gBin neD (gCall lenD (gCo (gVar 0) gN)) (gC (.int 3)))) (gNotT (gTB (gFn F_is_between E [] (gAd (gBin ixD (gVar 0) (gC (.int 2))) (gAd (gC d_FEWEST) (gAd (gC d_MOST_TICKS) gAn)))))))) (gRet (gC (.bool false))) gNext) (R_is_ticks_2 E))
@[irreducible] def F_is_ticks : FSp := specOf 1 N_is_ticks G_is_ticks
def N_check_ticks : List Str := ["ticks"]
def G_check_ticks (E : Value → D → Prop) : TDS :=
  (gIfS (gNotT (gTB (gFn F_is_ticks E [] (gAd (gVar 0) gAn)))) (gRaise C_BadTicks E (gVar 0)) gNext)
@[irreducible] def F_check_ticks : FSp := specOf 1 N_check_ticks G_check_ticks
def N_is_less : List Str := ["one", "other"]
def G_is_less (E : Value → D → Prop) : TDS :=
  (gRet (gBin ltD (gBin mulD (gBin ixD (gVar 0) (gC (.int 0))) (gBin ixD (gVar 1) (gC (.int 1)))) (gBin mulD (gBin ixD (gVar 1) (gC (.int 0))) (gBin ixD (gVar 0) (gC (.int 1))))))
@[irreducible] def F_is_less : FSp := specOf 2 N_is_less G_is_less
def N_is_told_fraction : List Str := ["value"]
def G_is_told_fraction (E : Value → D → Prop) : TDS :=
  (gRet (gAndV (gFn F_is_fraction E [] (gAd (gVar 0) gAn)) (gAndV (gBin ltD (gCall absD (gCo (gBin ixD (gVar 0) (gC (.int 0))) gN)) (gC d_BEYOND)) (gBin ltD (gBin ixD (gVar 0) (gC (.int 1))) (gC d_BEYOND)))))
@[irreducible] def F_is_told_fraction : FSp := specOf 1 N_is_told_fraction G_is_told_fraction
def N_check_ends : List Str := ["ends", "one"]
def R_check_ends_0 (E : Value → D → Prop) : TDS :=
  (gIfS (gTB (gFn F_is_less E [] (gAd (gBin ixD (gVar 0) (gC (.int 1))) (gAd (gBin ixD (gVar 0) (gC (.int 0))) gAn)))) (gRaise C_BadRange E (gVar 0)) gNext)
def G_check_ends (E : Value → D → Prop) : TDS :=
  (gSeq (gIfS (gOrT (gNotT (gTB (gIsi isTupD (gVar 0)))) (gOrT (gTB (gBin neD (gCall lenD (gCo (gVar 0) gN)) (gC (.int 2)))) (gNotT (gTB (gCall allD (gCo (gL (gLcC (0 + 0) 0 [1] (gSeqI (gVar 0)) (gTo 1) gYes (gFn F_is_told_fraction NoE [] (gAd (gVar 1) gAn)))) gN)))))) (gRaise C_BadRange E (gVar 0)) gNext) (R_check_ends_0 E))
@[irreducible] def F_check_ends : FSp := specOf 1 N_check_ends G_check_ends
def N_are_wishes : List Str := ["value", "one"]
def R_are_wishes_0 (E : Value → D → Prop) : TDS :=
  (gRet (gAndV (gCall allD (gCo (gL (gLcC (0 + 0) 0 [1] (gSeqI (gSl slD (gVar 0) (gPart (gC (.int 1))) gNo)) (gTo 1) gYes (gFn F_is_between NoE [] (gAd (gVar 1) (gAd (gC (.int 0)) (gAd (gC d_MOST_WEIGHT) gAn)))))) gN)) (gBin gtD (gBin ixD (gVar 0) (gC (.int 4))) (gC (.int 0)))))
def G_are_wishes (E : Value → D → Prop) : TDS :=
  (gSeq (gIfS (gOrT (gNotT (gTB (gIsi isTupD (gVar 0)))) (gOrT (gTB (gBin neD (gCall lenD (gCo (gVar 0) gN)) (gC (.int 5)))) (gNotT (gTB (gFn F_is_between E [] (gAd (gBin ixD (gVar 0) (gC (.int 0))) (gAd (gC d_LEAST_WISH) (gAd (gC d_MOST_WISH) gAn)))))))) (gRet (gC (.bool false))) gNext) (R_are_wishes_0 E))
@[irreducible] def F_are_wishes : FSp := specOf 1 N_are_wishes G_are_wishes
def N_check_wishes : List Str := ["wishes"]
def G_check_wishes (E : Value → D → Prop) : TDS :=
  (gIfS (gNotT (gTB (gFn F_are_wishes E [] (gAd (gVar 0) gAn)))) (gRaise C_BadWishes E (gVar 0)) gNext)
@[irreducible] def F_check_wishes : FSp := specOf 1 N_check_wishes G_check_wishes
def N_added : List Str := ["one", "other"]
def G_added (E : Value → D → Prop) : TDS :=
  (gRet (gFn F_reduced E [] (gAd (gBin addD (gBin mulD (gBin ixD (gVar 0) (gC (.int 0))) (gBin ixD (gVar 1) (gC (.int 1)))) (gBin mulD (gBin ixD (gVar 1) (gC (.int 0))) (gBin ixD (gVar 0) (gC (.int 1))))) (gAd (gBin mulD (gBin ixD (gVar 0) (gC (.int 1))) (gBin ixD (gVar 1) (gC (.int 1)))) gAn))))
@[irreducible] def F_added : FSp := specOf 2 N_added G_added
def N_product_of : List Str := ["one", "other"]
def G_product_of (E : Value → D → Prop) : TDS :=
  (gRet (gFn F_reduced E [] (gAd (gBin mulD (gBin ixD (gVar 0) (gC (.int 0))) (gBin ixD (gVar 1) (gC (.int 0)))) (gAd (gBin mulD (gBin ixD (gVar 0) (gC (.int 1))) (gBin ixD (gVar 1) (gC (.int 1)))) gAn))))
@[irreducible] def F_product_of : FSp := specOf 2 N_product_of G_product_of
def N_last_of : List Str := ["ticks"]
def G_last_of (E : Value → D → Prop) : TDS :=
  (gRet (gFn F_added E [] (gAd (gBin ixD (gVar 0) (gC (.int 0))) (gAd (gFn F_product_of E [] (gAd (gTup (gCo (gBin subD (gBin ixD (gVar 0) (gC (.int 2))) (gC (.int 1))) (gCo (gC (.int 1)) gN))) (gAd (gBin ixD (gVar 0) (gC (.int 1))) gAn))) gAn))))
@[irreducible] def F_last_of : FSp := specOf 1 N_last_of G_last_of
def N_do_cover : List Str := ["ticks", "least", "most"]
def G_do_cover (E : Value → D → Prop) : TDS :=
  (gRet (gAndV (gNotV (gFn F_is_less E [] (gAd (gVar 1) (gAd (gBin ixD (gVar 0) (gC (.int 0))) gAn)))) (gNotV (gFn F_is_less E [] (gAd (gFn F_last_of E [] (gAd (gVar 0) gAn)) (gAd (gVar 2) gAn))))))
@[irreducible] def F_do_cover : FSp := specOf 3 N_do_cover G_do_cover
def N_plain_cost : List Str := ["digit", "many", "vain", "wishes"]
def G_plain_cost (E : Value → D → Prop) : TDS :=
  (gRet (gBin addD (gBin addD (gBin mulD (gBin ixD (gVar 3) (gC (.int 1))) (gKidx [1, 2, 5] (gVar 0))) (gBin mulD (gBin ixD (gVar 3) (gC (.int 2))) (gCall absD (gCo (gBin subD (gVar 1) (gBin ixD (gVar 3) (gC (.int 0)))) gN)))) (gBin mulD (gBin ixD (gVar 3) (gC (.int 3))) (gVar 2))))
@[irreducible] def F_plain_cost : FSp := specOf 4 N_plain_cost G_plain_cost
def N_floor_of : List Str := ["one"]
def G_floor_of (E : Value → D → Prop) : TDS :=
  (gRet (gBin fdivD (gBin ixD (gVar 0) (gC (.int 0))) (gBin ixD (gVar 0) (gC (.int 1)))))
@[irreducible] def F_floor_of : FSp := specOf 1 N_floor_of G_floor_of
def N_ceiling_of : List Str := ["one"]
def G_ceiling_of (E : Value → D → Prop) : TDS :=
  (gRet (gBin subD (gC (.int 0)) (gFn F_floor_of E [] (gAd (gTup (gCo (gBin subD (gC (.int 0)) (gBin ixD (gVar 0) (gC (.int 0)))) (gCo (gBin ixD (gVar 0) (gC (.int 1))) gN))) gAn))))
@[irreducible] def F_ceiling_of : FSp := specOf 1 N_ceiling_of G_ceiling_of
def N_steps_around : List Str := ["step", "ends"]
def G_steps_around (E : Value → D → Prop) : TDS :=
  (gRet (gTup (gCo (gFn F_floor_of E [] (gAd (gFn F_quotient E [] (gAd (gBin ixD (gVar 1) (gC (.int 0))) (gAd (gVar 0) gAn))) gAn)) (gCo (gFn F_ceiling_of E [] (gAd (gFn F_quotient E [] (gAd (gBin ixD (gVar 1) (gC (.int 1))) (gAd (gVar 0) gAn))) gAn)) gN))))
@[irreducible] def F_steps_around : FSp := specOf 2 N_steps_around G_steps_around
def N_steps_in_vain : List Str := ["ticks", "ends", "low", "high"]
def R_steps_in_vain_0 (E : Value → D → Prop) : TDS :=
  (gRet (gBin subD (gBin subD (gBin ixD (gVar 0) (gC (.int 2))) (gC (.int 1))) (gBin subD (gVar 3) (gVar 2))))
def G_steps_in_vain (E : Value → D → Prop) : TDS :=
  (gSeq (gAsg (gFn F_steps_around E [] (gAd (gBin ixD (gVar 0) (gC (.int 1))) (gAd (gVar 1) gAn))) (gToT 2 (gToC (gTo 2) (gToC (gTo 3) gTo0)))) (R_steps_in_vain_0 E))
@[irreducible] def F_steps_in_vain : FSp := specOf 2 N_steps_in_vain G_steps_in_vain
def N_fraction_text : List Str := ["one"]
def G_fraction_text (E : Value → D → Prop) : TDS :=
  (gRet (gIf (gTB (gBin eqD (gBin ixD (gVar 0) (gC (.int 1))) (gC (.int 1)))) (gCall strD (gCo (gBin ixD (gVar 0) (gC (.int 0))) gN)) (gBin addD (gBin addD (gCall strD (gCo (gBin ixD (gVar 0) (gC (.int 0))) gN)) (gC d_STROKE)) (gCall strD (gCo (gBin ixD (gVar 0) (gC (.int 1))) gN)))))
@[irreducible] def F_fraction_text : FSp := specOf 1 N_fraction_text G_fraction_text
def N_values_of : List Str := ["ticks", "first", "step", "many", "at"]
def R_values_of_0 (E : Value → D → Prop) : TDS :=
  (gRet (gL (gLcC (0 + 0) 0 [4] (gRg1 (gVar 3)) (gTo 4) gYes (gFn F_added NoE [] (gAd (gVar 1) (gAd (gFn F_product_of NoE [] (gAd (gTup (gCo (gVar 4) (gCo (gC (.int 1)) gN))) (gAd (gVar 2) gAn))) gAn))))))
def G_values_of (E : Value → D → Prop) : TDS :=
  (gSeq (gAsg (gVar 0) (gToT 3 (gToC (gTo 1) (gToC (gTo 2) (gToC (gTo 3) gTo0))))) (R_values_of_0 E))
@[irreducible] def F_values_of : FSp := specOf 1 N_values_of G_values_of
def N_signs_of : List Str := ["ticks", "one"]
def G_signs_of (E : Value → D → Prop) : TDS :=
  (gRet (gCall maxD (gCo (gL (gLcC (0 + 0) 0 [1] (gSeqI (gFn F_values_of E [] (gAd (gVar 0) gAn))) (gTo 1) gYes (gCall lenD (gCo (gFn F_fraction_text NoE [] (gAd (gVar 1) gAn)) gN)))) gN)))
@[irreducible] def F_signs_of : FSp := specOf 1 N_signs_of G_signs_of
def N_whole_cost : List Str := ["ticks", "ends", "wishes", "digit"]
def R_whole_cost_0 (E : Value → D → Prop) : TDS :=
  (gRet (gBin addD (gFn F_plain_cost E [] (gAd (gVar 3) (gAd (gBin ixD (gVar 0) (gC (.int 2))) (gAd (gFn F_steps_in_vain E [] (gAd (gVar 0) (gAd (gVar 1) gAn))) (gAd (gVar 2) gAn))))) (gBin mulD (gBin ixD (gVar 2) (gC (.int 4))) (gFn F_signs_of E [] (gAd (gVar 0) gAn)))))
def G_whole_cost (E : Value → D → Prop) : TDS :=
  (gSeq (gSet 3 (gBin ixD (gFn F_parts_of_step E [] (gAd (gBin ixD (gVar 0) (gC (.int 1))) gAn)) (gC (.int 0)))) (R_whole_cost_0 E))
@[irreducible] def F_whole_cost : FSp := specOf 3 N_whole_cost G_whole_cost
def N_ticks_cost : List Str := ["ticks", "ends", "wishes"]
def R_ticks_cost_0 (E : Value → D → Prop) : TDS :=
  (gRet (gIf (gTB (gFn F_do_cover E [] (gAd (gVar 0) (gAd (gBin ixD (gVar 1) (gC (.int 0))) (gAd (gBin ixD (gVar 1) (gC (.int 1))) gAn))))) (gFn F_whole_cost E [] (gAd (gVar 0) (gAd (gVar 1) (gAd (gVar 2) gAn)))) (gC .none)))
def R_ticks_cost_1 (E : Value → D → Prop) : TDS :=
  (gSeq (gDrop (gFn F_check_wishes E [] (gAd (gVar 2) gAn))) (R_ticks_cost_0 E))
def R_ticks_cost_2 (E : Value → D → Prop) : TDS :=
  (gSeq (gDrop (gFn F_check_ends E [] (gAd (gVar 1) gAn))) (R_ticks_cost_1 E))
def G_ticks_cost (E : Value → D → Prop) : TDS :=
  (gSeq (gDrop (gFn F_check_ticks E [] (gAd (gVar 0) gAn))) (R_ticks_cost_2 E))
@[irreducible] def F_ticks_cost : FSp := specOf 3 N_ticks_cost G_ticks_cost
def N__law_take : List Str := ["pot", "upto", "digit", "prime", "blend"]
def R__law_take_0 (E : Value → D → Prop) : TDS :=
  (gRet (gVar 2))
def R__law_take_1 (E : Value → D → Prop) : TDS :=
  (gSeq (gPs0 0 (gBin fdivD (gPix 0 0) (gVar 1))) (R__law_take_0 E))
def R__law_take_2 (E : Value → D → Prop) : TDS :=
  (gRet (gBin modD (gCall intD (gCo (gBin fdivD (gVar 4) (gC (.int 128))) gN)) (gVar 1)))
def R__law_take_3 (E : Value → D → Prop) : TDS :=
  (gSeq (gSet 4 (gBin modD (gCall intD (gCo (gBin mulD (gVar 4) (gBin addD (gBin modD (gCall intD (gCo (gVar 4) gN)) (gC (.int 122966))) (gBin mulD (gC (.int 94)) (gPix 0 2)))) gN)) (gC (.int 2305843009213693907)))) (R__law_take_2 E))
def R__law_take_4 (E : Value → D → Prop) : TDS :=
  (gSeq (gSet 4 (gBin modD (gCall intD (gCo (gBin powD (gCall intD (gCo (gBin addD (gBin addD (gPix 0 1) (gBin mulD (gBin mulD (gC (.int 180778)) (gPix 0 2)) (gPix 0 2))) (gC (.int 61151))) gN)) (gC (.int 3))) gN)) (gVar 3))) (R__law_take_3 E))
def R__law_take_5 (E : Value → D → Prop) : TDS :=
  (gSeq (gSet 3 (gBin ixD (gL (gLst (gCo (gC (.int 2147483647)) (gCo (gC (.int 2147483629)) (gCo (gC (.int 2147483587)) (gCo (gC (.int 2147483579)) (gCo (gC (.int 2147483563)) gN))))))) (gBin modD (gCall intD (gCo (gPix 0 2) gN)) (gC (.int 5))))) (R__law_take_4 E))
def R__law_take_6 (E : Value → D → Prop) : TDS :=
  (gSeq (gTick 0) (R__law_take_5 E))
def G__law_take (E : Value → D → Prop) : TDS :=
  (gSeq (gIfS (gTB (gBin gtD (gPix 0 0) (gC (.int 0)))) (gSeq (gSet 2 (gBin modD (gCall intD (gCo (gPix 0 0) gN)) (gVar 1))) (R__law_take_1 E)) gNext) (R__law_take_6 E))
@[irreducible] def F__law_take : FSp := specOf 2 N__law_take G__law_take
def N__law_of : List Str := ["pot", "some"]
def G__law_of (E : Value → D → Prop) : TDS :=
  (gRet (gBin ixD (gVar 1) (gFn F__law_take E [] (gAp 0 (gAd (gCall lenD (gCo (gVar 1) gN)) gAn)))))
@[irreducible] def F__law_of : FSp := specOf 2 N__law_of G__law_of
def N__law_odd : List Str := ["pot", "ticks", "first", "step", "many", "half", "odd"]
def R__law_odd_0 (E : Value → D → Prop) : TDS :=
  (gFrz 6 (gRet (gFn F__law_of E [] (gAp 0 (gAd (gVar 6) gAn)))))
def R__law_odd_1 (E : Value → D → Prop) : TDS :=
  (gSeq (gExt 6 (gL (gLst (gCo (gTup (gCo (gTup (gCo (gC (.int 1)) (gCo (gC (.int 0)) gN))) (gCo (gVar 3) (gCo (gVar 4) gN)))) (gCo (gTup (gCo (gVar 2) (gCo (gVar 3) (gCo (gCall strD (gCo (gVar 4) gN)) gN)))) gN))))) (R__law_odd_0 E))
def R__law_odd_2 (E : Value → D → Prop) : TDS :=
  (gSeq (gExt 6 (gL (gLst (gCo (gTup (gCo (gBin ixD (gVar 2) (gC (.int 0))) (gCo (gVar 3) (gCo (gVar 4) gN)))) (gCo (gTup (gCo (gL (gCallF listD (gCo (gVar 2) gN))) (gCo (gVar 3) (gCo (gVar 4) gN)))) (gCo (gTup (gCo (gVar 2) (gCo (gSl slD (gVar 3) gNo (gPart (gC (.int 1)))) (gCo (gVar 4) gN)))) gN)))))) (R__law_odd_1 E))
def R__law_odd_3 (E : Value → D → Prop) : TDS :=
  (gSeq (gExt 6 (gL (gLst (gCo (gTup (gCo (gTup (gCo (gBin mulD (gC (.int 2)) (gBin ixD (gVar 2) (gC (.int 0)))) (gCo (gBin mulD (gC (.int 2)) (gBin ixD (gVar 2) (gC (.int 1)))) gN))) (gCo (gVar 3) (gCo (gVar 4) gN)))) (gCo (gTup (gCo (gVar 2) (gCo (gTup (gCo (gBin subD (gC (.int 0)) (gBin ixD (gVar 3) (gC (.int 0)))) (gCo (gBin ixD (gVar 3) (gC (.int 1))) gN))) (gCo (gVar 4) gN)))) gN))))) (R__law_odd_2 E))
def R__law_odd_4 (E : Value → D → Prop) : TDS :=
  (gSeq (gExt 6 (gL (gLst (gCo (gTup (gCo (gVar 2) (gCo (gTup (gCo (gC (.int 1)) (gCo (gC (.int 0)) gN))) (gCo (gVar 4) gN)))) gN)))) (R__law_odd_3 E))
def R__law_odd_5 (E : Value → D → Prop) : TDS :=
  (gSeq (gExt 6 (gL (gLst (gCo (gTup (gCo (gVar 2) (gCo (gVar 3) (gCo (gC (.int 1)) gN)))) (gCo (gTup (gCo (gVar 2) (gCo (gVar 3) (gCo (gC (.int 13)) gN)))) (gCo (gTup (gCo (gVar 2) (gCo (gVar 3) (gCo (gC (.bool true)) gN)))) (gCo (gTup (gCo (gVar 2) (gCo (gTup (gCo (gC (.int 0)) (gCo (gC (.int 1)) gN))) (gCo (gVar 4) gN)))) gN))))))) (R__law_odd_4 E))
def R__law_odd_6 (E : Value → D → Prop) : TDS :=
  (gSeq (gExt 6 (gL (gLst (gCo (gTup (gCo (gVar 2) (gCo (gFn F__law_times E [] (gAd (gVar 3) (gAd (gTup (gCo (gC (.int 3)) (gCo (gC (.int 1)) gN))) gAn))) (gCo (gVar 4) gN)))) gN)))) (R__law_odd_5 E))
def R__law_odd_7 (E : Value → D → Prop) : TDS :=
  (gSeq (gSetF 6 (gLst (gCo (gC .none) (gCo (gTup gN) (gCo (gL (gLst (gCo (gVar 2) (gCo (gVar 3) (gCo (gVar 4) gN))))) (gCo (gTup (gCo (gVar 2) (gCo (gVar 3) gN))) (gCo (gTup (gCo (gVar 2) (gCo (gVar 3) (gCo (gVar 4) (gCo (gC (.int 1)) gN))))) (gCo (gTup (gCo (gVar 5) (gCo (gVar 3) (gCo (gVar 4) gN)))) gN)))))))) (R__law_odd_6 E))
def R__law_odd_8 (E : Value → D → Prop) : TDS :=
  (gSeq (gSet 5 (gFn F__law_plus E [] (gAd (gVar 2) (gAd (gFn F__law_times E [] (gAd (gVar 3) (gAd (gTup (gCo (gC (.int 1)) (gCo (gC (.int 2)) gN))) gAn))) gAn)))) (R__law_odd_7 E))
def G__law_odd (E : Value → D → Prop) : TDS :=
  (gSeq (gAsg (gVar 1) (gToT 3 (gToC (gTo 2) (gToC (gTo 3) (gToC (gTo 4) gTo0))))) (R__law_odd_8 E))
@[irreducible] def F__law_odd : FSp := specOf 2 N__law_odd G__law_odd
def N__law_is_int : List Str := ["value"]
def G__law_is_int (E : Value → D → Prop) : TDS :=
  (gRet (gAndV (gIsi isIntD (gVar 0)) (gNotV (gIsi isBoolD (gVar 0)))))
@[irreducible] def F__law_is_int : FSp := specOf 1 N__law_is_int G__law_is_int
def N__law_is_fraction : List Str := ["value", "part"]
def R__law_is_fraction_0 (E : Value → D → Prop) : TDS :=
  (gRet (gAndV (gBin gtD (gBin ixD (gVar 0) (gC (.int 1))) (gC (.int 0))) (gBin eqD (gFn F__law_common E [] (gAd (gBin ixD (gVar 0) (gC (.int 0))) (gAd (gBin ixD (gVar 0) (gC (.int 1))) gAn))) (gC (.int 1)))))
def G__law_is_fraction (E : Value → D → Prop) : TDS :=
  (gSeq (gIfS (gOrT (gNotT (gTB (gIsi isTupD (gVar 0)))) (gOrT (gTB (gBin neD (gCall lenD (gCo (gVar 0) gN)) (gC (.int 2)))) (gNotT (gTB (gCall allD (gCo (gL (gLcC (0 + 0) 0 [1] (gSeqI (gVar 0)) (gTo 1) gYes (gFn F__law_is_int NoE [] (gAd (gVar 1) gAn)))) gN)))))) (gRet (gC (.bool false))) gNext) (R__law_is_fraction_0 E))
@[irreducible] def F__law_is_fraction : FSp := specOf 1 N__law_is_fraction G__law_is_fraction
def N__law_are_ticks : List Str := ["value"]
def R__law_are_ticks_0 (E : Value → D → Prop) : TDS :=
  (gRet (gBin eqD (gBin ixD (gFn F__law_times E [] (gAd (gBin ixD (gVar 0) (gC (.int 0))) (gAd (gTup (gCo (gBin ixD (gBin ixD (gVar 0) (gC (.int 1))) (gC (.int 1))) (gCo (gBin ixD (gBin ixD (gVar 0) (gC (.int 1))) (gC (.int 0))) gN))) gAn))) (gC (.int 1))) (gC (.int 1))))
def R__law_are_ticks_1 (E : Value → D → Prop) : TDS :=
  (gSeq (gIfS (gOrT (gNotT (gTB (gFn F__law_is_fraction E [] (gAd (gBin ixD (gVar 0) (gC (.int 0))) gAn)))) (gOrT (gNotT (gTB (gFn F__law_is_fraction E [] (gAd (gBin ixD (gVar 0) (gC (.int 1))) gAn)))) (gTB (gBin isD (gFn F__law_parts E [] (gAd (gBin ixD (gVar 0) (gC (.int 1))) gAn)) (gC .none))))) (gRet (gC (.bool false))) gNext) (R__law_are_ticks_0 E))
def G__law_are_ticks (E : Value → D → Prop) : TDS :=
  (gSeq (gIfS (gOrT (gNotT (gTB (gIsi isTupD (gVar 0)))) (gOrT (gTB (gBin neD (gCall lenD (gCo (gVar 0) gN)) (gC (.int 3)))) (gOrT (gNotT (gTB (gFn F__law_is_int E [] (gAd (gBin ixD (gVar 0) (gC (.int 2))) gAn)))) (gNotT (gTB (gChain leD leD (gC (.int 2)) (gBin ixD (gVar 0) (gC (.int 2))) (gC (.int 12)))))))) (gRet (gC (.bool false))) gNext) (R__law_are_ticks_1 E))
@[irreducible] def F__law_are_ticks : FSp := specOf 1 N__law_are_ticks G__law_are_ticks
def G_lam_0 (E : Value → D → Prop) : TDE :=
  (gFn F_ticks_cost E [] (gAd (gVar 0) (gAd (gVar 1) (gAd (gVar 2) gAn))))
def G_lam_1 (E : Value → D → Prop) : TDE :=
  (gFn F_ticks_cost E [] (gAd (gVar 0) (gAd (gVar 1) (gAd (gVar 2) gAn))))
def G_lam_2 (E : Value → D → Prop) : TDE :=
  (gFn F_ticks_cost E [] (gAd (gVar 0) (gAd (gVar 1) (gAd (gVar 2) gAn))))
def B_law : Nat → FSp
  | 0 => lamF G_lam_0
  | 1 => lamF G_lam_1
  | 2 => lamF G_lam_2
  | _ => fun _ _ _ => False
def N__law_heard : List Str := ["look", "told", "error"]
def R__law_heard_0 (cells : List (Str × Addr)) (E : Value → D → Prop) : TDS :=
  (gRet (gTup (gCo (gC .none) (gCo (gVar 1) gN))))
def G__law_heard (cells : List (Str × Addr)) (E : Value → D → Prop) : TDS :=
  (gSeq (gTryR m_PictureError B_law E 0 1 2) (R__law_heard_0 cells E))
@[irreducible] def F__law_heard : FSp := specOfL 1 N__law_heard G__law_heard
def N__law_are_refused : List Str := ["pot", "ticks", "ends", "wishes", "bad", "far", "late", "looks", "look", "at", "value", "caught", "kinds", "to"]
def R__law_are_refused_0 (cells : List (Str × Addr)) (E : Value → D → Prop) : TDS :=
  (gIfS (gOrT (gTB (gBin neD (gVar 12) (gL (gLcC (0 + 0) 0 [13] (gRg1 (gC (.int 3))) (gTo 13) gYes (gBin eqD (gVar 9) (gVar 13)))))) (gTB (gBin neD (gCall reprD (gCo (gVal (gVar 11)) gN)) (gCall reprD (gCo (gVar 10) gN))))) (gRet (gC (.bool false))) gNext)
def R__law_are_refused_1 (cells : List (Str × Addr)) (E : Value → D → Prop) : TDS :=
  (gSeq (gSet 12 (gL (gLst (gCo (gIsE mi_BadTicks (gVar 11)) (gCo (gIsE mi_BadRange (gVar 11)) (gCo (gIsE mi_BadWishes (gVar 11)) gN)))))) (R__law_are_refused_0 cells E))
def R__law_are_refused_2 (cells : List (Str × Addr)) (E : Value → D → Prop) : TDS :=
  (gRet (gC (.bool true)))
def R__law_are_refused_3 (cells : List (Str × Addr)) (E : Value → D → Prop) : TDS :=
  (gSeq (gFrz 7 (gForC 0 0 (gSeqI (gVar 7)) (gToT 3 (gToC (gTo 8) (gToC (gTo 9) (gToC (gTo 10) gTo0)))) (gSeq (gSet 11 (gBin ixD (gFnF (fun n => ([0, 1, 2] : List Nat).contains n) cells F__law_heard [] (gAd (gVar 8) gAn)) (gC (.int 0)))) (R__law_are_refused_1 cells E)))) (R__law_are_refused_2 cells E))
def R__law_are_refused_4 (cells : List (Str × Addr)) (E : Value → D → Prop) : TDS :=
  (gSeq (gApp 7 (gTup (gCo (gLam 2 cells) (gCo (gC (.int 2)) (gCo (gVar 6) gN))))) (R__law_are_refused_3 cells E))
def R__law_are_refused_5 (cells : List (Str × Addr)) (E : Value → D → Prop) : TDS :=
  (gSeq (gApp 7 (gTup (gCo (gLam 1 cells) (gCo (gC (.int 1)) (gCo (gVar 5) gN))))) (R__law_are_refused_4 cells E))
def R__law_are_refused_6 (cells : List (Str × Addr)) (E : Value → D → Prop) : TDS :=
  (gSeq (gSetF 7 (gLst (gCo (gTup (gCo (gLam 0 cells) (gCo (gC (.int 0)) (gCo (gVar 4) gN)))) gN))) (R__law_are_refused_5 cells E))
def R__law_are_refused_7 (cells : List (Str × Addr)) (E : Value → D → Prop) : TDS :=
  (gSeq (gFrz 6 (gSet 6 (gFn F__law_of E [] (gAp 0 (gAd (gVar 6) gAn))))) (R__law_are_refused_6 cells E))
def R__law_are_refused_8 (cells : List (Str × Addr)) (E : Value → D → Prop) : TDS :=
  (gSeq (gExt 6 (gL (gLst (gCo (gBin addD (gBin addD (gSl slD (gVar 3) gNo (gPart (gC (.int 2)))) (gTup (gCo (gBin addD (gBin powD (gC (.int 10)) (gC (.int 6))) (gC (.int 1))) gN))) (gSl slD (gVar 3) (gPart (gC (.int 3))) gNo)) (gCo (gBin addD (gVar 3) (gTup (gCo (gC (.int 1)) gN))) gN))))) (R__law_are_refused_7 cells E))
def R__law_are_refused_9 (cells : List (Str × Addr)) (E : Value → D → Prop) : TDS :=
  (gSeq (gExt 6 (gL (gLst (gCo (gBin addD (gSl slD (gVar 3) gNo (gPart (gC (.int 4)))) (gTup (gCo (gBin addD (gBin powD (gC (.int 10)) (gC (.int 6))) (gC (.int 1))) gN))) (gCo (gBin addD (gTup (gCo (gC (.bool true)) gN)) (gSl slD (gVar 3) (gPart (gC (.int 1))) gNo)) (gCo (gBin addD (gBin addD (gSl slD (gVar 3) gNo (gPart (gC (.int 1)))) (gTup (gCo (gNeg (gC (.int 1))) gN))) (gSl slD (gVar 3) (gPart (gC (.int 2))) gNo)) gN)))))) (R__law_are_refused_8 cells E))
def R__law_are_refused_10 (cells : List (Str × Addr)) (E : Value → D → Prop) : TDS :=
  (gSeq (gSetF 6 (gLst (gCo (gC .none) (gCo (gSl slD (gVar 3) gNo (gPart (gC (.int 4)))) (gCo (gL (gCallF listD (gCo (gVar 3) gN))) (gCo (gBin addD (gTup (gCo (gC (.int 1)) gN)) (gSl slD (gVar 3) (gPart (gC (.int 1))) gNo)) (gCo (gBin addD (gTup (gCo (gC (.int 11)) gN)) (gSl slD (gVar 3) (gPart (gC (.int 1))) gNo)) (gCo (gBin addD (gSl slD (gVar 3) gNo (gPart (gC (.int 4)))) (gTup (gCo (gC (.int 0)) gN))) gN)))))))) (R__law_are_refused_9 cells E))
def R__law_are_refused_11 (cells : List (Str × Addr)) (E : Value → D → Prop) : TDS :=
  (gSeq (gSet 5 (gFn F__law_of E [] (gAp 0 (gAd (gVar 5) gAn)))) (R__law_are_refused_10 cells E))
def R__law_are_refused_12 (cells : List (Str × Addr)) (E : Value → D → Prop) : TDS :=
  (gSeq (gSet 5 (gL (gLst (gCo (gC .none) (gCo (gSl slD (gVar 2) gNo (gPart (gC (.int 1)))) (gCo (gL (gCallF listD (gCo (gVar 2) gN))) (gCo (gTup (gCo (gTup (gCo (gC (.int 1)) (gCo (gC (.int 1)) gN))) (gCo (gTup (gCo (gC (.int 0)) (gCo (gC (.int 1)) gN))) gN))) (gCo (gTup (gCo (gTup (gCo (gC (.int 1)) (gCo (gC (.int 0)) gN))) (gCo (gTup (gCo (gC (.int 2)) (gCo (gC (.int 1)) gN))) gN))) (gCo (gTup (gCo (gC (.int 1)) (gCo (gC (.int 2)) gN))) (gCo (gBin addD (gVar 2) (gVar 2)) (gCo (gTup (gCo (gTup (gCo (gC (.int 2)) (gCo (gC (.int 2)) gN))) (gCo (gTup (gCo (gC (.int 3)) (gCo (gC (.int 1)) gN))) gN))) gN))))))))))) (R__law_are_refused_11 cells E))
def R__law_are_refused_13 (cells : List (Str × Addr)) (E : Value → D → Prop) : TDS :=
  (gSeq (gSet 4 (gIf (gTB (gFn F__law_are_ticks E [] (gAd (gVar 4) gAn))) (gC .none) (gVar 4))) (R__law_are_refused_12 cells E))
def G__law_are_refused (cells : List (Str × Addr)) (E : Value → D → Prop) : TDS :=
  (gSeq (gSet 4 (gFn F__law_odd E [] (gAp 0 (gAd (gVar 1) gAn)))) (R__law_are_refused_13 cells E))
@[irreducible] def F__law_are_refused : FSp := specOfL 4 N__law_are_refused G__law_are_refused
def N__law_ticks : List Str := ["pot", "step"]
def R__law_ticks_0 (E : Value → D → Prop) : TDS :=
  (gRet (gTup (gCo (gFn F__law_times E [] (gAd (gTup (gCo (gBin subD (gFn F__law_take E [] (gAp 0 (gAd (gC (.int 41)) gAn))) (gC (.int 20))) (gCo (gC (.int 1)) gN))) (gAd (gVar 1) gAn))) (gCo (gVar 1) (gCo (gCall intD (gCo (gBin addD (gC (.int 2)) (gFn F__law_take E [] (gAp 0 (gAd (gC (.int 11)) gAn)))) gN)) gN)))))
def G__law_ticks (E : Value → D → Prop) : TDS :=
  (gSeq (gSet 1 (gFn F__law_times E [] (gAd (gTup (gCo (gFn F__law_of E [] (gAp 0 (gAd (gL (gLst (gCo (gC (.int 1)) (gCo (gC (.int 2)) (gCo (gC (.int 5)) gN))))) gAn))) (gCo (gC (.int 1)) gN))) (gAd (gFn F__law_power E [] (gAd (gBin subD (gFn F__law_take E [] (gAp 0 (gAd (gC (.int 7)) gAn))) (gC (.int 3))) gAn)) gAn)))) (R__law_ticks_0 E))
@[irreducible] def F__law_ticks : FSp := specOf 1 N__law_ticks G__law_ticks
def N__law_wishes : List Str := ["pot", "weights", "lap"]
def R__law_wishes_0 (E : Value → D → Prop) : TDS :=
  (gRet (gBin addD (gBin addD (gTup (gCo (gCall intD (gCo (gBin addD (gC (.int 2)) (gFn F__law_take E [] (gAp 0 (gAd (gC (.int 9)) gAn)))) gN)) gN)) (gCall tupD (gCo (gVar 1) gN))) (gTup (gCo (gCall intD (gCo (gBin addD (gC (.int 1)) (gFn F__law_take E [] (gAp 0 (gAd (gFn F__law_of E [] (gAp 0 (gAd (gL (gLst (gCo (gC (.int 2)) (gCo (gC (.int 9)) gN)))) gAn))) gAn)))) gN)) gN))))
def G__law_wishes (E : Value → D → Prop) : TDS :=
  (gSeq (gSet 1 (gL (gLcC (0 + 2) 6 [2] (gRg1 (gC (.int 3))) (gTo 2) gYes (gCall intD (gCo (gFn F__law_take NoE [] (gAp 0 (gAd (gFn F__law_of NoE [] (gAp 0 (gAd (gL (gLst (gCo (gC (.int 4)) (gCo (gC (.int 10)) gN)))) gAn))) gAn))) gN))))) (R__law_wishes_0 E))
@[irreducible] def F__law_wishes : FSp := specOf 1 N__law_wishes G__law_wishes
def N__law_right : List Str := ["pot", "ticks", "wishes", "values", "thirds", "one", "other", "ends", "due", "whole"]
def R__law_right_0 (E : Value → D → Prop) : TDS :=
  (gRet (gFn F__law_are_refused E [] (gAp 0 (gAd (gVar 1) (gAd (gVar 7) (gAd (gVar 2) gAn))))))
def R__law_right_1 (E : Value → D → Prop) : TDS :=
  (gSeq (gIfS (gOrT (gTB (gBin neD (gCall reprD (gCo (gVar 9) gN)) (gCall reprD (gCo (gFn F__law_cost E [] (gAd (gVar 1) (gAd (gTup (gCo (gBin ixD (gVar 3) (gC (.int 0))) (gCo (gBin ixD (gVar 3) (gNeg (gC (.int 1)))) gN))) (gAd (gVar 2) gAn)))) gN)))) (gAndT (gTB (gBin isnotD (gVar 8) (gC .none))) (gTB (gBin ltD (gVar 8) (gVar 9))))) (gRet (gC (.bool false))) gNext) (R__law_right_0 E))
def R__law_right_2 (E : Value → D → Prop) : TDS :=
  (gSeq (gSet 9 (gFn F_ticks_cost E [] (gAd (gVar 1) (gAd (gTup (gCo (gBin ixD (gVar 3) (gC (.int 0))) (gCo (gBin ixD (gVar 3) (gNeg (gC (.int 1)))) gN))) (gAd (gVar 2) gAn))))) (R__law_right_1 E))
def R__law_right_3 (E : Value → D → Prop) : TDS :=
  (gSeq (gIfS (gTB (gBin neD (gCall reprD (gCo (gFn F_ticks_cost E [] (gAd (gVar 1) (gAd (gVar 7) (gAd (gVar 2) gAn)))) gN)) (gCall reprD (gCo (gVar 8) gN)))) (gRet (gC (.bool false))) gNext) (R__law_right_2 E))
def R__law_right_4 (E : Value → D → Prop) : TDS :=
  (gSeq (gSet 8 (gFn F__law_cost E [] (gAd (gVar 1) (gAd (gVar 7) (gAd (gVar 2) gAn))))) (R__law_right_3 E))
def R__law_right_5 (E : Value → D → Prop) : TDS :=
  (gSeq (gSet 7 (gIf (gTB (gFn F__law_less E [] (gAd (gVar 6) (gAd (gVar 5) gAn)))) (gTup (gCo (gVar 6) (gCo (gVar 5) gN))) (gTup (gCo (gVar 5) (gCo (gVar 6) gN))))) (R__law_right_4 E))
def R__law_right_6 (E : Value → D → Prop) : TDS :=
  (gSeq (gPar 5 6 (gCo (gFn F__law_of E [] (gAp 0 (gAd (gBin addD (gVar 4) (gVar 3)) gAn))) (gCo (gFn F__law_of E [] (gAp 0 (gAd (gBin addD (gVar 4) (gVar 3)) gAn))) gN))) (R__law_right_5 E))
def R__law_right_7 (E : Value → D → Prop) : TDS :=
  (gSeq (gSet 4 (gL (gLcC (0 + 1) 12 [5] (gSeqI (gVar 3)) (gTo 5) gYes (gFn F__law_plus NoE [] (gAd (gVar 5) (gAd (gFn F__law_times NoE [] (gAd (gBin ixD (gVar 1) (gC (.int 1))) (gAd (gTup (gCo (gBin subD (gFn F__law_take NoE [] (gAp 0 (gAd (gC (.int 7)) gAn))) (gC (.int 1))) (gCo (gC (.int 5)) gN))) gAn))) gAn)))))) (R__law_right_6 E))
def R__law_right_8 (E : Value → D → Prop) : TDS :=
  (gSeq (gSet 3 (gFn F__law_values E [] (gAd (gBin ixD (gVar 1) (gC (.int 0))) (gAd (gBin ixD (gVar 1) (gC (.int 1))) (gAd (gBin ixD (gVar 1) (gC (.int 2))) gAn))))) (R__law_right_7 E))
def G__law_right (E : Value → D → Prop) : TDS :=
  (gSeq (gAsg (gTup (gCo (gFn F__law_ticks E [] (gAp 0 gAn)) (gCo (gFn F__law_wishes E [] (gAp 0 gAn)) gN))) (gToT 2 (gToC (gTo 1) (gToC (gTo 2) gTo0)))) (R__law_right_8 E))
@[irreducible] def F__law_right : FSp := specOf 1 N__law_right G__law_right
def N_law : List Str := ["script", "place", "pot", "lap"]
def R_law_0 (E : Value → D → Prop) : TDS :=
  (gRet (gC (.bool true)))
def G_law (E : Value → D → Prop) : TDS :=
  (gSeq (gForC 0 0 (gSeqI (gFn F__law_cells E [] (gAs 0 (gAd (gC (.int 2)) gAn)))) (gTo 1) (gPot F__law_pot 2 0 1 (gIfS (gNotT (gTB (gCall allD (gCo (gL (gLcC (0 + 30) 240 [3] (gRg1 (gC (.int 8))) (gTo 3) gYes (gFn F__law_right NoE [] (gAp 2 gAn)))) gN)))) (gRet (gC (.bool false))) gNext))) (R_law_0 E))
@[irreducible] def F_law : FSp := specOf 1 N_law G_law
end K33
set_option exponentiation.threshold 5000
/-! K33d: draws; numbers. -/
namespace K33
open PySem DL
variable {K : D → Prop} {E : Value → D → Prop}
theorem lit {b : Nat} {i : Int} (h : i.natAbs < 2 ^ b := by decide) : Sz b i := h
theorem cdiv_of {i j : Int} {b : Nat} (h : 0 < j) (s : Sz b j) (l : b < 9000) : L2.CDivW i j := ⟨h, Nat.lt_of_le_of_lt s.log l⟩
theorem three : 3 ≤ sizeLine := by rw [sizeLine_eq]; decide
theorem sl {n : Nat} (h : n ≤ 1000) : n ≤ sizeLine := by rw [sizeLine_eq]; omega
/-! ### draws -/
theorem take_ok {u : Int} (hu : 0 < u) (hz : u < 2 ^ 24) (h : ∀ i, 0 ≤ i → i < u → K (.int i)) : F__law_take [.pot, .dat (.int u)] K E := by
  have su : Sz 24 u := Sz.of_range (Int.le_of_lt hu) hz
  unfold F__law_take specOf G__law_take N__law_take
  refine ⟨rfl, ?_⟩
  simp only [gSeq, gSet, gVar, gVarB, gC, gBin, gChain, gTB, gIf, gIfS, gRet, gCall, gCallF, gCo, gN, gTup, gLst, gL, gNotT, gNotV, gAndT, gOrT, gAndV, gOrV, gIsi, gSl, gPart, gNo, gM0, gM1, gFn, gAn, gAd, gAp, gAs, gAsg, gTo, gToT, gToC, gTo0, gNext, gNeg, gPs0, gTick, gPix, gLenS, gIxS, gSumS, gLRg, gPar, gDic0, gDic1, gYes, gSeqI, gRg1, gRg2, gRetN, gSetF, gApp, gExt, gDrop, gFrz, gLcC_x, gForC_x, gRev, revD, gPar3F, gOff, gOffS, gBreak, gCont, clr, startD, nth, List.set, true_or, or_true, true_and, and_true, R__law_pot_0, R__law_pot_1, R__law_pot_2, R__law_common_0, R__law_common_1, R__law_reduced_0, R__law_power_0, R__law_power_1, R__law_parts_0, R__law_parts_1, R__law_parts_2, R__law_cost_0, R__law_cost_1, R__law_cost_2, R__law_cost_3, R__law_cost_4, R__law_cost_5, R_is_fraction_0, R_are_written_0, R_without_tens_0, R_without_tens_1, R_parts_of_step_0, R_parts_of_step_1, R_parts_of_step_2, R_parts_of_step_3, R_parts_of_step_4, R_reduced_0, R_is_ticks_0, R_is_ticks_1, R_is_ticks_2, R_check_ends_0, R_are_wishes_0, R_steps_in_vain_0, R_values_of_0, R_whole_cost_0, R_ticks_cost_0, R_ticks_cost_1, R_ticks_cost_2, R__law_take_0, R__law_take_1, R__law_take_2, R__law_take_3, R__law_take_4, R__law_take_5, R__law_take_6, R__law_odd_0, R__law_odd_1, R__law_odd_2, R__law_odd_3, R__law_odd_4, R__law_odd_5, R__law_odd_6, R__law_odd_7, R__law_odd_8, R__law_is_fraction_0, R__law_are_ticks_0, R__law_are_ticks_1, R__law_heard_0, R__law_are_refused_0, R__law_are_refused_1, R__law_are_refused_2, R__law_are_refused_3, R__law_are_refused_4, R__law_are_refused_5, R__law_are_refused_6, R__law_are_refused_7, R__law_are_refused_8, R__law_are_refused_9, R__law_are_refused_10, R__law_are_refused_11, R__law_are_refused_12, R__law_are_refused_13, R__law_ticks_0, R__law_wishes_0, addD_ii, addD_ss, addD_ll, addD_tt, subD_ii, mulD_ii, mulD_si, mulD_li, fdivD_ii, modD_ii, powD_ii, eqD_ii, eqD_ss, eqD_bb, neD_ii, neD_ss, neD_bb, ltD_ii, ltD_ss, leD_ii, gtD_ii, geD_ii, isD_n, isD_bb, isnotD_n, isnotD_bb, inD_ss, inD_l, inD_t, notinD_ss, notinD_l, notinD_t, ixD_l, ixD_t, ixD_s, slD_t, slD_s, slD_l, lenD_s, lenD_l, lenD_t, tupD_l, tupD_t, listD_l, listD_t, allD_l, anyD_l, sumD_l, maxD_ii, minD_ii, maxD_l, minD_l, absD_i, gcdD_ii, intD_i, intD_b, intD_s, strD_i, strD_s, reprD_1, joinD_l, splitD_s, PB_0, PB_1, PB_2, gIte_t, gIte_f, gIte_d, gIte_n, eqD_xt, eqD_tx, neD_xt, neD_tx, eqD_tt, neD_tt]
  intro v hv
  refine ⟨fun h0 v1 hv1 => ⟨hu, fun v2 hv2 => ⟨cdiv_of hu su (by decide), Int.ediv_nonneg hv2.1 (Int.le_of_lt hu), ?_, ?_⟩⟩, fun h0 => ⟨by decide, fun z hz2 => ⟨by decide, ?_⟩⟩⟩
  · exact Int.lt_of_le_of_lt (Int.ediv_le_self _ hv2.1) hv2.2
  · exact h _ (Int.emod_nonneg _ (Int.ne_of_gt hu)) (Int.emod_lt_of_pos _ hu)
  · have h5 : z % 5 = 0 ∨ z % 5 = 1 ∨ z % 5 = 2 ∨ z % 5 = 3 ∨ z % 5 = 4 := by omega
    obtain ⟨p, hp, p0, p1⟩ : ∃ p : Int, L2.atI [PyData.int 2147483647, PyData.int 2147483629, PyData.int 2147483587, PyData.int 2147483579, PyData.int 2147483563] (z % 5) = some (.int p) ∧ 0 < p ∧ p < 2 ^ 31 := by
      rcases h5 with e | e | e | e | e <;> rw [e] <;> exact ⟨_, rfl, by decide, by decide⟩
    refine ⟨_, hp, fun a ha b hb => ?_⟩
    have sa : Sz 61 a := Sz.of_range ha.1 ha.2
    have sb : Sz 23 b := Sz.of_range hb.1 (by omega)
    have sp : Sz 31 p := Sz.of_range (Int.le_of_lt p0) p1
    have l1 : Sz 30 180778 := lit
    refine ⟨Sz.mulOk l1 sb, fun c hc => ?_⟩
    have sc : Sz 23 c := Sz.of_range hc.1 (by omega)
    refine ⟨Sz.mulOk (l1.mul sb) sc, by decide, ?_, ?_⟩
    · have l2 : Sz 30 61151 := lit
      have := ((sa.add ((l1.mul sb).mul sc)).add l2).bits
      omega
    · simp only [modD_ii, intD_i]
      refine ⟨p0, by decide, fun q hq => ?_⟩
      have sq : Sz 23 q := Sz.of_range hq.1 (by omega)
      refine ⟨Sz.mulOk (lit (b := 30)) sq, ?_⟩
      simp only [addD_ii, mulD_ii, modD_ii, intD_i, fdivD_ii]
      refine ⟨Sz.mulOk (sp.emod p0) ((Sz.emod (lit (b := 30)) (by decide)).add ((lit (b := 30)).mul sq)), by decide, ⟨by decide, by decide⟩, hu, ?_⟩
      exact h _ (Int.emod_nonneg _ (Int.ne_of_gt hu)) (Int.emod_lt_of_pos _ hu)
theorem of_ok {xs : List D} (h0 : xs ≠ []) (hz : xs.length < 2 ^ 24) (h : ∀ x ∈ xs, K x) : F__law_of [.pot, .dat (.list xs)] K E := by
  have hp : 0 < xs.length := List.length_pos_iff.mpr h0
  unfold F__law_of specOf G__law_of N__law_of
  refine ⟨rfl, ?_⟩
  simp only [gSeq, gSet, gVar, gVarB, gC, gBin, gChain, gTB, gIf, gIfS, gRet, gCall, gCallF, gCo, gN, gTup, gLst, gL, gNotT, gNotV, gAndT, gOrT, gAndV, gOrV, gIsi, gSl, gPart, gNo, gM0, gM1, gFn, gAn, gAd, gAp, gAs, gAsg, gTo, gToT, gToC, gTo0, gNext, gNeg, gPs0, gTick, gPix, gLenS, gIxS, gSumS, gLRg, gPar, gDic0, gDic1, gYes, gSeqI, gRg1, gRg2, gRetN, gSetF, gApp, gExt, gDrop, gFrz, gLcC_x, gForC_x, gRev, revD, gPar3F, gOff, gOffS, gBreak, gCont, clr, startD, nth, List.set, true_or, or_true, true_and, and_true, R__law_pot_0, R__law_pot_1, R__law_pot_2, R__law_common_0, R__law_common_1, R__law_reduced_0, R__law_power_0, R__law_power_1, R__law_parts_0, R__law_parts_1, R__law_parts_2, R__law_cost_0, R__law_cost_1, R__law_cost_2, R__law_cost_3, R__law_cost_4, R__law_cost_5, R_is_fraction_0, R_are_written_0, R_without_tens_0, R_without_tens_1, R_parts_of_step_0, R_parts_of_step_1, R_parts_of_step_2, R_parts_of_step_3, R_parts_of_step_4, R_reduced_0, R_is_ticks_0, R_is_ticks_1, R_is_ticks_2, R_check_ends_0, R_are_wishes_0, R_steps_in_vain_0, R_values_of_0, R_whole_cost_0, R_ticks_cost_0, R_ticks_cost_1, R_ticks_cost_2, R__law_take_0, R__law_take_1, R__law_take_2, R__law_take_3, R__law_take_4, R__law_take_5, R__law_take_6, R__law_odd_0, R__law_odd_1, R__law_odd_2, R__law_odd_3, R__law_odd_4, R__law_odd_5, R__law_odd_6, R__law_odd_7, R__law_odd_8, R__law_is_fraction_0, R__law_are_ticks_0, R__law_are_ticks_1, R__law_heard_0, R__law_are_refused_0, R__law_are_refused_1, R__law_are_refused_2, R__law_are_refused_3, R__law_are_refused_4, R__law_are_refused_5, R__law_are_refused_6, R__law_are_refused_7, R__law_are_refused_8, R__law_are_refused_9, R__law_are_refused_10, R__law_are_refused_11, R__law_are_refused_12, R__law_are_refused_13, R__law_ticks_0, R__law_wishes_0, addD_ii, addD_ss, addD_ll, addD_tt, subD_ii, mulD_ii, mulD_si, mulD_li, fdivD_ii, modD_ii, powD_ii, eqD_ii, eqD_ss, eqD_bb, neD_ii, neD_ss, neD_bb, ltD_ii, ltD_ss, leD_ii, gtD_ii, geD_ii, isD_n, isD_bb, isnotD_n, isnotD_bb, inD_ss, inD_l, inD_t, notinD_ss, notinD_l, notinD_t, ixD_l, ixD_t, ixD_s, slD_t, slD_s, slD_l, lenD_s, lenD_l, lenD_t, tupD_l, tupD_t, listD_l, listD_t, allD_l, anyD_l, sumD_l, maxD_ii, minD_ii, maxD_l, minD_l, absD_i, gcdD_ii, intD_i, intD_b, intD_s, strD_i, strD_s, reprD_1, joinD_l, splitD_s, PB_0, PB_1, PB_2, gIte_t, gIte_f, gIte_d, gIte_n, eqD_xt, eqD_tx, neD_xt, neD_tx, eqD_tt, neD_tt, List.append_nil]
  refine take_ok (by omega) (by omega) fun i h1 h2 => ?_
  simp only [ixD_l]
  have hi : i.toNat < xs.length := by omega
  refine ⟨xs[i.toNat], ?_, h _ (List.getElem_mem hi)⟩
  have e := L2.atI_nat (List.getElem?_eq_getElem hi)
  rwa [Int.toNat_of_nonneg h1] at e
theorem pot_ok {ns : List Int} {n : Int} (h0 : 0 ≤ n) (h1 : n < 1000) (h : ∀ x y : Int, 0 ≤ x → x < 10 ^ 300 → 0 ≤ y → y < 2 ^ 61 → K (.list [.int x, .int y, .int 0])) : F__law_pot [.scr ns, .dat (.int n)] K E := by
  unfold F__law_pot specOf G__law_pot N__law_pot
  refine ⟨rfl, ?_⟩
  simp only [gSeq, gSet, gVar, gVarB, gC, gBin, gChain, gTB, gIf, gIfS, gRet, gCall, gCallF, gCo, gN, gTup, gLst, gL, gNotT, gNotV, gAndT, gOrT, gAndV, gOrV, gIsi, gSl, gPart, gNo, gM0, gM1, gFn, gAn, gAd, gAp, gAs, gAsg, gTo, gToT, gToC, gTo0, gNext, gNeg, gPs0, gTick, gPix, gLenS, gIxS, gSumS, gLRg, gPar, gDic0, gDic1, gYes, gSeqI, gRg1, gRg2, gRetN, gSetF, gApp, gExt, gDrop, gFrz, gLcC_x, gForC_x, gRev, revD, gPar3F, gOff, gOffS, gBreak, gCont, clr, startD, nth, List.set, true_or, or_true, true_and, and_true, R__law_pot_0, R__law_pot_1, R__law_pot_2, R__law_common_0, R__law_common_1, R__law_reduced_0, R__law_power_0, R__law_power_1, R__law_parts_0, R__law_parts_1, R__law_parts_2, R__law_cost_0, R__law_cost_1, R__law_cost_2, R__law_cost_3, R__law_cost_4, R__law_cost_5, R_is_fraction_0, R_are_written_0, R_without_tens_0, R_without_tens_1, R_parts_of_step_0, R_parts_of_step_1, R_parts_of_step_2, R_parts_of_step_3, R_parts_of_step_4, R_reduced_0, R_is_ticks_0, R_is_ticks_1, R_is_ticks_2, R_check_ends_0, R_are_wishes_0, R_steps_in_vain_0, R_values_of_0, R_whole_cost_0, R_ticks_cost_0, R_ticks_cost_1, R_ticks_cost_2, R__law_take_0, R__law_take_1, R__law_take_2, R__law_take_3, R__law_take_4, R__law_take_5, R__law_take_6, R__law_odd_0, R__law_odd_1, R__law_odd_2, R__law_odd_3, R__law_odd_4, R__law_odd_5, R__law_odd_6, R__law_odd_7, R__law_odd_8, R__law_is_fraction_0, R__law_are_ticks_0, R__law_are_ticks_1, R__law_heard_0, R__law_are_refused_0, R__law_are_refused_1, R__law_are_refused_2, R__law_are_refused_3, R__law_are_refused_4, R__law_are_refused_5, R__law_are_refused_6, R__law_are_refused_7, R__law_are_refused_8, R__law_are_refused_9, R__law_are_refused_10, R__law_are_refused_11, R__law_are_refused_12, R__law_are_refused_13, R__law_ticks_0, R__law_wishes_0, addD_ii, addD_ss, addD_ll, addD_tt, subD_ii, mulD_ii, mulD_si, mulD_li, fdivD_ii, modD_ii, powD_ii, eqD_ii, eqD_ss, eqD_bb, neD_ii, neD_ss, neD_bb, ltD_ii, ltD_ss, leD_ii, gtD_ii, geD_ii, isD_n, isD_bb, isnotD_n, isnotD_bb, inD_ss, inD_l, inD_t, notinD_ss, notinD_l, notinD_t, ixD_l, ixD_t, ixD_s, slD_t, slD_s, slD_l, lenD_s, lenD_l, lenD_t, tupD_l, tupD_t, listD_l, listD_t, allD_l, anyD_l, sumD_l, maxD_ii, minD_ii, maxD_l, minD_l, absD_i, gcdD_ii, intD_i, intD_b, intD_s, strD_i, strD_s, reprD_1, joinD_l, splitD_s, PB_0, PB_1, PB_2, gIte_t, gIte_f, gIte_d, gIte_n, eqD_xt, eqD_tx, neD_xt, neD_tx, eqD_tt, neD_tt]
  have hM : ((10 : Int) ^ Int.toNat 60) ^ Int.toNat 5 = 10 ^ 300 := by decide +kernel
  have pM : (0 : Int) < 10 ^ 300 := by decide +kernel
  have sM : Sz 1000 ((10 : Int) ^ 300) := by unfold Sz; decide +kernel
  have l0 : Sz 1 0 := lit
  have l1 : Sz 1 1 := lit
  have hx : ∀ (a : Int) (b : Bool), DL.MulOk (a % 10 ^ 300) (if b = true then 1 else 0) ∧ 0 ≤ a % 10 ^ 300 * (if b = true then 1 else 0) ∧ a % 10 ^ 300 * (if b = true then 1 else 0) < 10 ^ 300 := fun a b => by
    cases b with
    | false =>
      rw [if_neg (by decide), Int.mul_zero]
      exact ⟨Sz.mulOk (Sz.emod sM pM) l0, Int.le_refl 0, pM⟩
    | true =>
      rw [if_pos rfl, Int.mul_one]
      exact ⟨Sz.mulOk (Sz.emod sM pM) l1, Int.emod_nonneg _ (Int.ne_of_gt pM), Int.emod_lt_of_pos _ pM⟩
  have l2 : Sz 30 590693 := lit
  have l3 : Sz 30 100381 := lit
  have l4 : Sz 30 90767 := lit
  have l5 : Sz 62 2305843009213693951 := lit
  have sn : Sz 10 n := Sz.of_range h0 (by omega)
  refine ⟨fun hn => ?_, fun hn => ⟨by decide, Sz.mulOk l4 sn, ?_⟩⟩
  · have hi : n.toNat < ns.length := by omega
    have e := L2.atI_nat (List.getElem?_eq_getElem hi)
    rw [Int.toNat_of_nonneg h0] at e
    refine ⟨_, e, ?_⟩
    refine ⟨by decide, by decide +kernel, by decide, by decide +kernel, by decide +kernel, by decide, by decide +kernel, ?_, by decide, Sz.mulOk (Sz.emod l5 (by decide)) l2, Sz.mulOk l3 sn, Sz.mulOk (l3.mul sn) sn, by decide, three, ?_⟩
    · rw [hM]
      exact (hx _ _).1
    · rw [hM]
      refine h _ _ ?_ ?_ ?_ ?_
      · exact (hx _ _).2.1
      · exact (hx _ _).2.2
      · exact Int.emod_nonneg _ (by decide)
      · exact Int.lt_of_lt_of_le (Int.emod_lt_of_pos _ (by decide)) (by decide)
  · refine ⟨by decide, by decide +kernel, by decide, by decide +kernel, by decide +kernel, by decide, by decide +kernel, ?_, by decide, Sz.mulOk (Sz.emod l5 (by decide)) l2, Sz.mulOk l3 sn, Sz.mulOk (l3.mul sn) sn, by decide, three, ?_⟩
    · rw [hM]
      exact (hx _ _).1
    · rw [hM]
      refine h _ _ ?_ ?_ ?_ ?_
      · exact (hx _ _).2.1
      · exact (hx _ _).2.2
      · exact Int.emod_nonneg _ (by decide)
      · exact Int.lt_of_lt_of_le (Int.emod_lt_of_pos _ (by decide)) (by decide)
theorem cells_ok {ns : List Int} {m : Int} (h0 : 1 ≤ m) (h1 : m < 1000) (h : ∀ k : Int, 1 ≤ k → k ≤ m → K (.list (rgD 0 k))) : F__law_cells [.scr ns, .dat (.int m)] K E := by
  unfold F__law_cells specOf G__law_cells N__law_cells
  refine ⟨rfl, ?_⟩
  simp only [gSeq, gSet, gVar, gVarB, gC, gBin, gChain, gTB, gIf, gIfS, gRet, gCall, gCallF, gCo, gN, gTup, gLst, gL, gNotT, gNotV, gAndT, gOrT, gAndV, gOrV, gIsi, gSl, gPart, gNo, gM0, gM1, gFn, gAn, gAd, gAp, gAs, gAsg, gTo, gToT, gToC, gTo0, gNext, gNeg, gPs0, gTick, gPix, gLenS, gIxS, gSumS, gLRg, gPar, gDic0, gDic1, gYes, gSeqI, gRg1, gRg2, gRetN, gSetF, gApp, gExt, gDrop, gFrz, gLcC_x, gForC_x, gRev, revD, gPar3F, gOff, gOffS, gBreak, gCont, clr, startD, nth, List.set, true_or, or_true, true_and, and_true, R__law_pot_0, R__law_pot_1, R__law_pot_2, R__law_common_0, R__law_common_1, R__law_reduced_0, R__law_power_0, R__law_power_1, R__law_parts_0, R__law_parts_1, R__law_parts_2, R__law_cost_0, R__law_cost_1, R__law_cost_2, R__law_cost_3, R__law_cost_4, R__law_cost_5, R_is_fraction_0, R_are_written_0, R_without_tens_0, R_without_tens_1, R_parts_of_step_0, R_parts_of_step_1, R_parts_of_step_2, R_parts_of_step_3, R_parts_of_step_4, R_reduced_0, R_is_ticks_0, R_is_ticks_1, R_is_ticks_2, R_check_ends_0, R_are_wishes_0, R_steps_in_vain_0, R_values_of_0, R_whole_cost_0, R_ticks_cost_0, R_ticks_cost_1, R_ticks_cost_2, R__law_take_0, R__law_take_1, R__law_take_2, R__law_take_3, R__law_take_4, R__law_take_5, R__law_take_6, R__law_odd_0, R__law_odd_1, R__law_odd_2, R__law_odd_3, R__law_odd_4, R__law_odd_5, R__law_odd_6, R__law_odd_7, R__law_odd_8, R__law_is_fraction_0, R__law_are_ticks_0, R__law_are_ticks_1, R__law_heard_0, R__law_are_refused_0, R__law_are_refused_1, R__law_are_refused_2, R__law_are_refused_3, R__law_are_refused_4, R__law_are_refused_5, R__law_are_refused_6, R__law_are_refused_7, R__law_are_refused_8, R__law_are_refused_9, R__law_are_refused_10, R__law_are_refused_11, R__law_are_refused_12, R__law_are_refused_13, R__law_ticks_0, R__law_wishes_0, addD_ii, addD_ss, addD_ll, addD_tt, subD_ii, mulD_ii, mulD_si, mulD_li, fdivD_ii, modD_ii, powD_ii, eqD_ii, eqD_ss, eqD_bb, neD_ii, neD_ss, neD_bb, ltD_ii, ltD_ss, leD_ii, gtD_ii, geD_ii, isD_n, isD_bb, isnotD_n, isnotD_bb, inD_ss, inD_l, inD_t, notinD_ss, notinD_l, notinD_t, ixD_l, ixD_t, ixD_s, slD_t, slD_s, slD_l, lenD_s, lenD_l, lenD_t, tupD_l, tupD_t, listD_l, listD_t, allD_l, anyD_l, sumD_l, maxD_ii, minD_ii, maxD_l, minD_l, absD_i, gcdD_ii, intD_i, intD_b, intD_s, strD_i, strD_s, reprD_1, joinD_l, splitD_s, PB_0, PB_1, PB_2, gIte_t, gIte_f, gIte_d, gIte_n, eqD_xt, eqD_tx, neD_xt, neD_tx, eqD_tt, neD_tt]
  refine ⟨?_, ?_, h _ ?_ ?_⟩ <;> by_cases c : (ns.length : Int) < m <;> simp only [c, if_true, if_false] <;> split <;> omega
def intB : D → Bool
  | .int _ => true
  | _ => false
theorem isInteger_ok {d : D} (h : K (.bool (intB d))) : F_is_integer [.dat d] K E := by
  unfold F_is_integer specOf G_is_integer N_is_integer
  refine ⟨rfl, ?_⟩
  simp only [gSeq, gSet, gVar, gVarB, gC, gBin, gChain, gTB, gIf, gIfS, gRet, gCall, gCallF, gCo, gN, gTup, gLst, gL, gNotT, gNotV, gAndT, gOrT, gAndV, gOrV, gIsi, gSl, gPart, gNo, gM0, gM1, gFn, gAn, gAd, gAp, gAs, gAsg, gTo, gToT, gToC, gTo0, gNext, gNeg, gPs0, gTick, gPix, gLenS, gIxS, gSumS, gLRg, gPar, gDic0, gDic1, gYes, gSeqI, gRg1, gRg2, gRetN, gSetF, gApp, gExt, gDrop, gFrz, gLcC_x, gForC_x, gRev, revD, gPar3F, gOff, gOffS, gBreak, gCont, clr, startD, nth, List.set, true_or, or_true, true_and, and_true, R__law_pot_0, R__law_pot_1, R__law_pot_2, R__law_common_0, R__law_common_1, R__law_reduced_0, R__law_power_0, R__law_power_1, R__law_parts_0, R__law_parts_1, R__law_parts_2, R__law_cost_0, R__law_cost_1, R__law_cost_2, R__law_cost_3, R__law_cost_4, R__law_cost_5, R_is_fraction_0, R_are_written_0, R_without_tens_0, R_without_tens_1, R_parts_of_step_0, R_parts_of_step_1, R_parts_of_step_2, R_parts_of_step_3, R_parts_of_step_4, R_reduced_0, R_is_ticks_0, R_is_ticks_1, R_is_ticks_2, R_check_ends_0, R_are_wishes_0, R_steps_in_vain_0, R_values_of_0, R_whole_cost_0, R_ticks_cost_0, R_ticks_cost_1, R_ticks_cost_2, R__law_take_0, R__law_take_1, R__law_take_2, R__law_take_3, R__law_take_4, R__law_take_5, R__law_take_6, R__law_odd_0, R__law_odd_1, R__law_odd_2, R__law_odd_3, R__law_odd_4, R__law_odd_5, R__law_odd_6, R__law_odd_7, R__law_odd_8, R__law_is_fraction_0, R__law_are_ticks_0, R__law_are_ticks_1, R__law_heard_0, R__law_are_refused_0, R__law_are_refused_1, R__law_are_refused_2, R__law_are_refused_3, R__law_are_refused_4, R__law_are_refused_5, R__law_are_refused_6, R__law_are_refused_7, R__law_are_refused_8, R__law_are_refused_9, R__law_are_refused_10, R__law_are_refused_11, R__law_are_refused_12, R__law_are_refused_13, R__law_ticks_0, R__law_wishes_0, addD_ii, addD_ss, addD_ll, addD_tt, subD_ii, mulD_ii, mulD_si, mulD_li, fdivD_ii, modD_ii, powD_ii, eqD_ii, eqD_ss, eqD_bb, neD_ii, neD_ss, neD_bb, ltD_ii, ltD_ss, leD_ii, gtD_ii, geD_ii, isD_n, isD_bb, isnotD_n, isnotD_bb, inD_ss, inD_l, inD_t, notinD_ss, notinD_l, notinD_t, ixD_l, ixD_t, ixD_s, slD_t, slD_s, slD_l, lenD_s, lenD_l, lenD_t, tupD_l, tupD_t, listD_l, listD_t, allD_l, anyD_l, sumD_l, maxD_ii, minD_ii, maxD_l, minD_l, absD_i, gcdD_ii, intD_i, intD_b, intD_s, strD_i, strD_s, reprD_1, joinD_l, splitD_s, PB_0, PB_1, PB_2, gIte_t, gIte_f, gIte_d, gIte_n, eqD_xt, eqD_tx, neD_xt, neD_tx, eqD_tt, neD_tt]
  cases d <;> simp only [gIte, isIntD, isBoolD, intB] at h ⊢ <;> simp <;> exact h
theorem common_ok {a b : Int} (h : K (.int ((Nat.gcd a.natAbs b.natAbs : Nat) : Int))) : F_common [.dat (.int a), .dat (.int b)] K E := by
  unfold F_common specOf G_common N_common
  refine ⟨rfl, ?_⟩
  simp only [gSeq, gSet, gVar, gVarB, gC, gBin, gChain, gTB, gIf, gIfS, gRet, gCall, gCallF, gCo, gN, gTup, gLst, gL, gNotT, gNotV, gAndT, gOrT, gAndV, gOrV, gIsi, gSl, gPart, gNo, gM0, gM1, gFn, gAn, gAd, gAp, gAs, gAsg, gTo, gToT, gToC, gTo0, gNext, gNeg, gPs0, gTick, gPix, gLenS, gIxS, gSumS, gLRg, gPar, gDic0, gDic1, gYes, gSeqI, gRg1, gRg2, gRetN, gSetF, gApp, gExt, gDrop, gFrz, gLcC_x, gForC_x, gRev, revD, gPar3F, gOff, gOffS, gBreak, gCont, clr, startD, nth, List.set, true_or, or_true, true_and, and_true, R__law_pot_0, R__law_pot_1, R__law_pot_2, R__law_common_0, R__law_common_1, R__law_reduced_0, R__law_power_0, R__law_power_1, R__law_parts_0, R__law_parts_1, R__law_parts_2, R__law_cost_0, R__law_cost_1, R__law_cost_2, R__law_cost_3, R__law_cost_4, R__law_cost_5, R_is_fraction_0, R_are_written_0, R_without_tens_0, R_without_tens_1, R_parts_of_step_0, R_parts_of_step_1, R_parts_of_step_2, R_parts_of_step_3, R_parts_of_step_4, R_reduced_0, R_is_ticks_0, R_is_ticks_1, R_is_ticks_2, R_check_ends_0, R_are_wishes_0, R_steps_in_vain_0, R_values_of_0, R_whole_cost_0, R_ticks_cost_0, R_ticks_cost_1, R_ticks_cost_2, R__law_take_0, R__law_take_1, R__law_take_2, R__law_take_3, R__law_take_4, R__law_take_5, R__law_take_6, R__law_odd_0, R__law_odd_1, R__law_odd_2, R__law_odd_3, R__law_odd_4, R__law_odd_5, R__law_odd_6, R__law_odd_7, R__law_odd_8, R__law_is_fraction_0, R__law_are_ticks_0, R__law_are_ticks_1, R__law_heard_0, R__law_are_refused_0, R__law_are_refused_1, R__law_are_refused_2, R__law_are_refused_3, R__law_are_refused_4, R__law_are_refused_5, R__law_are_refused_6, R__law_are_refused_7, R__law_are_refused_8, R__law_are_refused_9, R__law_are_refused_10, R__law_are_refused_11, R__law_are_refused_12, R__law_are_refused_13, R__law_ticks_0, R__law_wishes_0, addD_ii, addD_ss, addD_ll, addD_tt, subD_ii, mulD_ii, mulD_si, mulD_li, fdivD_ii, modD_ii, powD_ii, eqD_ii, eqD_ss, eqD_bb, neD_ii, neD_ss, neD_bb, ltD_ii, ltD_ss, leD_ii, gtD_ii, geD_ii, isD_n, isD_bb, isnotD_n, isnotD_bb, inD_ss, inD_l, inD_t, notinD_ss, notinD_l, notinD_t, ixD_l, ixD_t, ixD_s, slD_t, slD_s, slD_l, lenD_s, lenD_l, lenD_t, tupD_l, tupD_t, listD_l, listD_t, allD_l, anyD_l, sumD_l, maxD_ii, minD_ii, maxD_l, minD_l, absD_i, gcdD_ii, intD_i, intD_b, intD_s, strD_i, strD_s, reprD_1, joinD_l, splitD_s, PB_0, PB_1, PB_2, gIte_t, gIte_f, gIte_d, gIte_n, eqD_xt, eqD_tx, neD_xt, neD_tx, eqD_tt, neD_tt]
  exact h
theorem abs_if (a : Int) : (if a < 0 then -a else a) = (a.natAbs : Int) := by
  split <;> omega
theorem lcommon_ok {a b : Int} (h : K (.int ((Nat.gcd a.natAbs b.natAbs : Nat) : Int))) : F__law_common [.dat (.int a), .dat (.int b)] K E := by
  unfold F__law_common specOf G__law_common N__law_common
  refine ⟨rfl, ?_⟩
  simp only [gSeq, gSet, gVar, gVarB, gC, gBin, gChain, gTB, gIf, gIfS, gRet, gCall, gCallF, gCo, gN, gTup, gLst, gL, gNotT, gNotV, gAndT, gOrT, gAndV, gOrV, gIsi, gSl, gPart, gNo, gM0, gM1, gFn, gAn, gAd, gAp, gAs, gAsg, gTo, gToT, gToC, gTo0, gNext, gNeg, gPs0, gTick, gPix, gLenS, gIxS, gSumS, gLRg, gPar, gDic0, gDic1, gYes, gSeqI, gRg1, gRg2, gRetN, gSetF, gApp, gExt, gDrop, gFrz, gLcC_x, gForC_x, gRev, revD, gPar3F, gOff, gOffS, gBreak, gCont, clr, startD, nth, List.set, true_or, or_true, true_and, and_true, R__law_pot_0, R__law_pot_1, R__law_pot_2, R__law_common_0, R__law_common_1, R__law_reduced_0, R__law_power_0, R__law_power_1, R__law_parts_0, R__law_parts_1, R__law_parts_2, R__law_cost_0, R__law_cost_1, R__law_cost_2, R__law_cost_3, R__law_cost_4, R__law_cost_5, R_is_fraction_0, R_are_written_0, R_without_tens_0, R_without_tens_1, R_parts_of_step_0, R_parts_of_step_1, R_parts_of_step_2, R_parts_of_step_3, R_parts_of_step_4, R_reduced_0, R_is_ticks_0, R_is_ticks_1, R_is_ticks_2, R_check_ends_0, R_are_wishes_0, R_steps_in_vain_0, R_values_of_0, R_whole_cost_0, R_ticks_cost_0, R_ticks_cost_1, R_ticks_cost_2, R__law_take_0, R__law_take_1, R__law_take_2, R__law_take_3, R__law_take_4, R__law_take_5, R__law_take_6, R__law_odd_0, R__law_odd_1, R__law_odd_2, R__law_odd_3, R__law_odd_4, R__law_odd_5, R__law_odd_6, R__law_odd_7, R__law_odd_8, R__law_is_fraction_0, R__law_are_ticks_0, R__law_are_ticks_1, R__law_heard_0, R__law_are_refused_0, R__law_are_refused_1, R__law_are_refused_2, R__law_are_refused_3, R__law_are_refused_4, R__law_are_refused_5, R__law_are_refused_6, R__law_are_refused_7, R__law_are_refused_8, R__law_are_refused_9, R__law_are_refused_10, R__law_are_refused_11, R__law_are_refused_12, R__law_are_refused_13, R__law_ticks_0, R__law_wishes_0, addD_ii, addD_ss, addD_ll, addD_tt, subD_ii, mulD_ii, mulD_si, mulD_li, fdivD_ii, modD_ii, powD_ii, eqD_ii, eqD_ss, eqD_bb, neD_ii, neD_ss, neD_bb, ltD_ii, ltD_ss, leD_ii, gtD_ii, geD_ii, isD_n, isD_bb, isnotD_n, isnotD_bb, inD_ss, inD_l, inD_t, notinD_ss, notinD_l, notinD_t, ixD_l, ixD_t, ixD_s, slD_t, slD_s, slD_l, lenD_s, lenD_l, lenD_t, tupD_l, tupD_t, listD_l, listD_t, allD_l, anyD_l, sumD_l, maxD_ii, minD_ii, maxD_l, minD_l, absD_i, gcdD_ii, intD_i, intD_b, intD_s, strD_i, strD_s, reprD_1, joinD_l, splitD_s, PB_0, PB_1, PB_2, gIte_t, gIte_f, gIte_d, gIte_n, eqD_xt, eqD_tx, neD_xt, neD_tx, eqD_tt, neD_tt, abs_if]
  refine ⟨fun n Δ' => ∃ x y : Nat, Δ' = [.dat (.int x), .dat (.int y)] ∧ Nat.gcd x y = Nat.gcd a.natAbs b.natAbs ∧ y ≤ n, ⟨b.natAbs, by omega, a.natAbs, b.natAbs, rfl, rfl, Nat.le_refl _⟩, ?_⟩
  rintro n Δ' ⟨x, y, rfl, hg, hn⟩
  simp only [gSeq, gSet, gVar, gVarB, gC, gBin, gChain, gTB, gIf, gIfS, gRet, gCall, gCallF, gCo, gN, gTup, gLst, gL, gNotT, gNotV, gAndT, gOrT, gAndV, gOrV, gIsi, gSl, gPart, gNo, gM0, gM1, gFn, gAn, gAd, gAp, gAs, gAsg, gTo, gToT, gToC, gTo0, gNext, gNeg, gPs0, gTick, gPix, gLenS, gIxS, gSumS, gLRg, gPar, gDic0, gDic1, gYes, gSeqI, gRg1, gRg2, gRetN, gSetF, gApp, gExt, gDrop, gFrz, gLcC_x, gForC_x, gRev, revD, gPar3F, gOff, gOffS, gBreak, gCont, clr, startD, nth, List.set, true_or, or_true, true_and, and_true, R__law_pot_0, R__law_pot_1, R__law_pot_2, R__law_common_0, R__law_common_1, R__law_reduced_0, R__law_power_0, R__law_power_1, R__law_parts_0, R__law_parts_1, R__law_parts_2, R__law_cost_0, R__law_cost_1, R__law_cost_2, R__law_cost_3, R__law_cost_4, R__law_cost_5, R_is_fraction_0, R_are_written_0, R_without_tens_0, R_without_tens_1, R_parts_of_step_0, R_parts_of_step_1, R_parts_of_step_2, R_parts_of_step_3, R_parts_of_step_4, R_reduced_0, R_is_ticks_0, R_is_ticks_1, R_is_ticks_2, R_check_ends_0, R_are_wishes_0, R_steps_in_vain_0, R_values_of_0, R_whole_cost_0, R_ticks_cost_0, R_ticks_cost_1, R_ticks_cost_2, R__law_take_0, R__law_take_1, R__law_take_2, R__law_take_3, R__law_take_4, R__law_take_5, R__law_take_6, R__law_odd_0, R__law_odd_1, R__law_odd_2, R__law_odd_3, R__law_odd_4, R__law_odd_5, R__law_odd_6, R__law_odd_7, R__law_odd_8, R__law_is_fraction_0, R__law_are_ticks_0, R__law_are_ticks_1, R__law_heard_0, R__law_are_refused_0, R__law_are_refused_1, R__law_are_refused_2, R__law_are_refused_3, R__law_are_refused_4, R__law_are_refused_5, R__law_are_refused_6, R__law_are_refused_7, R__law_are_refused_8, R__law_are_refused_9, R__law_are_refused_10, R__law_are_refused_11, R__law_are_refused_12, R__law_are_refused_13, R__law_ticks_0, R__law_wishes_0, addD_ii, addD_ss, addD_ll, addD_tt, subD_ii, mulD_ii, mulD_si, mulD_li, fdivD_ii, modD_ii, powD_ii, eqD_ii, eqD_ss, eqD_bb, neD_ii, neD_ss, neD_bb, ltD_ii, ltD_ss, leD_ii, gtD_ii, geD_ii, isD_n, isD_bb, isnotD_n, isnotD_bb, inD_ss, inD_l, inD_t, notinD_ss, notinD_l, notinD_t, ixD_l, ixD_t, ixD_s, slD_t, slD_s, slD_l, lenD_s, lenD_l, lenD_t, tupD_l, tupD_t, listD_l, listD_t, allD_l, anyD_l, sumD_l, maxD_ii, minD_ii, maxD_l, minD_l, absD_i, gcdD_ii, intD_i, intD_b, intD_s, strD_i, strD_s, reprD_1, joinD_l, splitD_s, PB_0, PB_1, PB_2, gIte_t, gIte_f, gIte_d, gIte_n, eqD_xt, eqD_tx, neD_xt, neD_tx, eqD_tt, neD_tt]
  refine ⟨fun e => ?_, fun e => ?_⟩
  · have e' : y = 0 := by omega
    rw [e', Nat.gcd_zero_right] at hg
    rw [hg]
    exact h
  · have hy : 0 < y := by omega
    refine ⟨n - 1, by omega, by omega, y, x % y, ?_, ?_, ?_⟩
    · rw [Int.natCast_emod]
    · rw [← hg, Nat.gcd_comm y, ← Nat.gcd_rec, Nat.gcd_comm]
    · have := Nat.mod_lt x hy
      omega
/-- a fraction as it should be -/
def fracB : D → Bool
  | .tuple [.int a, .int b] => decide (1 ≤ b) && decide (Nat.gcd a.natAbs b.natAbs = 1)
  | _ => false
def intP (d : D) : D := .bool (intB d)
theorem ints_map (xs : List D) : xs.map intP = (xs.map intB).map PyData.bool := by
  rw [List.map_map]
  rfl
theorem intB_int {x : D} (h : intB x = true) : ∃ i, x = .int i := by
  cases x <;> simp [intB] at h
  exact ⟨_, rfl⟩
theorem frac_ints {x y : D} (h : (intB x && intB y) = false) : fracB (.tuple [x, y]) = false := by
  cases x <;> cases y <;> simp [intB] at h <;> rfl
theorem frac_len : ∀ {xs : List D}, ¬ (xs.length : Int) = 2 → fracB (.tuple xs) = false
  | [], _ => rfl
  | [x], _ => by cases x <;> rfl
  | [x, y], h => absurd rfl h
  | x :: y :: z :: r, _ => by cases x <;> cases y <;> rfl
theorem isFraction_ok {d : D} (h : K (.bool (fracB d))) : F_is_fraction [.dat d] K E := by
  unfold F_is_fraction specOf G_is_fraction N_is_fraction
  refine ⟨rfl, ?_⟩
  cases d with
  | tuple xs =>
    simp only [gSeq, gSet, gVar, gVarB, gC, gBin, gChain, gTB, gIf, gIfS, gRet, gCall, gCallF, gCo, gN, gTup, gLst, gL, gNotT, gNotV, gAndT, gOrT, gAndV, gOrV, gIsi, gSl, gPart, gNo, gM0, gM1, gFn, gAn, gAd, gAp, gAs, gAsg, gTo, gToT, gToC, gTo0, gNext, gNeg, gPs0, gTick, gPix, gLenS, gIxS, gSumS, gLRg, gPar, gDic0, gDic1, gYes, gSeqI, gRg1, gRg2, gRetN, gSetF, gApp, gExt, gDrop, gFrz, gLcC_x, gForC_x, gRev, revD, gPar3F, gOff, gOffS, gBreak, gCont, clr, startD, nth, List.set, true_or, or_true, true_and, and_true, R__law_pot_0, R__law_pot_1, R__law_pot_2, R__law_common_0, R__law_common_1, R__law_reduced_0, R__law_power_0, R__law_power_1, R__law_parts_0, R__law_parts_1, R__law_parts_2, R__law_cost_0, R__law_cost_1, R__law_cost_2, R__law_cost_3, R__law_cost_4, R__law_cost_5, R_is_fraction_0, R_are_written_0, R_without_tens_0, R_without_tens_1, R_parts_of_step_0, R_parts_of_step_1, R_parts_of_step_2, R_parts_of_step_3, R_parts_of_step_4, R_reduced_0, R_is_ticks_0, R_is_ticks_1, R_is_ticks_2, R_check_ends_0, R_are_wishes_0, R_steps_in_vain_0, R_values_of_0, R_whole_cost_0, R_ticks_cost_0, R_ticks_cost_1, R_ticks_cost_2, R__law_take_0, R__law_take_1, R__law_take_2, R__law_take_3, R__law_take_4, R__law_take_5, R__law_take_6, R__law_odd_0, R__law_odd_1, R__law_odd_2, R__law_odd_3, R__law_odd_4, R__law_odd_5, R__law_odd_6, R__law_odd_7, R__law_odd_8, R__law_is_fraction_0, R__law_are_ticks_0, R__law_are_ticks_1, R__law_heard_0, R__law_are_refused_0, R__law_are_refused_1, R__law_are_refused_2, R__law_are_refused_3, R__law_are_refused_4, R__law_are_refused_5, R__law_are_refused_6, R__law_are_refused_7, R__law_are_refused_8, R__law_are_refused_9, R__law_are_refused_10, R__law_are_refused_11, R__law_are_refused_12, R__law_are_refused_13, R__law_ticks_0, R__law_wishes_0, addD_ii, addD_ss, addD_ll, addD_tt, subD_ii, mulD_ii, mulD_si, mulD_li, fdivD_ii, modD_ii, powD_ii, eqD_ii, eqD_ss, eqD_bb, neD_ii, neD_ss, neD_bb, ltD_ii, ltD_ss, leD_ii, gtD_ii, geD_ii, isD_n, isD_bb, isnotD_n, isnotD_bb, inD_ss, inD_l, inD_t, notinD_ss, notinD_l, notinD_t, ixD_l, ixD_t, ixD_s, slD_t, slD_s, slD_l, lenD_s, lenD_l, lenD_t, tupD_l, tupD_t, listD_l, listD_t, allD_l, anyD_l, sumD_l, maxD_ii, minD_ii, maxD_l, minD_l, absD_i, gcdD_ii, intD_i, intD_b, intD_s, strD_i, strD_s, reprD_1, joinD_l, splitD_s, PB_0, PB_1, PB_2, gIte_t, gIte_f, gIte_d, gIte_n, eqD_xt, eqD_tx, neD_xt, neD_tx, eqD_tt, neD_tt, isTupD, Bool.not_true, List.append_nil]
    refine ⟨fun hl => ?_, fun hl => ?_⟩
    · match xs, hl, h with
      | [x, y], _, h =>
        refine lc_to intP rfl (Nat.le_refl _) (fun d hd P hP => isInteger_ok hP) ⟨_, ints_map _, ?_⟩
        have e : ([x, y].map intB).all id = (intB x && intB y) := by simp
        rw [e]
        refine ⟨fun z => ?_, fun z => ?_⟩
        · rw [Bool.and_eq_true] at z
          obtain ⟨i, rfl⟩ := intB_int z.1
          obtain ⟨j, rfl⟩ := intB_int z.2
          refine ⟨_, rfl, ?_⟩
          have h' : K (.bool (decide (1 ≤ j) && decide (Nat.gcd i.natAbs j.natAbs = 1))) := h
          simp only [geD_ii, gIte_d]
          refine ⟨fun w => ⟨_, rfl, _, rfl, common_ok ?_⟩, fun w => ?_⟩
          · simp only [eqD_ii]
            rw [decide_eq_true w, Bool.true_and] at h'
            have e2 : decide (((Nat.gcd i.natAbs j.natAbs : Nat) : Int) = 1) = decide (Nat.gcd i.natAbs j.natAbs = 1) := by
              by_cases q : Nat.gcd i.natAbs j.natAbs = 1
              · rw [decide_eq_true q, decide_eq_true (by omega)]
              · rw [decide_eq_false q, decide_eq_false (by omega)]
            rw [e2]
            exact h'
          · rwa [decide_eq_false w, Bool.false_and] at h'
        · rwa [frac_ints z] at h
    · rwa [frac_len hl] at h
  | _ =>
    simp only [gSeq, gSet, gVar, gVarB, gC, gBin, gChain, gTB, gIf, gIfS, gRet, gCall, gCallF, gCo, gN, gTup, gLst, gL, gNotT, gNotV, gAndT, gOrT, gAndV, gOrV, gIsi, gSl, gPart, gNo, gM0, gM1, gFn, gAn, gAd, gAp, gAs, gAsg, gTo, gToT, gToC, gTo0, gNext, gNeg, gPs0, gTick, gPix, gLenS, gIxS, gSumS, gLRg, gPar, gDic0, gDic1, gYes, gSeqI, gRg1, gRg2, gRetN, gSetF, gApp, gExt, gDrop, gFrz, gLcC_x, gForC_x, gRev, revD, gPar3F, gOff, gOffS, gBreak, gCont, clr, startD, nth, List.set, true_or, or_true, true_and, and_true, R__law_pot_0, R__law_pot_1, R__law_pot_2, R__law_common_0, R__law_common_1, R__law_reduced_0, R__law_power_0, R__law_power_1, R__law_parts_0, R__law_parts_1, R__law_parts_2, R__law_cost_0, R__law_cost_1, R__law_cost_2, R__law_cost_3, R__law_cost_4, R__law_cost_5, R_is_fraction_0, R_are_written_0, R_without_tens_0, R_without_tens_1, R_parts_of_step_0, R_parts_of_step_1, R_parts_of_step_2, R_parts_of_step_3, R_parts_of_step_4, R_reduced_0, R_is_ticks_0, R_is_ticks_1, R_is_ticks_2, R_check_ends_0, R_are_wishes_0, R_steps_in_vain_0, R_values_of_0, R_whole_cost_0, R_ticks_cost_0, R_ticks_cost_1, R_ticks_cost_2, R__law_take_0, R__law_take_1, R__law_take_2, R__law_take_3, R__law_take_4, R__law_take_5, R__law_take_6, R__law_odd_0, R__law_odd_1, R__law_odd_2, R__law_odd_3, R__law_odd_4, R__law_odd_5, R__law_odd_6, R__law_odd_7, R__law_odd_8, R__law_is_fraction_0, R__law_are_ticks_0, R__law_are_ticks_1, R__law_heard_0, R__law_are_refused_0, R__law_are_refused_1, R__law_are_refused_2, R__law_are_refused_3, R__law_are_refused_4, R__law_are_refused_5, R__law_are_refused_6, R__law_are_refused_7, R__law_are_refused_8, R__law_are_refused_9, R__law_are_refused_10, R__law_are_refused_11, R__law_are_refused_12, R__law_are_refused_13, R__law_ticks_0, R__law_wishes_0, addD_ii, addD_ss, addD_ll, addD_tt, subD_ii, mulD_ii, mulD_si, mulD_li, fdivD_ii, modD_ii, powD_ii, eqD_ii, eqD_ss, eqD_bb, neD_ii, neD_ss, neD_bb, ltD_ii, ltD_ss, leD_ii, gtD_ii, geD_ii, isD_n, isD_bb, isnotD_n, isnotD_bb, inD_ss, inD_l, inD_t, notinD_ss, notinD_l, notinD_t, ixD_l, ixD_t, ixD_s, slD_t, slD_s, slD_l, lenD_s, lenD_l, lenD_t, tupD_l, tupD_t, listD_l, listD_t, allD_l, anyD_l, sumD_l, maxD_ii, minD_ii, maxD_l, minD_l, absD_i, gcdD_ii, intD_i, intD_b, intD_s, strD_i, strD_s, reprD_1, joinD_l, splitD_s, PB_0, PB_1, PB_2, gIte_t, gIte_f, gIte_d, gIte_n, eqD_xt, eqD_tx, neD_xt, neD_tx, eqD_tt, neD_tt, isTupD, Bool.not_false]
    exact h
end K33
set_option exponentiation.threshold 5000
/-! K33e: fractions by functions. -/
namespace K33
open PySem DL
variable {K : D → Prop} {E : Value → D → Prop}
theorem nx_of {D' : DEnds} {Δ : DEnv} (h : D'.nx Δ) : gNext D' Δ := h
abbrev frD (p q : Int) : D := .tuple [.int p, .int q]
abbrev Q2 := Int × Int
abbrev fr (z : Q2) : D := frD z.1 z.2
def rd (x y : Int) : Q2 := (x / ((Nat.gcd x.natAbs y.natAbs : Nat) : Int), y / ((Nat.gcd x.natAbs y.natAbs : Nat) : Int))
def mulF (a b : Q2) : Q2 := rd (a.1 * b.1) (a.2 * b.2)
def addF (a b : Q2) : Q2 := rd (a.1 * b.2 + b.1 * a.2) (a.2 * b.2)
def divF (a b : Q2) : Q2 := rd (a.1 * b.2) (a.2 * b.1)
def ltF (a b : Q2) : Bool := decide (a.1 * b.2 < b.1 * a.2)
structure Fz (n : Nat) (z : Q2) : Prop where
  q1 : 1 ≤ z.2
  p : Sz n z.1
  q : Sz n z.2
theorem Fz.le {n m : Nat} {z : Q2} (h : Fz n z) (l : n ≤ m) : Fz m z := ⟨h.q1, h.p.le l, h.q.le l⟩
section
variable {n m : Nat} {x y : Int} {a b : Q2}
theorem rd_pos (hy : 1 ≤ y) : (1 : Int) ≤ ((Nat.gcd x.natAbs y.natAbs : Nat) : Int) := by
  have : 0 < Nat.gcd x.natAbs y.natAbs := Nat.gcd_pos_of_pos_right _ (by omega)
  omega
theorem rd_gsz (hy : 1 ≤ y) (sy : Sz n y) : Sz n ((Nat.gcd x.natAbs y.natAbs : Nat) : Int) := by
  have : Nat.gcd x.natAbs y.natAbs ≤ y.natAbs := Nat.gcd_le_right _ (by omega)
  unfold Sz at *
  omega
theorem rd_fz (hy : 1 ≤ y) (sx : Sz n x) (sy : Sz n y) : Fz n (rd x y) := by
  have g1 := rd_pos (x := x) hy
  refine ⟨?_, sx.ediv (by omega), sy.ediv (by omega)⟩
  show 1 ≤ y / ((Nat.gcd x.natAbs y.natAbs : Nat) : Int)
  refine (Int.le_ediv_iff_mul_le (by omega)).mpr ?_
  have : Nat.gcd x.natAbs y.natAbs ≤ y.natAbs := Nat.gcd_le_right _ (by omega)
  omega
theorem mul_fz (ha : Fz n a) (hb : Fz m b) : Fz (n + m) (mulF a b) := by
  refine rd_fz ?_ (ha.p.mul hb.p) (ha.q.mul hb.q)
  have := Int.mul_pos (show 0 < a.2 by have := ha.q1; omega) (show 0 < b.2 by have := hb.q1; omega)
  omega
theorem add_fz (ha : Fz n a) (hb : Fz m b) : Fz (n + m + 1) (addF a b) := by
  refine rd_fz ?_ (((ha.p.mul hb.q).add ((hb.p.mul ha.q).le (show m + n ≤ n + m by omega))).le (by omega)) ((ha.q.mul hb.q).le (by omega))
  have := Int.mul_pos (show 0 < a.2 by have := ha.q1; omega) (show 0 < b.2 by have := hb.q1; omega)
  omega
theorem reduced_ok (hy : 1 ≤ y) (sx : Sz 8000 x) (sy : Sz 8000 y) (h : K (fr (rd x y))) : F_reduced [.dat (.int x), .dat (.int y)] K E := by
  have g1 := rd_pos (x := x) hy
  have c := cdiv_of (i := x) (by omega) (rd_gsz (x := x) hy sy) (by decide)
  have c2 := cdiv_of (i := y) (by omega) (rd_gsz (x := x) hy sy) (by decide)
  unfold F_reduced specOf G_reduced N_reduced
  refine ⟨rfl, ⟨fun z => common_ok ?_, fun z => absurd (of_decide_eq_false z) (by omega)⟩⟩
  show R_reduced_0 E _ [.dat (.int x), .dat (.int y), .dat (.int ((Nat.gcd x.natAbs y.natAbs : Nat) : Int))]
  unfold R_reduced_0
  exact ⟨c, c2, sl (n := 2) (by decide), h⟩
theorem lreduced_ok (hy : 1 ≤ y) (sx : Sz 8000 x) (sy : Sz 8000 y) (h : K (fr (rd x y))) : F__law_reduced [.dat (.int x), .dat (.int y)] K E := by
  have g1 := rd_pos (x := x) hy
  have c := cdiv_of (i := x) (by omega) (rd_gsz (x := x) hy sy) (by decide)
  have c2 := cdiv_of (i := y) (by omega) (rd_gsz (x := x) hy sy) (by decide)
  unfold F__law_reduced specOf G__law_reduced N__law_reduced
  refine ⟨rfl, lcommon_ok ?_⟩
  show R__law_reduced_0 E _ [.dat (.int x), .dat (.int y), .dat (.int ((Nat.gcd x.natAbs y.natAbs : Nat) : Int))]
  unfold R__law_reduced_0
  exact ⟨c, c2, sl (n := 2) (by decide), h⟩
theorem mul_q (ha : Fz n a) (hb : Fz m b) : 1 ≤ a.2 * b.2 := by
  have := Int.mul_pos (show 0 < a.2 by have := ha.q1; omega) (show 0 < b.2 by have := hb.q1; omega)
  omega
theorem product_ok (ha : Fz 3900 a) (hb : Fz 3900 b) (h : K (fr (mulF a b))) : F_product_of [.dat (fr a), .dat (fr b)] K E := by
  unfold F_product_of specOf G_product_of N_product_of
  exact ⟨rfl, _, rfl, _, rfl, Sz.mulOk ha.p hb.p, _, rfl, _, rfl, Sz.mulOk ha.q hb.q, reduced_ok (mul_q ha hb) ((ha.p.mul hb.p).le (by decide)) ((ha.q.mul hb.q).le (by decide)) h⟩
theorem times_ok (ha : Fz 3900 a) (hb : Fz 3900 b) (h : K (fr (mulF a b))) : F__law_times [.dat (fr a), .dat (fr b)] K E := by
  unfold F__law_times specOf G__law_times N__law_times
  exact ⟨rfl, _, rfl, _, rfl, Sz.mulOk ha.p hb.p, _, rfl, _, rfl, Sz.mulOk ha.q hb.q, lreduced_ok (mul_q ha hb) ((ha.p.mul hb.p).le (by decide)) ((ha.q.mul hb.q).le (by decide)) h⟩
theorem add_sz (ha : Fz 3900 a) (hb : Fz 3900 b) : Sz 8000 (a.1 * b.2 + b.1 * a.2) := ((ha.p.mul hb.q).add (hb.p.mul ha.q)).le (by decide)
theorem added_ok (ha : Fz 3900 a) (hb : Fz 3900 b) (h : K (fr (addF a b))) : F_added [.dat (fr a), .dat (fr b)] K E := by
  unfold F_added specOf G_added N_added
  exact ⟨rfl, _, rfl, _, rfl, Sz.mulOk ha.p hb.q, _, rfl, _, rfl, Sz.mulOk hb.p ha.q, _, rfl, _, rfl, Sz.mulOk ha.q hb.q, reduced_ok (mul_q ha hb) (add_sz ha hb) ((ha.q.mul hb.q).le (by decide)) h⟩
theorem plus_ok (ha : Fz 3900 a) (hb : Fz 3900 b) (h : K (fr (addF a b))) : F__law_plus [.dat (fr a), .dat (fr b)] K E := by
  unfold F__law_plus specOf G__law_plus N__law_plus
  exact ⟨rfl, _, rfl, _, rfl, Sz.mulOk ha.p hb.q, _, rfl, _, rfl, Sz.mulOk hb.p ha.q, _, rfl, _, rfl, Sz.mulOk ha.q hb.q, lreduced_ok (mul_q ha hb) (add_sz ha hb) ((ha.q.mul hb.q).le (by decide)) h⟩
theorem quotient_ok (ha : Fz 3900 a) (hb : Fz 3900 b) (b1 : 1 ≤ b.1) (h : K (fr (divF a b))) : F_quotient [.dat (fr a), .dat (fr b)] K E := by
  have q1 := Int.mul_pos (show 0 < a.2 by have := ha.q1; omega) (show 0 < b.1 by omega)
  unfold F_quotient specOf G_quotient N_quotient
  exact ⟨rfl, _, rfl, _, rfl, Sz.mulOk ha.p hb.q, _, rfl, _, rfl, Sz.mulOk ha.q hb.p, reduced_ok (by omega) ((ha.p.mul hb.q).le (by decide)) ((ha.q.mul hb.p).le (by decide)) h⟩
theorem isLess_ok (ha : Fz 3900 a) (hb : Fz 3900 b) (h : K (.bool (ltF a b))) : F_is_less [.dat (fr a), .dat (fr b)] K E := by
  unfold F_is_less specOf G_is_less N_is_less
  exact ⟨rfl, _, rfl, _, rfl, Sz.mulOk ha.p hb.q, _, rfl, _, rfl, Sz.mulOk hb.p ha.q, h⟩
theorem lawLess_ok (ha : Fz 3900 a) (hb : Fz 3900 b) (h : K (.bool (ltF a b))) : F__law_less [.dat (fr a), .dat (fr b)] K E := by
  unfold F__law_less specOf G__law_less N__law_less
  exact ⟨rfl, _, rfl, _, rfl, Sz.mulOk ha.p hb.q, _, rfl, _, rfl, Sz.mulOk hb.p ha.q, h⟩
end
/-! ### powers of ten -/
section
variable {w : Int}
def ten (w : Int) : Q2 := if 0 ≤ w then (10 ^ w.natAbs, 1) else (1, 10 ^ w.natAbs)
theorem ten_sz {i : Nat} (h : i ≤ 1000) : Sz 3500 ((10 : Int) ^ i) := by
  have h2 : (10 : Nat) ^ i ≤ 10 ^ 1000 := Nat.pow_le_pow_right (by decide) h
  have h3 : (10 : Nat) ^ 1000 < 2 ^ 3500 := by decide +kernel
  have e : ((10 : Int) ^ i).natAbs = 10 ^ i := by rw [Int.natAbs_pow]; rfl
  unfold Sz
  rw [e]
  exact Nat.lt_of_le_of_lt h2 h3
theorem ten_fz (h : w.natAbs ≤ 1000) : Fz 3500 (ten w) := by
  have s := ten_sz h
  have p : (1 : Int) ≤ 10 ^ w.natAbs := by
    have := Int.pow_pos (n := 10) (m := w.natAbs) (by decide)
    omega
  unfold ten
  split
  · exact ⟨show (1 : Int) ≤ 1 by decide, s, show Sz 3500 1 from lit (by decide +kernel)⟩
  · exact ⟨p, show Sz 3500 1 from lit (by decide +kernel), s⟩
theorem lawPower_ok (hw : w.natAbs ≤ 1000) (h : K (fr (ten w))) : F__law_power [.dat (.int w)] K E := by
  have t10 : Sz 5 10 := lit
  unfold F__law_power specOf G__law_power N__law_power
  refine ⟨rfl, ?_⟩
  show R__law_power_1 E _ [.dat (.int w), .dat (.int 1), .un]
  unfold R__law_power_1
  simp only [gSeq, gForC_x]
  show _ ∧ _ ∧ _
  have ea : (if w < 0 then -w else w) = (w.natAbs : Int) := abs_if w
  rw [ea]
  have hlen : (rangeD 0 (w.natAbs : Int)).length = w.natAbs := by
    unfold rangeD
    rw [List.length_map, List.length_range]
    omega
  refine ⟨by omega, by rw [sizeLine_eq]; omega, Nat.le_of_eq (Nat.mul_zero _), fun i Δ' => ∃ s2 : Sv, Δ' = [.dat (.int w), .dat (.int (10 ^ i)), s2], ⟨_, rfl⟩, ?_, ?_⟩
  · rintro i z Δ' hz ⟨s2, rfl⟩
    have hi : i < w.natAbs := by
      obtain ⟨hl, _⟩ := List.getElem?_eq_some_iff.mp hz
      rwa [hlen] at hl
    exact ⟨Sz.mulOk (ten_sz (i := i) (by omega)) t10, _, rfl⟩
  · rintro Δ' ⟨s2, rfl⟩
    rw [hlen]
    unfold R__law_power_0
    unfold ten at h
    by_cases z : 0 ≤ w
    · rw [if_pos z] at h
      exact ⟨fun _ => ⟨sl (n := 2) (by decide), h⟩, fun q => absurd (of_decide_eq_false q) (by omega)⟩
    · rw [if_neg z] at h
      exact ⟨fun q => absurd (of_decide_eq_true q) (by omega), fun _ => ⟨sl (n := 2) (by decide), h⟩⟩
end
end K33
set_option exponentiation.threshold 5000
/-! K33w: steps: their parts; which values are ticks. -/
namespace K33
open PySem DL
variable {K : D → Prop} {E : Value → D → Prop}
def wt : Nat → Int → Int → Q2
  | 0, n, m => (n, m)
  | f + 1, n, m => if n % 10 = 0 then wt f (n / 10) (m + 1) else (n, m)
theorem withoutTens_ok {n : Int} {f : Nat} (h1 : 1 ≤ n) (hf : n < 10 ^ f) (h : K (fr (wt f n 0))) : F_without_tens [.dat (.int n)] K E := by
  unfold F_without_tens specOf G_without_tens N_without_tens
  refine ⟨rfl, ?_⟩
  show R_without_tens_1 E _ [.dat (.int n), .dat (.int 0)]
  unfold R_without_tens_1
  refine ⟨fun k Δ' => ∃ x m : Int, Δ' = [.dat (.int x), .dat (.int m)] ∧ 1 ≤ x ∧ x < 10 ^ k ∧ wt k x m = wt f n 0, ⟨f, Nat.le_of_eq (Nat.mul_zero _), n, 0, rfl, h1, hf, rfl⟩, ?_⟩
  rintro k Δ' ⟨x, m, rfl, x1, xk, e⟩
  refine ⟨by decide, fun z => ?_, fun z => ?_⟩
  · have z : x % 10 = 0 := of_decide_eq_true z
    match k, xk, e with
    | 0, xk, _ =>
      rw [Int.pow_zero] at xk
      omega
    | k + 1, xk, e =>
      rw [Int.pow_succ] at xk
      refine ⟨k, rfl, ⟨by decide, by decide⟩, _, _, rfl, by omega, by omega, ?_⟩
      rw [← e]
      show _ = (if x % 10 = 0 then wt k (x / 10) (m + 1) else (x, m))
      rw [if_pos z]
  · have z : ¬ x % 10 = 0 := of_decide_eq_false z
    have e2 : wt f n 0 = (x, m) := by
      rw [← e]
      match k with
      | 0 => rfl
      | k + 1 =>
        show (if x % 10 = 0 then wt k (x / 10) (m + 1) else (x, m)) = _
        rw [if_neg z]
    rw [e2] at h
    unfold R_without_tens_0
    exact ⟨sl (n := 2) (by decide), h⟩
def digB (d : Int) : Bool := decide (1 = d) || (decide (2 = d) || decide (5 = d))
theorem dig_any {d : Int} : ([PyData.int 1, .int 2, .int 5].any fun z => PyData.eqv z (.int d)) = digB d := by
  simp [List.any, digB, PyData.eqv]
  rfl
theorem digIn_ok {d : Int} (h : K (.bool (digB d))) : inD (.int d) d_DIGITS K := ⟨rfl, rfl, by rw [dig_any]; exact h⟩
theorem digNot_ok {d : Int} (h : K (.bool (!digB d))) : notinD (.int d) d_DIGITS K := ⟨rfl, rfl, by rw [dig_any]; exact h⟩
def optD : Option Q2 → D
  | none => .none
  | some z => fr z
def parts (f : Nat) (s : Q2) : Option Q2 :=
  if s.1 < 1 then none
  else if s.2 = 1 then (if digB (wt f s.1 0).1 then some (wt f s.1 0) else none)
  else if s.1 ≠ 1 then none
  else if digB (wt f s.2 0).1 then (if (wt f s.2 0).1 = 1 then some (1, 0 - (wt f s.2 0).2) else some (10 / (wt f s.2 0).1, 0 - (wt f s.2 0).2 - 1))
  else none
theorem parts_ok {s : Q2} {f : Nat} (q1 : 1 ≤ s.2) (h1 : s.1 < 10 ^ f) (h2 : s.2 < 10 ^ f) (h : K (optD (parts f s))) : F_parts_of_step [.dat (fr s)] K E := by
  obtain ⟨a, b⟩ := s
  have q1 : 1 ≤ b := q1
  unfold parts at h
  dsimp only at h h1 h2
  unfold F_parts_of_step specOf G_parts_of_step N_parts_of_step
  refine ⟨rfl, _, rfl, ⟨fun z => ?_, fun z => nx_of ?_⟩⟩
  · rw [if_pos (of_decide_eq_true z)] at h
    exact h
  have z := of_decide_eq_false z
  rw [if_neg z] at h
  unfold R_parts_of_step_4
  refine ⟨_, rfl, withoutTens_ok (by omega) h1 ⟨rfl, ?_⟩⟩
  show R_parts_of_step_3 E _ [.dat (frD a b), .dat (.int (wt f a 0).1), .dat (.int (wt f a 0).2), .un, .un]
  generalize hw : wt f a 0 = w at *
  unfold R_parts_of_step_3
  refine ⟨_, rfl, ⟨fun z2 => ?_, fun z2 => nx_of ?_⟩⟩
  · rw [if_pos (of_decide_eq_true z2)] at h
    refine ⟨rfl, rfl, ?_⟩
    show gIte ([PyData.int 1, .int 2, .int 5].any fun z => PyData.eqv z (.int w.1)) _ _
    rw [dig_any]
    cases e : digB w.1 with
    | true =>
      rw [e, if_pos rfl] at h
      exact ⟨fun _ => ⟨sl (n := 2) (by decide), h⟩, fun z => (nomatch z)⟩
    | false =>
      rw [e, if_neg (by decide)] at h
      exact ⟨fun z => (nomatch z), fun _ => h⟩
  · rw [if_neg (of_decide_eq_false z2)] at h
    unfold R_parts_of_step_2
    refine ⟨_, rfl, withoutTens_ok q1 h2 ⟨rfl, ?_⟩⟩
    show R_parts_of_step_1 E _ [.dat (frD a b), .dat (.int w.1), .dat (.int w.2), .dat (.int (wt f b 0).1), .dat (.int (wt f b 0).2)]
    generalize hv : wt f b 0 = v at *
    unfold R_parts_of_step_1
    refine ⟨_, rfl, ⟨fun z3 => ⟨fun _ => ?_, fun z => (nomatch z)⟩, fun z3 => ?_⟩⟩
    · have z3 : ¬ a = 1 := by
        intro e
        rw [e] at z3
        cases z3
      rw [if_pos z3] at h
      exact h
    · have z3 : a = 1 := by
        have z3 : (!decide (a = 1)) = false := z3
        rw [Bool.not_eq_false'] at z3
        exact of_decide_eq_true z3
      rw [if_neg (fun q => q z3)] at h
      refine ⟨rfl, rfl, ?_⟩
      show gIte (!([PyData.int 1, .int 2, .int 5].any fun z => PyData.eqv z (.int v.1))) _ _
      rw [dig_any]
      cases e : digB v.1 with
      | false =>
        rw [e, if_neg (by decide)] at h
        exact ⟨fun _ => h, fun z => (nomatch z)⟩
      | true =>
        rw [e, if_pos rfl] at h
        refine ⟨fun z => (nomatch z), fun _ => nx_of ?_⟩
        have pos : 0 < v.1 ∧ Sz 5 v.1 := by
          unfold digB at e
          simp only [Bool.or_eq_true, decide_eq_true_eq] at e
          rcases e with e | e | e <;> rw [← e] <;> exact ⟨by decide, lit⟩
        unfold R_parts_of_step_0
        refine ⟨fun z4 => ?_, fun z4 => ?_⟩
        · rw [if_pos (of_decide_eq_true z4)] at h
          exact ⟨sl (n := 2) (by decide), h⟩
        · rw [if_neg (of_decide_eq_false z4)] at h
          exact ⟨cdiv_of pos.1 pos.2 (by decide), sl (n := 2) (by decide), h⟩
/-! ### the law's own parts -/
def stepF (g w : Int) : Q2 := mulF (g, 1) (ten w)
def size (s : Q2) : Int := (((toString s.1 : Str).length : Nat) : Int) - (((toString s.2 : Str).length : Nat) : Int)
theorem size_le {s : Q2} (hs : Fz 60 s) : (size s).natAbs ≤ 70 := by
  have len : ∀ {a : Int}, Sz 60 a → (toString a : Str).length ≤ 62 := fun {a} h => by
    have l1 := PySem.int_text_length_le (a := a) (k := 61) (by decide) (by have := h.log; omega)
    have m1 : (toString a : Str).length = (toString a : String).length := PySem.ofString_length _
    omega
  have := len hs.p
  have := len hs.q
  unfold size
  omega
theorem eqv_fr {x y : Q2} : PyData.eqv (fr x) (fr y) = decide (x = y) := by
  rw [eqv_pair]
  obtain ⟨a, b⟩ := x
  obtain ⟨c, d⟩ := y
  by_cases e : a = c ∧ b = d
  · rw [decide_eq_true e.1, decide_eq_true e.2, decide_eq_true (by rw [e.1, e.2])]
    rfl
  · rw [decide_eq_false (show ¬ (a, b) = (c, d) from fun q => e (by cases q; exact ⟨rfl, rfl⟩)), ← Bool.not_eq_true, Bool.and_eq_true, decide_eq_true_eq, decide_eq_true_eq]
    exact e
theorem lawParts_ok {s : Q2} (hs : Fz 60 s) (hno : s.1 < 1 → K .none) (hyes : 1 ≤ s.1 → ∀ g w : Int, (g = 1 ∨ g = 2 ∨ g = 5) → (w = size s - 1 ∨ w = size s ∨ w = size s + 1) → stepF g w = s → K (fr (g, w)))
    (hnone : 1 ≤ s.1 → (∀ g w : Int, (g = 1 ∨ g = 2 ∨ g = 5) → (w = size s - 1 ∨ w = size s ∨ w = size s + 1) → stepF g w ≠ s) → K .none) : F__law_parts [.dat (fr s)] K E := by
  have hz := size_le hs
  have l1 : s.1.natAbs.log2 < 1920 := by have := hs.p.log; omega
  have l2 : s.2.natAbs.log2 < 1920 := by have := hs.q.log; omega
  unfold F__law_parts specOf G__law_parts N__law_parts
  refine ⟨rfl, _, rfl, ⟨fun z => hno (of_decide_eq_true z), fun z => nx_of ?_⟩⟩
  have z := of_decide_eq_false z
  unfold R__law_parts_2
  refine ⟨_, rfl, l1, _, rfl, l2, ?_⟩
  show R__law_parts_1 E _ [.dat (fr s), .dat (.int (size s)), .un, .un]
  generalize hzs : size s = sz at *
  unfold R__law_parts_1
  simp only [gSeq, gForC_x]
  refine ⟨sl (n := 3) (by decide), Nat.le_of_eq (Nat.mul_zero _), fun i Δ' => ∃ s2 s3 : Sv, Δ' = [.dat (fr s), .dat (.int sz), s2, s3] ∧ ∀ j < i, ∀ w, [sz - 1, sz, sz + 1][j]? = some w → ∀ g : Int, (g = 1 ∨ g = 2 ∨ g = 5) → stepF g w ≠ s, ⟨_, _, rfl, by omega⟩, ?_, ?_⟩
  · rintro i x Δ' hx ⟨s2, s3, rfl, ih⟩
    obtain ⟨w, hw, rfl⟩ : ∃ w, [sz - 1, sz, sz + 1][i]? = some w ∧ x = .int w := by
      match i, hx with
      | 0, hx => exact ⟨_, rfl, by cases hx; rfl⟩
      | 1, hx => exact ⟨_, rfl, by cases hx; rfl⟩
      | 2, hx => exact ⟨_, rfl, by cases hx; rfl⟩
      | n + 3, hx => cases hx
    have hw3 : w = sz - 1 ∨ w = sz ∨ w = sz + 1 := by
      have := List.mem_of_getElem? hw
      simpa using this
    have wn : w.natAbs ≤ 1000 := by omega
    refine ⟨sl (n := 3) (by decide), Nat.le_of_eq (Nat.mul_zero _), fun j Δ' => ∃ s3 : Sv, Δ' = [.dat (fr s), .dat (.int sz), .dat (.int w), s3] ∧ ∀ l < j, ∀ g : Int, [(1 : Int), 2, 5][l]? = some g → stepF g w ≠ s, ⟨_, rfl, by omega⟩, ?_, ?_⟩
    · rintro j x Δ' hx ⟨s3, rfl, jh⟩
      obtain ⟨g, hg, rfl⟩ : ∃ g, [(1 : Int), 2, 5][j]? = some g ∧ x = .int g := by
        match j, hx with
        | 0, hx => exact ⟨_, rfl, by cases hx; rfl⟩
        | 1, hx => exact ⟨_, rfl, by cases hx; rfl⟩
        | 2, hx => exact ⟨_, rfl, by cases hx; rfl⟩
        | n + 3, hx => cases hx
      have hg3 : g = 1 ∨ g = 2 ∨ g = 5 := by
        have := List.mem_of_getElem? hg
        simpa using this
      have gz : Fz 3900 (g, 1) := by
        rcases hg3 with rfl | rfl | rfl <;> exact ⟨show (1 : Int) ≤ 1 by decide, lit (by decide +kernel), lit (by decide +kernel)⟩
      refine ⟨sl (n := 2) (by decide), lawPower_ok wn (times_ok gz ((ten_fz wn).le (by decide)) ⟨rfl, rfl, ?_⟩)⟩
      have ee : PyData.eqv (fr (mulF (g, 1) (ten w))) (fr s) = decide (stepF g w = s) := eqv_fr
      show gIte (PyData.eqv (fr (mulF (g, 1) (ten w))) (fr s)) _ _
      rw [ee]
      refine ⟨fun e => ⟨sl (n := 2) (by decide), hyes (by omega) g w hg3 hw3 (of_decide_eq_true e)⟩, fun e => ⟨_, rfl, fun l hl g' hg' => ?_⟩⟩
      by_cases el : l = j
      · subst el
        rw [hg] at hg'
        cases hg'
        exact of_decide_eq_false e
      · exact jh l (by omega) g' hg'
    · rintro Δ' ⟨s3, rfl, jh⟩
      refine ⟨_, _, rfl, fun j hj w' hw' g hg => ?_⟩
      by_cases el : j = i
      · subst el
        rw [hw] at hw'
        cases hw'
        rcases hg with rfl | rfl | rfl
        · exact jh 0 (show 0 < 3 by decide) _ rfl
        · exact jh 1 (show 1 < 3 by decide) _ rfl
        · exact jh 2 (show 2 < 3 by decide) _ rfl
      · exact ih j (by omega) w' hw' g hg
  · rintro Δ' ⟨s2, s3, rfl, ih⟩
    unfold R__law_parts_0
    refine hnone (by omega) fun g w hg hw => ?_
    rcases hw with rfl | rfl | rfl
    · exact ih 0 (show 0 < 3 by decide) _ rfl g hg
    · exact ih 1 (show 1 < 3 by decide) _ rfl g hg
    · exact ih 2 (show 2 < 3 by decide) _ rfl g hg
end K33
set_option exponentiation.threshold 9000
/-! K33x: which values are ticks. -/
namespace K33
open PySem DL
variable {K : D → Prop} {E : Value → D → Prop}
theorem frac_is {f : D} (h : fracB f = true) : ∃ x : Q2, f = fr x ∧ 1 ≤ x.2 ∧ Nat.gcd x.1.natAbs x.2.natAbs = 1 := by
  unfold fracB at h
  split at h
  · rename_i a b
    rw [Bool.and_eq_true, decide_eq_true_eq, decide_eq_true_eq] at h
    exact ⟨(a, b), rfl, h.1, h.2⟩
  · cases h
def btwB (d : D) (lo hi : Int) : Bool := match d with
  | .int m => decide (lo ≤ m) && decide (m ≤ hi)
  | _ => false
theorem between_ok {d : D} {lo hi : Int} (h : K (.bool (btwB d lo hi))) : F_is_between [.dat d, .dat (.int lo), .dat (.int hi)] K E := by
  unfold F_is_between specOf G_is_between N_is_between
  refine ⟨rfl, isInteger_ok ?_⟩
  cases d with
  | int m =>
    refine ⟨fun _ => ⟨fun z => ?_, fun z => ?_⟩, fun z => (nomatch z)⟩
    · have h : K (.bool (decide (lo ≤ m) && decide (m ≤ hi))) := h
      rw [decide_eq_true (of_decide_eq_true z), Bool.true_and] at h
      exact h
    · have h : K (.bool (decide (lo ≤ m) && decide (m ≤ hi))) := h
      rw [decide_eq_false (of_decide_eq_false z), Bool.false_and] at h
      exact h
  | _ => exact ⟨fun z => (nomatch z), fun _ => h⟩
theorem btick_eq : d_BEYOND_TICKS = .int (10 ^ 2000) := by
  unfold d_BEYOND_TICKS
  have : (10 : Int) ^ 2000 = 10 ^ 2000 := rfl
  congr 1
theorem written_ok {d : D} (t : ∀ x : Q2, d = fr x → Sz 60 x.1 ∧ Sz 60 x.2) (h : K (.bool (fracB d))) : F_are_written [.dat d] K E := by
  unfold F_are_written specOf G_are_written N_are_written
  refine ⟨rfl, ?_⟩
  cases d with
  | tuple xs =>
    simp only [gSeq, gSet, gVar, gVarB, gC, gBin, gChain, gTB, gIf, gIfS, gRet, gCall, gCallF, gCo, gN, gTup, gLst, gL, gNotT, gNotV, gAndT, gOrT, gAndV, gOrV, gIsi, gSl, gPart, gNo, gM0, gM1, gFn, gAn, gAd, gAp, gAs, gAsg, gTo, gToT, gToC, gTo0, gNext, gNeg, gPs0, gTick, gPix, gLenS, gIxS, gSumS, gLRg, gPar, gDic0, gDic1, gYes, gSeqI, gRg1, gRg2, gRetN, gSetF, gApp, gExt, gDrop, gFrz, gLcC_x, gForC_x, gRev, revD, gPar3F, gOff, gOffS, gBreak, gCont, clr, startD, nth, List.set, true_or, or_true, true_and, and_true, R__law_pot_0, R__law_pot_1, R__law_pot_2, R__law_common_0, R__law_common_1, R__law_reduced_0, R__law_power_0, R__law_power_1, R__law_parts_0, R__law_parts_1, R__law_parts_2, R__law_cost_0, R__law_cost_1, R__law_cost_2, R__law_cost_3, R__law_cost_4, R__law_cost_5, R_is_fraction_0, R_are_written_0, R_without_tens_0, R_without_tens_1, R_parts_of_step_0, R_parts_of_step_1, R_parts_of_step_2, R_parts_of_step_3, R_parts_of_step_4, R_reduced_0, R_is_ticks_0, R_is_ticks_1, R_is_ticks_2, R_check_ends_0, R_are_wishes_0, R_steps_in_vain_0, R_values_of_0, R_whole_cost_0, R_ticks_cost_0, R_ticks_cost_1, R_ticks_cost_2, R__law_take_0, R__law_take_1, R__law_take_2, R__law_take_3, R__law_take_4, R__law_take_5, R__law_take_6, R__law_odd_0, R__law_odd_1, R__law_odd_2, R__law_odd_3, R__law_odd_4, R__law_odd_5, R__law_odd_6, R__law_odd_7, R__law_odd_8, R__law_is_fraction_0, R__law_are_ticks_0, R__law_are_ticks_1, R__law_heard_0, R__law_are_refused_0, R__law_are_refused_1, R__law_are_refused_2, R__law_are_refused_3, R__law_are_refused_4, R__law_are_refused_5, R__law_are_refused_6, R__law_are_refused_7, R__law_are_refused_8, R__law_are_refused_9, R__law_are_refused_10, R__law_are_refused_11, R__law_are_refused_12, R__law_are_refused_13, R__law_ticks_0, R__law_wishes_0, addD_ii, addD_ss, addD_ll, addD_tt, subD_ii, mulD_ii, mulD_si, mulD_li, fdivD_ii, modD_ii, powD_ii, eqD_ii, eqD_ss, eqD_bb, neD_ii, neD_ss, neD_bb, ltD_ii, ltD_ss, leD_ii, gtD_ii, geD_ii, isD_n, isD_bb, isnotD_n, isnotD_bb, inD_ss, inD_l, inD_t, notinD_ss, notinD_l, notinD_t, ixD_l, ixD_t, ixD_s, slD_t, slD_s, slD_l, lenD_s, lenD_l, lenD_t, tupD_l, tupD_t, listD_l, listD_t, allD_l, anyD_l, sumD_l, maxD_ii, minD_ii, maxD_l, minD_l, absD_i, gcdD_ii, intD_i, intD_b, intD_s, strD_i, strD_s, reprD_1, joinD_l, splitD_s, PB_0, PB_1, PB_2, gIte_t, gIte_f, gIte_d, gIte_n, eqD_xt, eqD_tx, neD_xt, neD_tx, eqD_tt, neD_tt, isTupD, Bool.not_true, List.append_nil]
    refine ⟨fun hl => ?_, fun hl => ?_⟩
    · match xs, hl, h, t with
      | [x, y], _, h, t =>
        refine lc_to intP rfl (Nat.le_refl _) (fun d hd P hP => isInteger_ok hP) ⟨_, ints_map _, ?_⟩
        have e : ([x, y].map intB).all id = (intB x && intB y) := by simp
        rw [e]
        refine ⟨fun z => ?_, fun z => ?_⟩
        · rw [Bool.and_eq_true] at z
          obtain ⟨i, rfl⟩ := intB_int z.1
          obtain ⟨j, rfl⟩ := intB_int z.2
          obtain ⟨si, sj⟩ := t (i, j) rfl
          have lim : ∀ {a : Int}, Sz 60 a → (if a < 0 then -a else a) < 10 ^ 2000 := fun {a} s => by
            have e1 : (2 : Int) ^ 60 < 10 ^ 2000 := by decide +kernel
            have e2 : ((2 ^ 60 : Nat) : Int) = (2 : Int) ^ 60 := by simp
            unfold Sz at s
            generalize (10 : Int) ^ 2000 = z at *
            split <;> omega
          rw [btick_eq]
          refine lc_to (fun _ => .bool true) rfl (Nat.le_refl _) (fun d hd P hP => ?_) ⟨[true, true], rfl, fun _ => isFraction_ok h, fun z => (nomatch z)⟩
          simp only [List.mem_cons, List.not_mem_nil, or_false] at hd
          rcases hd with rfl | rfl
          · show P (.bool (decide ((if i < 0 then -i else i) < 10 ^ 2000)))
            rw [decide_eq_true (lim si)]
            exact hP
          · show P (.bool (decide ((if j < 0 then -j else j) < 10 ^ 2000)))
            rw [decide_eq_true (lim sj)]
            exact hP
        · rwa [frac_ints z] at h
    · rwa [frac_len hl] at h
  | _ =>
    simp only [gSeq, gSet, gVar, gVarB, gC, gBin, gChain, gTB, gIf, gIfS, gRet, gCall, gCallF, gCo, gN, gTup, gLst, gL, gNotT, gNotV, gAndT, gOrT, gAndV, gOrV, gIsi, gSl, gPart, gNo, gM0, gM1, gFn, gAn, gAd, gAp, gAs, gAsg, gTo, gToT, gToC, gTo0, gNext, gNeg, gPs0, gTick, gPix, gLenS, gIxS, gSumS, gLRg, gPar, gDic0, gDic1, gYes, gSeqI, gRg1, gRg2, gRetN, gSetF, gApp, gExt, gDrop, gFrz, gLcC_x, gForC_x, gRev, revD, gPar3F, gOff, gOffS, gBreak, gCont, clr, startD, nth, List.set, true_or, or_true, true_and, and_true, R__law_pot_0, R__law_pot_1, R__law_pot_2, R__law_common_0, R__law_common_1, R__law_reduced_0, R__law_power_0, R__law_power_1, R__law_parts_0, R__law_parts_1, R__law_parts_2, R__law_cost_0, R__law_cost_1, R__law_cost_2, R__law_cost_3, R__law_cost_4, R__law_cost_5, R_is_fraction_0, R_are_written_0, R_without_tens_0, R_without_tens_1, R_parts_of_step_0, R_parts_of_step_1, R_parts_of_step_2, R_parts_of_step_3, R_parts_of_step_4, R_reduced_0, R_is_ticks_0, R_is_ticks_1, R_is_ticks_2, R_check_ends_0, R_are_wishes_0, R_steps_in_vain_0, R_values_of_0, R_whole_cost_0, R_ticks_cost_0, R_ticks_cost_1, R_ticks_cost_2, R__law_take_0, R__law_take_1, R__law_take_2, R__law_take_3, R__law_take_4, R__law_take_5, R__law_take_6, R__law_odd_0, R__law_odd_1, R__law_odd_2, R__law_odd_3, R__law_odd_4, R__law_odd_5, R__law_odd_6, R__law_odd_7, R__law_odd_8, R__law_is_fraction_0, R__law_are_ticks_0, R__law_are_ticks_1, R__law_heard_0, R__law_are_refused_0, R__law_are_refused_1, R__law_are_refused_2, R__law_are_refused_3, R__law_are_refused_4, R__law_are_refused_5, R__law_are_refused_6, R__law_are_refused_7, R__law_are_refused_8, R__law_are_refused_9, R__law_are_refused_10, R__law_are_refused_11, R__law_are_refused_12, R__law_are_refused_13, R__law_ticks_0, R__law_wishes_0, addD_ii, addD_ss, addD_ll, addD_tt, subD_ii, mulD_ii, mulD_si, mulD_li, fdivD_ii, modD_ii, powD_ii, eqD_ii, eqD_ss, eqD_bb, neD_ii, neD_ss, neD_bb, ltD_ii, ltD_ss, leD_ii, gtD_ii, geD_ii, isD_n, isD_bb, isnotD_n, isnotD_bb, inD_ss, inD_l, inD_t, notinD_ss, notinD_l, notinD_t, ixD_l, ixD_t, ixD_s, slD_t, slD_s, slD_l, lenD_s, lenD_l, lenD_t, tupD_l, tupD_t, listD_l, listD_t, allD_l, anyD_l, sumD_l, maxD_ii, minD_ii, maxD_l, minD_l, absD_i, gcdD_ii, intD_i, intD_b, intD_s, strD_i, strD_s, reprD_1, joinD_l, splitD_s, PB_0, PB_1, PB_2, gIte_t, gIte_f, gIte_d, gIte_n, eqD_xt, eqD_tx, neD_xt, neD_tx, eqD_tt, neD_tt, isTupD, Bool.not_false]
    exact h
/-- the law's own look at fractions -/
theorem lawInt_ok {d : D} (h : K (.bool (intB d))) : F__law_is_int [.dat d] K E := by
  unfold F__law_is_int specOf G__law_is_int N__law_is_int
  refine ⟨rfl, ?_⟩
  cases d with
  | int i => exact ⟨fun _ => h, fun z => (nomatch z)⟩
  | bool b => exact ⟨fun _ => h, fun z => (nomatch z)⟩
  | _ => exact ⟨fun z => (nomatch z), fun _ => h⟩
theorem lawFraction_ok {d : D} (h : K (.bool (fracB d))) : F__law_is_fraction [.dat d] K E := by
  unfold F__law_is_fraction specOf G__law_is_fraction N__law_is_fraction
  refine ⟨rfl, ?_⟩
  cases d with
  | tuple xs =>
    simp only [gSeq, gSet, gVar, gVarB, gC, gBin, gChain, gTB, gIf, gIfS, gRet, gCall, gCallF, gCo, gN, gTup, gLst, gL, gNotT, gNotV, gAndT, gOrT, gAndV, gOrV, gIsi, gSl, gPart, gNo, gM0, gM1, gFn, gAn, gAd, gAp, gAs, gAsg, gTo, gToT, gToC, gTo0, gNext, gNeg, gPs0, gTick, gPix, gLenS, gIxS, gSumS, gLRg, gPar, gDic0, gDic1, gYes, gSeqI, gRg1, gRg2, gRetN, gSetF, gApp, gExt, gDrop, gFrz, gLcC_x, gForC_x, gRev, revD, gPar3F, gOff, gOffS, gBreak, gCont, clr, startD, nth, List.set, true_or, or_true, true_and, and_true, R__law_pot_0, R__law_pot_1, R__law_pot_2, R__law_common_0, R__law_common_1, R__law_reduced_0, R__law_power_0, R__law_power_1, R__law_parts_0, R__law_parts_1, R__law_parts_2, R__law_cost_0, R__law_cost_1, R__law_cost_2, R__law_cost_3, R__law_cost_4, R__law_cost_5, R_is_fraction_0, R_are_written_0, R_without_tens_0, R_without_tens_1, R_parts_of_step_0, R_parts_of_step_1, R_parts_of_step_2, R_parts_of_step_3, R_parts_of_step_4, R_reduced_0, R_is_ticks_0, R_is_ticks_1, R_is_ticks_2, R_check_ends_0, R_are_wishes_0, R_steps_in_vain_0, R_values_of_0, R_whole_cost_0, R_ticks_cost_0, R_ticks_cost_1, R_ticks_cost_2, R__law_take_0, R__law_take_1, R__law_take_2, R__law_take_3, R__law_take_4, R__law_take_5, R__law_take_6, R__law_odd_0, R__law_odd_1, R__law_odd_2, R__law_odd_3, R__law_odd_4, R__law_odd_5, R__law_odd_6, R__law_odd_7, R__law_odd_8, R__law_is_fraction_0, R__law_are_ticks_0, R__law_are_ticks_1, R__law_heard_0, R__law_are_refused_0, R__law_are_refused_1, R__law_are_refused_2, R__law_are_refused_3, R__law_are_refused_4, R__law_are_refused_5, R__law_are_refused_6, R__law_are_refused_7, R__law_are_refused_8, R__law_are_refused_9, R__law_are_refused_10, R__law_are_refused_11, R__law_are_refused_12, R__law_are_refused_13, R__law_ticks_0, R__law_wishes_0, addD_ii, addD_ss, addD_ll, addD_tt, subD_ii, mulD_ii, mulD_si, mulD_li, fdivD_ii, modD_ii, powD_ii, eqD_ii, eqD_ss, eqD_bb, neD_ii, neD_ss, neD_bb, ltD_ii, ltD_ss, leD_ii, gtD_ii, geD_ii, isD_n, isD_bb, isnotD_n, isnotD_bb, inD_ss, inD_l, inD_t, notinD_ss, notinD_l, notinD_t, ixD_l, ixD_t, ixD_s, slD_t, slD_s, slD_l, lenD_s, lenD_l, lenD_t, tupD_l, tupD_t, listD_l, listD_t, allD_l, anyD_l, sumD_l, maxD_ii, minD_ii, maxD_l, minD_l, absD_i, gcdD_ii, intD_i, intD_b, intD_s, strD_i, strD_s, reprD_1, joinD_l, splitD_s, PB_0, PB_1, PB_2, gIte_t, gIte_f, gIte_d, gIte_n, eqD_xt, eqD_tx, neD_xt, neD_tx, eqD_tt, neD_tt, isTupD, Bool.not_true, List.append_nil]
    refine ⟨fun hl => ?_, fun hl => ?_⟩
    · match xs, hl, h with
      | [x, y], _, h =>
        refine lc_to intP rfl (Nat.le_refl _) (fun d hd P hP => lawInt_ok hP) ⟨_, ints_map _, ?_⟩
        have e : ([x, y].map intB).all id = (intB x && intB y) := by simp
        rw [e]
        refine ⟨fun z => ?_, fun z => ?_⟩
        · rw [Bool.and_eq_true] at z
          obtain ⟨i, rfl⟩ := intB_int z.1
          obtain ⟨j, rfl⟩ := intB_int z.2
          refine ⟨_, rfl, ?_⟩
          have h' : K (.bool (decide (1 ≤ j) && decide (Nat.gcd i.natAbs j.natAbs = 1))) := h
          refine ⟨fun w => ⟨_, rfl, _, rfl, lcommon_ok ?_⟩, fun w => ?_⟩
          · simp only [eqD_ii]
            have w : 0 < j := of_decide_eq_true w
            rw [decide_eq_true (show 1 ≤ j by omega), Bool.true_and] at h'
            have e2 : decide (((Nat.gcd i.natAbs j.natAbs : Nat) : Int) = 1) = decide (Nat.gcd i.natAbs j.natAbs = 1) := by
              by_cases q : Nat.gcd i.natAbs j.natAbs = 1
              · rw [decide_eq_true q, decide_eq_true (by omega)]
              · rw [decide_eq_false q, decide_eq_false (by omega)]
            rw [e2]
            exact h'
          · have w : ¬ 0 < j := of_decide_eq_false w
            rwa [decide_eq_false (show ¬ 1 ≤ j by omega), Bool.false_and] at h'
        · rwa [frac_ints z] at h
    · rwa [frac_len hl] at h
  | _ =>
    simp only [gSeq, gSet, gVar, gVarB, gC, gBin, gChain, gTB, gIf, gIfS, gRet, gCall, gCallF, gCo, gN, gTup, gLst, gL, gNotT, gNotV, gAndT, gOrT, gAndV, gOrV, gIsi, gSl, gPart, gNo, gM0, gM1, gFn, gAn, gAd, gAp, gAs, gAsg, gTo, gToT, gToC, gTo0, gNext, gNeg, gPs0, gTick, gPix, gLenS, gIxS, gSumS, gLRg, gPar, gDic0, gDic1, gYes, gSeqI, gRg1, gRg2, gRetN, gSetF, gApp, gExt, gDrop, gFrz, gLcC_x, gForC_x, gRev, revD, gPar3F, gOff, gOffS, gBreak, gCont, clr, startD, nth, List.set, true_or, or_true, true_and, and_true, R__law_pot_0, R__law_pot_1, R__law_pot_2, R__law_common_0, R__law_common_1, R__law_reduced_0, R__law_power_0, R__law_power_1, R__law_parts_0, R__law_parts_1, R__law_parts_2, R__law_cost_0, R__law_cost_1, R__law_cost_2, R__law_cost_3, R__law_cost_4, R__law_cost_5, R_is_fraction_0, R_are_written_0, R_without_tens_0, R_without_tens_1, R_parts_of_step_0, R_parts_of_step_1, R_parts_of_step_2, R_parts_of_step_3, R_parts_of_step_4, R_reduced_0, R_is_ticks_0, R_is_ticks_1, R_is_ticks_2, R_check_ends_0, R_are_wishes_0, R_steps_in_vain_0, R_values_of_0, R_whole_cost_0, R_ticks_cost_0, R_ticks_cost_1, R_ticks_cost_2, R__law_take_0, R__law_take_1, R__law_take_2, R__law_take_3, R__law_take_4, R__law_take_5, R__law_take_6, R__law_odd_0, R__law_odd_1, R__law_odd_2, R__law_odd_3, R__law_odd_4, R__law_odd_5, R__law_odd_6, R__law_odd_7, R__law_odd_8, R__law_is_fraction_0, R__law_are_ticks_0, R__law_are_ticks_1, R__law_heard_0, R__law_are_refused_0, R__law_are_refused_1, R__law_are_refused_2, R__law_are_refused_3, R__law_are_refused_4, R__law_are_refused_5, R__law_are_refused_6, R__law_are_refused_7, R__law_are_refused_8, R__law_are_refused_9, R__law_are_refused_10, R__law_are_refused_11, R__law_are_refused_12, R__law_are_refused_13, R__law_ticks_0, R__law_wishes_0, addD_ii, addD_ss, addD_ll, addD_tt, subD_ii, mulD_ii, mulD_si, mulD_li, fdivD_ii, modD_ii, powD_ii, eqD_ii, eqD_ss, eqD_bb, neD_ii, neD_ss, neD_bb, ltD_ii, ltD_ss, leD_ii, gtD_ii, geD_ii, isD_n, isD_bb, isnotD_n, isnotD_bb, inD_ss, inD_l, inD_t, notinD_ss, notinD_l, notinD_t, ixD_l, ixD_t, ixD_s, slD_t, slD_s, slD_l, lenD_s, lenD_l, lenD_t, tupD_l, tupD_t, listD_l, listD_t, allD_l, anyD_l, sumD_l, maxD_ii, minD_ii, maxD_l, minD_l, absD_i, gcdD_ii, intD_i, intD_b, intD_s, strD_i, strD_s, reprD_1, joinD_l, splitD_s, PB_0, PB_1, PB_2, gIte_t, gIte_f, gIte_d, gIte_n, eqD_xt, eqD_tx, neD_xt, neD_tx, eqD_tt, neD_tt, isTupD, Bool.not_false]
    exact h
/-! ### ticks -/
/-- what keeps two fractions from being first and step -/
def Bad (x y : Q2) : Prop := y.1 < 1 ∨ (parts 40 y = none ∧ ∀ g w : Int, (g = 1 ∨ g = 2 ∨ g = 5) → (w = size y - 1 ∨ w = size y ∨ w = size y + 1) → stepF g w ≠ y) ∨ (divF x y).2 ≠ 1
inductive NoT : D → Prop
  | kind {d : D} : isTupD d = false → NoT d
  | len {xs : List D} : ¬ (xs.length : Int) = 3 → NoT (.tuple xs)
  | many {f s m : D} : btwB m 2 12 = false → NoT (.tuple [f, s, m])
  | parts {f s : D} {m : Int} : 2 ≤ m → m ≤ 12 → (∀ x : Q2, f = fr x → Sz 60 x.1 ∧ Sz 60 x.2) → (∀ y : Q2, s = fr y → Sz 60 y.1 ∧ Sz 60 y.2) → (∀ x y : Q2, f = fr x → s = fr y → fracB f = true → fracB s = true → Bad x y) → NoT (.tuple [f, s, .int m])
theorem ten40 {a : Int} (h : Sz 60 a) : a < 10 ^ 40 := by
  have e1 : (2 : Int) ^ 60 < 10 ^ 40 := by decide +kernel
  have e2 : ((2 ^ 60 : Nat) : Int) = (2 : Int) ^ 60 := by simp
  unfold Sz at h
  generalize (10 : Int) ^ 40 = z at *
  omega
theorem isTicks_no {d : D} (t : NoT d) (h : K (.bool false)) : F_is_ticks [.dat d] K E := by
  unfold F_is_ticks specOf G_is_ticks N_is_ticks
  refine ⟨rfl, ?_⟩
  cases t with
  | kind e =>
    show gIte (!isTupD d) _ _
    rw [e]
    exact ⟨fun _ => ⟨fun _ => h, fun z => (nomatch z)⟩, fun z => (nomatch z)⟩
  | len e =>
    rename_i xs
    refine ⟨fun z => (nomatch z), fun _ => ?_⟩
    show gIte (!decide ((xs.length : Int) = 3)) _ _
    rw [decide_eq_false e]
    exact ⟨fun _ => ⟨fun _ => h, fun z => (nomatch z)⟩, fun z => (nomatch z)⟩
  | many e =>
    refine ⟨fun z => (nomatch z), fun _ => ⟨fun z => (nomatch z), fun _ => ⟨_, rfl, between_ok ?_⟩⟩⟩
    rw [e]
    exact ⟨fun _ => h, fun z => (nomatch z)⟩
  | parts m0 m1 hf hs bad =>
    rename_i f s m
    have eb : btwB (.int m) 2 12 = true := by
      show (decide (2 ≤ m) && decide (m ≤ 12)) = true
      rw [decide_eq_true m0, decide_eq_true m1]
      rfl
    refine ⟨fun z => (nomatch z), fun _ => ⟨fun z => (nomatch z), fun _ => ⟨_, rfl, between_ok ?_⟩⟩⟩
    rw [eb]
    refine ⟨fun z => (nomatch z), fun _ => nx_of ?_⟩
    unfold R_is_ticks_2
    refine ⟨_, rfl, _, rfl, ?_⟩
    show R_is_ticks_1 E _ [.dat (.tuple [f, s, .int m]), .dat f, .dat s]
    unfold R_is_ticks_1
    refine written_ok hf ?_
    cases ef : fracB f with
    | false => exact ⟨fun _ => ⟨fun _ => h, fun z => (nomatch z)⟩, fun z => (nomatch z)⟩
    | true =>
      refine ⟨fun z => (nomatch z), fun _ => written_ok hs ?_⟩
      cases es : fracB s with
      | false => exact ⟨fun _ => ⟨fun _ => h, fun z => (nomatch z)⟩, fun z => (nomatch z)⟩
      | true =>
        obtain ⟨x, rfl, x1, gx⟩ := frac_is ef
        obtain ⟨y, rfl, y1, gy⟩ := frac_is es
        obtain ⟨sx1, sx2⟩ := hf x rfl
        obtain ⟨sy1, sy2⟩ := hs y rfl
        refine ⟨fun z => (nomatch z), fun _ => parts_ok (f := 40) y1 (ten40 sy1) (ten40 sy2) ?_⟩
        cases ep : parts 40 y with
        | none => exact ⟨fun _ => h, fun z => (nomatch z)⟩
        | some z =>
          refine ⟨fun z => (nomatch z), fun _ => nx_of ?_⟩
          rcases bad x y rfl rfl ef es with b | ⟨b, _⟩ | b
          · unfold parts at ep
            rw [if_pos b] at ep
            cases ep
          · rw [ep] at b
            cases b
          · unfold R_is_ticks_0
            have p1 : 1 ≤ y.1 := by
              by_cases w : y.1 < 1
              · unfold parts at ep
                rw [if_pos w] at ep
                cases ep
              · omega
            refine quotient_ok ⟨x1, sx1.le (by decide), sx2.le (by decide)⟩ ⟨y1, sy1.le (by decide), sy2.le (by decide)⟩ p1 ⟨_, rfl, ?_⟩
            show K (.bool (decide ((divF x y).2 = 1)))
            rw [decide_eq_false b]
            exact h
theorem lawTicks_no {d : D} (t : NoT d) (h : K (.bool false)) : F__law_are_ticks [.dat d] K E := by
  unfold F__law_are_ticks specOf G__law_are_ticks N__law_are_ticks
  refine ⟨rfl, ?_⟩
  cases t with
  | kind e =>
    show gIte (!isTupD d) _ _
    rw [e]
    exact ⟨fun _ => ⟨fun _ => h, fun z => (nomatch z)⟩, fun z => (nomatch z)⟩
  | len e =>
    rename_i xs
    refine ⟨fun z => (nomatch z), fun _ => ?_⟩
    show gIte (!decide ((xs.length : Int) = 3)) _ _
    rw [decide_eq_false e]
    exact ⟨fun _ => ⟨fun _ => h, fun z => (nomatch z)⟩, fun z => (nomatch z)⟩
  | many e =>
    rename_i f s m
    refine ⟨fun z => (nomatch z), fun _ => ⟨fun z => (nomatch z), fun _ => ⟨_, rfl, lawInt_ok ?_⟩⟩⟩
    cases m with
    | int m =>
      refine ⟨fun z => (nomatch z), fun _ => ?_⟩
      have e : (decide (2 ≤ m) && decide (m ≤ 12)) = false := e
      refine ⟨_, rfl, fun z => ?_, fun z => ⟨fun _ => h, fun z => (nomatch z)⟩⟩
      rw [decide_eq_true (of_decide_eq_true z), Bool.true_and] at e
      show gIte (!decide (m ≤ 12)) _ _
      rw [e]
      exact ⟨fun _ => h, fun z => (nomatch z)⟩
    | _ => exact ⟨fun _ => ⟨fun _ => h, fun z => (nomatch z)⟩, fun z => (nomatch z)⟩
  | parts m0 m1 hf hs bad =>
    rename_i f s m
    refine ⟨fun z => (nomatch z), fun _ => ⟨fun z => (nomatch z), fun _ => ⟨_, rfl, lawInt_ok ⟨fun z => (nomatch z), fun _ => ?_⟩⟩⟩⟩
    refine ⟨_, rfl, fun _ => ?_, fun z => absurd m0 (of_decide_eq_false z)⟩
    show gIte (!decide (m ≤ 12)) _ _
    rw [decide_eq_true m1]
    refine ⟨fun z => (nomatch z), fun _ => nx_of ?_⟩
    unfold R__law_are_ticks_1
    refine ⟨_, rfl, lawFraction_ok ?_⟩
    cases ef : fracB f with
    | false => exact ⟨fun _ => ⟨fun _ => h, fun z => (nomatch z)⟩, fun z => (nomatch z)⟩
    | true =>
      refine ⟨fun z => (nomatch z), fun _ => ⟨_, rfl, lawFraction_ok ?_⟩⟩
      cases es : fracB s with
      | false => exact ⟨fun _ => ⟨fun _ => h, fun z => (nomatch z)⟩, fun z => (nomatch z)⟩
      | true =>
        obtain ⟨x, rfl, x1, gx⟩ := frac_is ef
        obtain ⟨y, rfl, y1, gy⟩ := frac_is es
        obtain ⟨sx1, sx2⟩ := hf x rfl
        obtain ⟨sy1, sy2⟩ := hs y rfl
        have go := bad x y rfl rfl ef es
        refine ⟨fun z => (nomatch z), fun _ => ⟨_, rfl, lawParts_ok ⟨y1, sy1, sy2⟩ (fun _ => ⟨fun _ => h, fun z => (nomatch z)⟩) (fun p1 g w hg hw e => ?_) fun _ _ => ⟨fun _ => h, fun z => (nomatch z)⟩⟩⟩
        refine ⟨fun z => (nomatch z), fun _ => nx_of ?_⟩
        rcases go with b | ⟨_, b⟩ | b
        · omega
        · exact absurd e (b g w hg hw)
        · unfold R__law_are_ticks_0
          have z1 : Fz 3900 x := ⟨x1, sx1.le (by decide), sx2.le (by decide)⟩
          have z2 : Fz 3900 (y.2, y.1) := ⟨p1, sy2.le (by decide), sy1.le (by decide)⟩
          refine ⟨_, rfl, _, rfl, _, rfl, _, rfl, _, rfl, sl (n := 2) (by decide), times_ok z1 z2 ⟨_, rfl, ?_⟩⟩
          show K (.bool (decide ((divF x y).2 = 1)))
          rw [decide_eq_false b]
          exact h
end K33
set_option exponentiation.threshold 9000
/-! K33y: drawn ticks; what is told of them. -/
namespace K33
open PySem DL
variable {K : D → Prop} {E : Value → D → Prop}
def stepsL : List Q2 := [(1, -3), (1, -2), (1, -1), (1, 0), (1, 1), (1, 2), (1, 3), (2, -3), (2, -2), (2, -1), (2, 0), (2, 1), (2, 2), (2, 3), (5, -3), (5, -2), (5, -1), (5, 0), (5, 1), (5, 2), (5, 3)]
def ksL : List Int := (List.range 41).map fun (i : Nat) => (i : Int) - 20
def nearL (s : Q2) : List Int := [size s - 1, size s, size s + 1]
def digsL : List Int := [1, 2, 5]
abbrev st (z : Q2) : Q2 := stepF z.1 z.2
abbrev ft (z : Q2) (k : Int) : Q2 := mulF (k, 1) (st z)
abbrev hf (z : Q2) (k : Int) : Q2 := addF (ft z k) (mulF (st z) (1, 2))
abbrev tr (z : Q2) : Q2 := mulF (st z) (3, 1)
theorem stepsA : ∀ z ∈ stepsL, 1 ≤ (st z).1 ∧ 1 ≤ (st z).2 ∧ (st z).1 < 100000 ∧ (st z).2 < 100000 ∧ Nat.gcd (st z).1.natAbs (st z).2.natAbs = 1 ∧ parts 40 (st z) = some z ∧ z.2 ∈ nearL (st z) ∧ z.1 ∈ digsL ∧ z.2.natAbs ≤ 3 := by decide +kernel
theorem stepsB : ∀ z ∈ stepsL, ∀ w ∈ nearL (st z), ∀ g ∈ digsL, stepF g w = st z → (g, w) = z := by decide +kernel
theorem stepsC : ∀ z ∈ stepsL, 1 ≤ (tr z).1 ∧ 1 ≤ (tr z).2 ∧ (tr z).1 < 1000000 ∧ (tr z).2 < 1000000 ∧ parts 40 (tr z) = none := by decide +kernel
theorem stepsD : ∀ z ∈ stepsL, ∀ w ∈ nearL (tr z), ∀ g ∈ digsL, stepF g w ≠ tr z := by decide +kernel
theorem firstsA : ∀ z ∈ stepsL, ∀ k ∈ ksL, 1 ≤ (ft z k).2 ∧ (ft z k).1.natAbs < 10000000 ∧ (ft z k).2 < 10000000 ∧ Nat.gcd (ft z k).1.natAbs (ft z k).2.natAbs = 1 ∧ (divF (ft z k) (st z)).2 = 1 ∧ addF (ft z k) (mulF (0, 1) (st z)) = ft z k := by decide +kernel
theorem firstsB : ∀ z ∈ stepsL, ∀ k ∈ ksL, 1 ≤ (hf z k).2 ∧ (hf z k).1.natAbs < 10000000 ∧ (hf z k).2 < 10000000 ∧ (divF (hf z k) (st z)).2 ≠ 1 ∧ Nat.gcd (2 * (ft z k).1).natAbs (2 * (ft z k).2).natAbs ≠ 1 := by decide +kernel
structure Dr (z : Q2) (k m : Int) : Prop where
  z : z ∈ stepsL
  k : k ∈ ksL
  m0 : 2 ≤ m
  m1 : m ≤ 12
abbrev tkD (z : Q2) (k m : Int) : D := .tuple [fr (ft z k), fr (st z), .int m]
section
variable {z : Q2} {k m : Int} {c : Q2}
theorem natSz {a : Int} {n b : Nat} (h : a.natAbs < n) (l : n ≤ 2 ^ b) : Sz b a := Nat.lt_of_lt_of_le h l
theorem Dr.sz (d : Dr z k m) : Fz 20 (st z) := by
  obtain ⟨h1, h2, h3, h4, _⟩ := stepsA z d.z
  exact ⟨h2, natSz (n := 100000) (by omega) (by decide), natSz (n := 100000) (by omega) (by decide)⟩
theorem Dr.fz (d : Dr z k m) : Fz 24 (ft z k) := by
  obtain ⟨h1, h2, h3, _⟩ := firstsA z d.z k d.k
  exact ⟨h1, natSz h2 (by decide), natSz (n := 10000000) (by omega) (by decide)⟩
theorem Dr.hz (d : Dr z k m) : Fz 24 (hf z k) := by
  obtain ⟨h1, h2, h3, _⟩ := firstsB z d.z k d.k
  exact ⟨h1, natSz h2 (by decide), natSz (n := 10000000) (by omega) (by decide)⟩
theorem frac_yes {x : Q2} (h1 : 1 ≤ x.2) (g : Nat.gcd x.1.natAbs x.2.natAbs = 1) : fracB (fr x) = true := by
  show (decide (1 ≤ x.2) && decide (Nat.gcd x.1.natAbs x.2.natAbs = 1)) = true
  rw [decide_eq_true h1, decide_eq_true g]
  rfl
theorem fz_60 {x y : Q2} {n : Nat} (h : Fz n x) (l : n ≤ 60) (e : fr x = fr y) : Sz 60 y.1 ∧ Sz 60 y.2 := by
  cases x
  cases y
  cases e
  exact ⟨h.p.le l, h.q.le l⟩
theorem isTicks_yes (d : Dr z k m) (h : K (.bool true)) : F_is_ticks [.dat (tkD z k m)] K E := by
  obtain ⟨a1, a2, a3, a4, a5, a6, _⟩ := stepsA z d.z
  obtain ⟨b1, b2, b3, b4, b5, b6⟩ := firstsA z d.z k d.k
  have sz := d.sz
  have fz := d.fz
  unfold F_is_ticks specOf G_is_ticks N_is_ticks
  have eb : btwB (.int m) 2 12 = true := by
    show (decide (2 ≤ m) && decide (m ≤ 12)) = true
    rw [decide_eq_true d.m0, decide_eq_true d.m1]
    rfl
  refine ⟨rfl, fun z => (nomatch z), fun _ => ⟨fun z => (nomatch z), fun _ => ⟨_, rfl, between_ok ?_⟩⟩⟩
  rw [eb]
  refine ⟨fun z => (nomatch z), fun _ => nx_of ?_⟩
  unfold R_is_ticks_2
  refine ⟨_, rfl, _, rfl, ?_⟩
  show R_is_ticks_1 E _ [.dat (tkD z k m), .dat (fr (ft z k)), .dat (fr (st z))]
  unfold R_is_ticks_1
  refine written_ok (fun x e => fz_60 fz (by decide) e) ?_
  rw [frac_yes b1 b4]
  refine ⟨fun z => (nomatch z), fun _ => written_ok (fun x e => fz_60 sz (by decide) e) ?_⟩
  rw [frac_yes a2 a5]
  refine ⟨fun z => (nomatch z), fun _ => parts_ok (f := 40) a2 (ten40 (sz.p.le (by decide))) (ten40 (sz.q.le (by decide))) ?_⟩
  rw [a6]
  refine ⟨fun z => (nomatch z), fun _ => nx_of ?_⟩
  unfold R_is_ticks_0
  refine quotient_ok (fz.le (by decide)) (sz.le (by decide)) a1 ⟨_, rfl, ?_⟩
  show K (.bool (decide ((divF (ft z k) (st z)).2 = 1)))
  rw [decide_eq_true b5]
  exact h
theorem checkTicks_ok (d : Dr z k m) (h : K .none) : F_check_ticks [.dat (tkD z k m)] K E := by
  unfold F_check_ticks specOf G_check_ticks N_check_ticks
  exact ⟨rfl, isTicks_yes d ⟨fun z => (nomatch z), fun _ => h⟩⟩
theorem checkTicks_no {d : D} (t : NoT d) (h : E (.ref C_BadTicks) d) : F_check_ticks [.dat d] K E := by
  unfold F_check_ticks specOf G_check_ticks N_check_ticks
  exact ⟨rfl, isTicks_no t ⟨fun _ => h, fun z => (nomatch z)⟩⟩
/-! ### the numbers of ticks -/
def valF (z : Q2) (k i : Int) : Q2 := addF (ft z k) (mulF (i, 1) (st z))
def vals (z : Q2) (k m : Int) : List D := (rangeD 0 m).map fun i => match i with
  | .int i => fr (valF z k i)
  | _ => .none
theorem int_fz {i : Int} {n : Nat} (h : Sz n i) (n1 : 1 ≤ n) : Fz n (i, 1) := ⟨show (1 : Int) ≤ 1 by decide, h, (lit (b := 1) (i := 1)).le n1⟩
theorem Dr.vz (d : Dr z k m) {i : Int} (i0 : 0 ≤ i) (i1 : i < 12) : Fz 50 (valF z k i) := by
  have iz : Fz 4 (i, 1) := int_fz (Sz.of_range i0 (by omega)) (by decide)
  exact (add_fz d.fz (mul_fz iz d.sz)).le (by decide)
theorem mem_range {d : D} {m : Int} (h : d ∈ rangeD 0 m) : ∃ i : Int, d = .int i ∧ 0 ≤ i ∧ i < m := by
  unfold rangeD at h
  obtain ⟨j, hj, rfl⟩ := List.mem_map.mp h
  have := List.mem_range.mp hj
  exact ⟨_, rfl, by omega, by omega⟩
theorem valuesOf_ok (d : Dr z k m) (h : K (.list (vals z k m))) : F_values_of [.dat (tkD z k m)] K E := by
  have sz := d.sz
  have fz := d.fz
  have m0 := d.m0
  have m1 := d.m1
  unfold F_values_of specOf G_values_of N_values_of
  refine ⟨rfl, rfl, ?_⟩
  show R_values_of_0 E _ [.dat (tkD z k m), .dat (fr (ft z k)), .dat (fr (st z)), .dat (.int m), .un]
  unfold R_values_of_0
  refine ⟨by omega, by rw [sizeLine_eq]; omega, ?_⟩
  refine lc_to (fun i => match i with | .int i => fr (valF z k i) | _ => .none) rfl (Nat.le_of_eq (Nat.mul_zero _)) (fun x hx P hP => ?_) h
  obtain ⟨i, rfl, i0, i1⟩ := mem_range hx
  have iz : Fz 4 (i, 1) := int_fz (Sz.of_range i0 (by omega)) (by decide)
  exact ⟨sl (n := 2) (by decide), product_ok (iz.le (by decide)) (sz.le (by decide)) (added_ok (fz.le (by decide)) ((mul_fz iz sz).le (by decide)) hP)⟩
theorem lawValues_ok (d : Dr z k m) (h : K (.list (vals z k m))) : F__law_values [.dat (fr (ft z k)), .dat (fr (st z)), .dat (.int m)] K E := by
  have sz := d.sz
  have fz := d.fz
  have m0 := d.m0
  have m1 := d.m1
  unfold F__law_values specOf G__law_values N__law_values
  refine ⟨rfl, ?_⟩
  refine ⟨by omega, by rw [sizeLine_eq]; omega, ?_⟩
  refine lc_to (fun i => match i with | .int i => fr (valF z k i) | _ => .none) rfl (Nat.le_of_eq (Nat.mul_zero _)) (fun x hx P hP => ?_) h
  obtain ⟨i, rfl, i0, i1⟩ := mem_range hx
  have iz : Fz 4 (i, 1) := int_fz (Sz.of_range i0 (by omega)) (by decide)
  exact ⟨sl (n := 2) (by decide), times_ok (iz.le (by decide)) (sz.le (by decide)) (plus_ok (fz.le (by decide)) ((mul_fz iz sz).le (by decide)) hP)⟩
/-! ### as words -/
def txt (x : Q2) : Str := if x.2 = 1 then toString x.1 else (toString x.1 : Str) ++ "/" ++ toString x.2
def txtD (d : D) : D := match d with
  | .tuple [.int p, .int q] => .str (txt (p, q))
  | _ => .none
theorem text_len {a : Int} (h : Sz 60 a) : (toString a : Str).length ≤ 62 := by
  have l1 := PySem.int_text_length_le (a := a) (k := 61) (by decide) (by have := h.log; omega)
  have m1 : (toString a : Str).length = (toString a : String).length := PySem.ofString_length _
  omega
theorem text_ok {x : Q2} (hx : Fz 60 x) (h : K (.str (txt x))) : F_fraction_text [.dat (fr x)] K E := by
  have l1 : x.1.natAbs.log2 < 1920 := by have := hx.p.log; omega
  have l2 : x.2.natAbs.log2 < 1920 := by have := hx.q.log; omega
  have t1 := text_len hx.p
  have t2 := text_len hx.q
  unfold txt at h
  unfold F_fraction_text specOf G_fraction_text N_fraction_text
  refine ⟨rfl, _, rfl, fun z => ?_, fun z => ?_⟩
  · rw [if_pos (of_decide_eq_true z)] at h
    exact ⟨_, rfl, l1, h⟩
  · rw [if_neg (of_decide_eq_false z)] at h
    refine ⟨_, rfl, l1, ?_, _, rfl, l2, ?_, h⟩
    · rw [sizeLine_eq]
      show _ + 1 ≤ _
      omega
    · rw [sizeLine_eq, PySem.strLen_append]
      show _ + 1 + _ ≤ _
      omega
theorem lawText_ok {x : Q2} (hx : Fz 60 x) (h : K (.str (txt x))) : F__law_text [.dat (fr x)] K E := by
  have l1 : x.1.natAbs.log2 < 1920 := by have := hx.p.log; omega
  have l2 : x.2.natAbs.log2 < 1920 := by have := hx.q.log; omega
  have t1 := text_len hx.p
  have t2 := text_len hx.q
  unfold txt at h
  unfold F__law_text specOf G__law_text N__law_text
  refine ⟨rfl, _, rfl, fun z => ?_, fun z => ?_⟩
  · rw [if_pos (of_decide_eq_true z)] at h
    exact ⟨_, rfl, l1, h⟩
  · rw [if_neg (of_decide_eq_false z)] at h
    refine ⟨_, rfl, l1, ?_, _, rfl, l2, ?_, h⟩
    · rw [sizeLine_eq]
      show _ + 1 ≤ _
      omega
    · rw [sizeLine_eq, PySem.strLen_append]
      show _ + 1 + _ ≤ _
      omega
theorem mem_vals (d : Dr z k m) {x : D} (h : x ∈ vals z k m) : ∃ v : Q2, x = fr v ∧ Fz 50 v := by
  obtain ⟨y, hy, rfl⟩ := List.mem_map.mp h
  obtain ⟨i, rfl, i0, i1⟩ := mem_range hy
  exact ⟨_, rfl, d.vz i0 (by have := d.m1; omega)⟩
theorem lastOf_ok (d : Dr z k m) (h : K (fr (valF z k (m - 1)))) : F_last_of [.dat (tkD z k m)] K E := by
  have m0 := d.m0
  have m1 := d.m1
  have iz : Fz 4 (m - 1, 1) := int_fz (Sz.of_range (by omega) (by omega)) (by decide)
  unfold F_last_of specOf G_last_of N_last_of
  exact ⟨rfl, _, rfl, _, rfl, sl (n := 2) (by decide), _, rfl, product_ok (iz.le (by decide)) (d.sz.le (by decide)) (added_ok (d.fz.le (by decide)) ((mul_fz iz d.sz).le (by decide)) h)⟩
/-! ### steps -/
end
end K33
set_option exponentiation.threshold 9000
/-! K33z: what is shown; odd values. -/
namespace K33
open PySem DL
variable {K : D → Prop} {E : Value → D → Prop}
/-! ### shown -/
structure Sho (d : D) (n m : Nat) : Prop where
  l : d.canLay0 = true
  s : d.showable = true
  dp : d.depth ≤ m
  z : d.shown.length ≤ n
theorem Sho.big {d : D} {n m : Nat} (h : Sho d n m) (hn : n ≤ 1000000) : d.shown.length ≤ sizeLine := by
  have := h.z
  rw [sizeLine_eq]
  omega
theorem Sho.le {d : D} {n m n' m' : Nat} (h : Sho d n m) (l : n ≤ n') (k : m ≤ m') : Sho d n' m' := ⟨h.l, h.s, Nat.le_trans h.dp k, Nat.le_trans h.z l⟩
theorem sho_int {i : Int} (h : Sz 3500 i) (hl : i.natAbs.log2 < 1900) : Sho (.int i) 1910 0 := by
  refine ⟨rfl, ?_, Nat.le_refl _, ?_⟩
  · simp only [PyData.showable, decide_eq_true_eq]
    omega
  · have l1 := PySem.int_text_length_le (a := i) (k := 1900) (by decide) hl
    have m1 : (toString i : Str).length = (toString i : String).length := PySem.ofString_length _
    simp only [PyData.shown]
    omega
theorem sho_i60 {i : Int} (h : Sz 60 i) : Sho (.int i) 1910 0 := sho_int (h.le (by decide)) (by have := h.log; omega)
theorem sho_bool {b : Bool} : Sho (.bool b) 10 0 := by
  cases b <;> exact ⟨rfl, rfl, Nat.le_refl _, by decide +kernel⟩
theorem sho_none : Sho .none 10 0 := ⟨rfl, rfl, Nat.le_refl _, by decide +kernel⟩
theorem all_sho {n m : Nat} : ∀ {xs : List D}, (∀ x ∈ xs, Sho x n m) → PyData.canLayAll0 xs = true ∧ PyData.showableAll xs = true ∧ PyData.depthAll xs ≤ m ∧ ((PyData.shownAll xs).map (·.length)).sum ≤ xs.length * n ∧ (PyData.shownAll xs).length = xs.length
  | [], _ => ⟨rfl, rfl, Nat.zero_le _, Nat.zero_le _, rfl⟩
  | x :: xs, h => by
    obtain ⟨h1, h2, h3, h4, h5⟩ := all_sho fun y hy => h y (List.mem_cons_of_mem _ hy)
    have hx := h x List.mem_cons_self
    refine ⟨?_, ?_, ?_, ?_, ?_⟩
    · simp only [PyData.canLayAll0, hx.l, h1, Bool.and_self]
    · simp only [PyData.showableAll, hx.s, h2, Bool.and_self]
    · simp only [PyData.depthAll]
      exact Nat.max_le.mpr ⟨hx.dp, h3⟩
    · simp only [PyData.shownAll, List.map_cons, List.sum_cons, List.length_cons]
      have := hx.z
      rw [Nat.succ_mul]
      omega
    · simp only [PyData.shownAll, List.length_cons, h5]
theorem sho_tup {n m : Nat} {xs : List D} (h : ∀ x ∈ xs, Sho x n m) (hl : xs.length ≤ 20) : Sho (.tuple xs) (20 * n + 50) (m + 1) := by
  obtain ⟨h1, h2, h3, h4, h5⟩ := all_sho h
  refine ⟨by simpa only [PyData.canLay0] using h1, by simpa only [PyData.showable] using h2, ?_, ?_⟩
  · simp only [PyData.depth]
    omega
  · simp only [PyData.shown]
    have t := PySem.tupleText_len_le (PyData.shownAll xs)
    have := Nat.mul_le_mul_right n hl
    omega
theorem sho_lst {n m : Nat} {xs : List D} (h : ∀ x ∈ xs, Sho x n m) (hl : xs.length ≤ 20) : Sho (.list xs) (20 * n + 50) (m + 1) := by
  obtain ⟨h1, h2, h3, h4, h5⟩ := all_sho h
  refine ⟨by simpa only [PyData.canLay0] using h1, by simpa only [PyData.showable] using h2, ?_, ?_⟩
  · simp only [PyData.depth]
    omega
  · simp only [PyData.shown]
    have t := PySem.listText_len_le (PyData.shownAll xs)
    have := Nat.mul_le_mul_right n hl
    omega
theorem sho_fr {x : Q2} (hx : Fz 60 x) : Sho (fr x) 39000 1 := (sho_tup (n := 1910) (m := 0) (xs := [.int x.1, .int x.2]) (fun y hy => by
  simp only [List.mem_cons, List.not_mem_nil, or_false] at hy
  rcases hy with rfl | rfl
  · exact sho_i60 hx.p
  · exact sho_i60 hx.q) (show 2 ≤ 20 by decide)).le (by decide) (by decide)
theorem same {x : Str} {P Q : Prop} (h : Q) : gIte (!decide (x = x)) P Q := by
  rw [decide_eq_true rfl]
  exact ⟨fun z => (nomatch z), fun _ => h⟩
/-! ### odd values -/
structure Odd (d : D) : Prop where
  t : NoT d
  s : Sho d 800000 5
  p : plainD d = true
section
variable {z : Q2} {k m : Int}
theorem Dr.many_str (d : Dr z k m) : ((toString m : Str)).length ≤ 62 := text_len (Sz.of_range (by have := d.m0; omega) (by have := d.m1; omega))
theorem Dr.ms (d : Dr z k m) : Sz 60 m := Sz.of_range (by have := d.m0; omega) (by have := d.m1; omega)
def odds (z : Q2) (k m : Int) : List D :=
  [.none, .tuple [], .list [fr (ft z k), fr (st z), .int m], .tuple [fr (ft z k), fr (st z)], .tuple [fr (ft z k), fr (st z), .int m, .int 1], .tuple [fr (hf z k), fr (st z), .int m],
   .tuple [fr (ft z k), fr (tr z), .int m],
   .tuple [fr (ft z k), fr (st z), .int 1], .tuple [fr (ft z k), fr (st z), .int 13], .tuple [fr (ft z k), fr (st z), .bool true], .tuple [fr (ft z k), frD 0 1, .int m],
   .tuple [fr (ft z k), frD 1 0, .int m],
   .tuple [frD (2 * (ft z k).1) (2 * (ft z k).2), fr (st z), .int m], .tuple [fr (ft z k), frD (0 - (st z).1) (st z).2, .int m],
   .tuple [.int (ft z k).1, fr (st z), .int m], .tuple [.list [.int (ft z k).1, .int (ft z k).2], fr (st z), .int m], .tuple [fr (ft z k), .tuple [.int (st z).1], .int m],
   .tuple [frD 1 0, fr (st z), .int m], .tuple [fr (ft z k), fr (st z), .str (toString m)]]
theorem pl3 {a b c : D} (h1 : plainD a = true) (h2 : plainD b = true) (h3 : plainD c = true) : plainD (.tuple [a, b, c]) = true := by
  simp [plainD, plainL, h1, h2, h3]
theorem shoIn {xs : List D} (h : ∀ x ∈ xs, Sho x 39500 2) (hl : xs.length ≤ 20) : Sho (.tuple xs) 800000 5 := (sho_tup h hl).le (by decide) (by decide)
theorem sho3 {a b c : D} (h1 : Sho a 39500 2) (h2 : Sho b 39500 2) (h3 : Sho c 39500 2) : Sho (.tuple [a, b, c]) 800000 5 := shoIn (fun x hx => by
  simp only [List.mem_cons, List.not_mem_nil, or_false] at hx
  rcases hx with rfl | rfl | rfl
  · exact h1
  · exact h2
  · exact h3) (show 3 ≤ 20 by decide)
theorem many_text : ∀ m ∈ ([2, 3, 4, 5, 6, 7, 8, 9, 10, 11, 12] : List Int), (PyData.str (toString m)).canLay0 = true ∧ (PyData.str (toString m)).showable = true ∧ (PyData.str (toString m)).depth ≤ 2 ∧ (PyData.str (toString m)).shown.length ≤ 39500 := by decide +kernel
theorem odds_odd (d : Dr z k m) {v : D} (h : v ∈ odds z k m) : Odd v := by
  have F := d.fz
  have S := d.sz
  have Hz := d.hz
  have m0 := d.m0
  have m1 := d.m1
  obtain ⟨a1, a2, a3, a4, a5, a6, _⟩ := stepsA z d.z
  obtain ⟨c1, c2, c3, c4, c5⟩ := stepsC z d.z
  obtain ⟨b1, b2, b3, b4, b5, b6⟩ := firstsA z d.z k d.k
  obtain ⟨e1, e2, e3, e4, e5⟩ := firstsB z d.z k d.k
  have T : Fz 24 (tr z) := ⟨c2, natSz (n := 1000000) (by omega) (by decide), natSz (n := 1000000) (by omega) (by decide)⟩
  have wF : ∀ x : Q2, fr (ft z k) = fr x → Sz 60 x.1 ∧ Sz 60 x.2 := fun x e => fz_60 F (by decide) e
  have wS : ∀ x : Q2, fr (st z) = fr x → Sz 60 x.1 ∧ Sz 60 x.2 := fun x e => fz_60 S (by decide) e
  have sf : Sho (fr (ft z k)) 39500 2 := (sho_fr (F.le (by decide))).le (by decide) (by decide)
  have ss : Sho (fr (st z)) 39500 2 := (sho_fr (S.le (by decide))).le (by decide) (by decide)
  have si : ∀ {i : Int}, Sz 60 i → Sho (.int i) 39500 2 := fun h => (sho_i60 h).le (by decide) (by decide)
  have sm := si d.ms
  have s2 : ∀ {p q : Int}, Sz 60 p → Sz 60 q → Sho (frD p q) 39500 2 := fun {p q} h1 h2 => (sho_tup (n := 1910) (m := 0) (xs := [.int p, .int q]) (fun y hy => by
    simp only [List.mem_cons, List.not_mem_nil, or_false] at hy
    rcases hy with rfl | rfl
    · exact sho_i60 h1
    · exact sho_i60 h2) (show 2 ≤ 20 by decide)).le (by decide) (by decide)
  have i60 : ∀ {x y : Q2}, Fz 24 x → x = y → Sz 60 y.1 ∧ Sz 60 y.2 := fun h e => e ▸ ⟨h.p.le (by decide), h.q.le (by decide)⟩
  have frI : ∀ {x y : Q2}, fr x = fr y → x = y := fun {x y} e => by
    cases x
    cases y
    cases e
    rfl
  have l0 : Sz 60 0 := lit
  have l1 : Sz 60 1 := lit
  have l13 : Sz 60 13 := lit
  have z1 := F.p.le (show 24 ≤ 60 by decide)
  have z2 := F.q.le (show 24 ≤ 60 by decide)
  have z3 := S.p.le (show 20 ≤ 60 by decide)
  have z4 := S.q.le (show 20 ≤ 60 by decide)
  have d2 : Sz 60 (2 * (ft z k).1) := ((lit (b := 2) (i := 2)).mul F.p).le (by decide)
  have d3 : Sz 60 (2 * (ft z k).2) := ((lit (b := 2) (i := 2)).mul F.q).le (by decide)
  have n3 : Sz 60 (0 - (st z).1) := by
    rw [Int.zero_sub]
    exact z3.neg
  unfold odds at h
  simp only [List.mem_cons, List.not_mem_nil, or_false] at h
  rcases h with rfl | rfl | rfl | rfl | rfl | rfl | rfl | rfl | rfl | rfl | rfl | rfl | rfl | rfl | rfl | rfl | rfl | rfl | rfl
  · exact ⟨.kind rfl, sho_none.le (by decide) (by decide), rfl⟩
  · exact ⟨.len (by decide), shoIn (fun x hx => by cases hx) (show 0 ≤ 20 by decide), rfl⟩
  · refine ⟨.kind rfl, (sho_lst (n := 39500) (m := 2) (xs := [fr (ft z k), fr (st z), .int m]) (fun x hx => ?_) (show 3 ≤ 20 by decide)).le (by decide) (by decide), rfl⟩
    simp only [List.mem_cons, List.not_mem_nil, or_false] at hx
    rcases hx with rfl | rfl | rfl
    · exact sf
    · exact ss
    · exact sm
  · refine ⟨.len (show ¬ (2 : Int) = 3 by decide), shoIn (fun x hx => ?_) (show 2 ≤ 20 by decide), rfl⟩
    simp only [List.mem_cons, List.not_mem_nil, or_false] at hx
    rcases hx with rfl | rfl
    · exact sf
    · exact ss
  · refine ⟨.len (show ¬ (4 : Int) = 3 by decide), shoIn (fun x hx => ?_) (show 4 ≤ 20 by decide), rfl⟩
    simp only [List.mem_cons, List.not_mem_nil, or_false] at hx
    rcases hx with rfl | rfl | rfl | rfl
    · exact sf
    · exact ss
    · exact sm
    · exact si l1
  · -- half
    refine ⟨.parts m0 m1 (fun x e => i60 Hz (frI e)) wS fun x y ex ey _ _ => ?_, sho3 (s2 (Hz.p.le (by decide)) (Hz.q.le (by decide))) ss sm, rfl⟩
    rw [← frI ex, ← frI ey]
    exact .inr (.inr e4)
  · -- three times
    refine ⟨.parts m0 m1 wF (fun x e => i60 T (frI e)) fun x y ex ey _ _ => ?_, sho3 sf (s2 (T.p.le (by decide)) (T.q.le (by decide))) sm, rfl⟩
    rw [← frI ex, ← frI ey]
    refine .inr (.inl ⟨c5, fun g w hg hw => stepsD z d.z w ?_ g ?_⟩)
    · unfold nearL
      simp only [List.mem_cons, List.not_mem_nil, or_false]
      exact hw
    · unfold digsL
      simp only [List.mem_cons, List.not_mem_nil, or_false]
      exact hg
  · exact ⟨.many rfl, sho3 sf ss (si l1), rfl⟩
  · exact ⟨.many rfl, sho3 sf ss (si l13), rfl⟩
  · exact ⟨.many rfl, sho3 sf ss (sho_bool.le (by decide) (by decide)), rfl⟩
  · refine ⟨.parts m0 m1 wF (fun y e => ?_) fun x y ex ey _ _ => ?_, sho3 sf (s2 l0 l1) sm, rfl⟩
    · cases y
      cases e
      exact ⟨l0, l1⟩
    · cases y
      cases ey
      exact .inl (show (0 : Int) < 1 by decide)
  · refine ⟨.parts m0 m1 wF (fun y e => ?_) fun x y ex ey _ es => ?_, sho3 sf (s2 l1 l0) sm, rfl⟩
    · cases y
      cases e
      exact ⟨l1, l0⟩
    · exact absurd es (by decide)
  · refine ⟨.parts m0 m1 (fun y e => ?_) wS fun x y ex ey ef es => ?_, sho3 (s2 d2 d3) ss sm, rfl⟩
    · cases y
      cases e
      exact ⟨d2, d3⟩
    · have ef : (decide (1 ≤ 2 * (ft z k).2) && decide (Nat.gcd (2 * (ft z k).1).natAbs (2 * (ft z k).2).natAbs = 1)) = true := ef
      rw [Bool.and_eq_true, decide_eq_true_eq, decide_eq_true_eq] at ef
      exact absurd ef.2 e5
  · refine ⟨.parts m0 m1 wF (fun y e => ?_) fun x y ex ey _ _ => ?_, sho3 sf (s2 n3 z4) sm, rfl⟩
    · cases y
      cases e
      exact ⟨n3, z4⟩
    · cases y
      cases ey
      exact .inl (show 0 - (st z).1 < 1 by omega)
  · exact ⟨.parts m0 m1 (fun y e => (nomatch e)) wS (fun x y ex ey _ _ => (nomatch ex)), sho3 (si z1) ss sm, rfl⟩
  · refine ⟨.parts m0 m1 (fun y e => (nomatch e)) wS (fun x y ex ey _ _ => (nomatch ex)), sho3 ?_ ss sm, rfl⟩
    refine (sho_lst (n := 1910) (m := 0) (xs := [.int (ft z k).1, .int (ft z k).2]) (fun y hy => ?_) (show 2 ≤ 20 by decide)).le (by decide) (by decide)
    simp only [List.mem_cons, List.not_mem_nil, or_false] at hy
    rcases hy with rfl | rfl
    · exact sho_i60 z1
    · exact sho_i60 z2
  · have no : ∀ y : Q2, PyData.tuple [.int (st z).1] = fr y → False := fun y e => by
      injection e with e
      injection e with _ e
      cases e
    refine ⟨.parts m0 m1 wF (fun y e => (no y e).elim) fun x y ex ey _ _ => (no y ey).elim, sho3 sf ?_ sm, rfl⟩
    refine (sho_tup (n := 1910) (m := 0) (xs := [.int (st z).1]) (fun y hy => ?_) (show 1 ≤ 20 by decide)).le (by decide) (by decide)
    rw [List.mem_singleton.mp hy]
    exact sho_i60 z3
  · refine ⟨.parts m0 m1 (fun y e => ?_) wS fun x y ex ey ef es => ?_, sho3 (s2 l1 l0) ss sm, rfl⟩
    · cases y
      cases e
      exact ⟨l1, l0⟩
    · exact absurd ef (by decide)
  · obtain ⟨t1, t2, t3, t4⟩ := many_text m (by
      simp only [List.mem_cons, List.not_mem_nil, or_false]
      omega)
    exact ⟨.many rfl, sho3 sf ss ⟨t1, t2, t3, t4⟩, rfl⟩
end
end K33
set_option exponentiation.threshold 9000
/-! K33u: the walk through drawn ticks, odd values. -/
namespace K33
open PySem DL
variable {K : D → Prop} {E : Value → D → Prop}
section
variable {z : Q2} {k m : Int} {D' : DEnds} {s0 s1 s2 s3 s4 s5 s6 : Sv}
theorem slr {n : Nat} (h : Nat.ble n 1000 = true) : n ≤ sizeLine := sl (Nat.le_of_ble_eq_true h)
theorem slr2 {n : Nat} (h : Nat.ble n 1000 = true) : n < sizeLine := by
  have := Nat.le_of_ble_eq_true h
  rw [sizeLine_eq]
  omega
theorem ticks_ok (h : ∀ z k m, Dr z k m → K (tkD z k m)) : F__law_ticks [.pot] K E := by
  unfold F__law_ticks specOf G__law_ticks N__law_ticks
  refine ⟨rfl, slr rfl, of_ok (by simp) (by decide) fun g hg => ⟨slr rfl, take_ok (by decide) (by decide) fun t t0 t1 => ?_⟩⟩
  obtain ⟨g, rfl, hd⟩ : ∃ i : Int, g = .int i ∧ i ∈ digsL := by
    unfold digsL
    simp only [List.mem_cons, List.not_mem_nil, or_false] at hg ⊢
    rcases hg with rfl | rfl | rfl
    · exact ⟨1, rfl, .inl rfl⟩
    · exact ⟨2, rfl, .inr (.inl rfl)⟩
    · exact ⟨5, rfl, .inr (.inr rfl)⟩
  have gz : Fz 3900 (g, 1) := by
    unfold digsL at hd
    simp only [List.mem_cons, List.not_mem_nil, or_false] at hd
    rcases hd with rfl | rfl | rfl <;> exact (int_fz (n := 4) lit (by decide)).le (by decide)
  have hz : (g, t - 3) ∈ stepsL := by
    have : t = 0 ∨ t = 1 ∨ t = 2 ∨ t = 3 ∨ t = 4 ∨ t = 5 ∨ t = 6 := by omega
    unfold digsL at hd
    simp only [List.mem_cons, List.not_mem_nil, or_false] at hd
    rcases hd with rfl | rfl | rfl <;> rcases this with rfl | rfl | rfl | rfl | rfl | rfl | rfl <;> decide
  refine lawPower_ok (w := t - 3) (by omega) (times_ok gz ((ten_fz (by omega)).le (by decide)) ?_)
  show R__law_ticks_0 E _ [.pot, .dat (fr (st (g, t - 3)))]
  generalize (g, t - 3) = z at *
  unfold R__law_ticks_0
  refine take_ok (by decide) (by decide) fun u u0 u1 => ⟨slr rfl, ?_⟩
  have hk : u - 20 ∈ ksL := by
    unfold ksL
    refine List.mem_map.mpr ⟨u.toNat, List.mem_range.mpr (by omega), ?_⟩
    show (u.toNat : Int) - 20 = u - 20
    omega
  have d0 : Dr z (u - 20) 2 := ⟨hz, hk, by decide, by decide⟩
  have kz : Fz 3900 (u - 20, 1) := (int_fz (n := 8) (by unfold Sz; omega) (by decide)).le (by decide)
  refine times_ok kz (d0.sz.le (by decide)) (take_ok (by decide) (by decide) fun v v0 v1 => ⟨slr rfl, ?_⟩)
  exact h z (u - 20) (2 + v) ⟨hz, hk, by omega, by omega⟩
theorem odd_ok (d : Dr z k m) (h : ∀ v, Odd v → K v) : F__law_odd [.pot, .dat (tkD z k m)] K E := by
  have F := d.fz
  have S := d.sz
  have m2 : m.natAbs.log2 < 1920 := by have := d.ms.log; omega
  have o12 : Fz 4 (1, 2) := ⟨by decide, lit, lit⟩
  have o31 : Fz 4 (3, 1) := ⟨by decide, lit, lit⟩
  have t2 : Sz 2 2 := lit
  unfold F__law_odd specOf G__law_odd N__law_odd
  refine ⟨rfl, rfl, ?_⟩
  show R__law_odd_8 E _ [.pot, .dat (tkD z k m), .dat (fr (ft z k)), .dat (fr (st z)), .dat (.int m), .un, .un]
  unfold R__law_odd_8
  refine ⟨slr rfl, times_ok (S.le (by decide)) (o12.le (by decide)) (plus_ok (F.le (by decide)) ((mul_fz S o12).le (by decide)) ?_)⟩
  show R__law_odd_7 E _ [.pot, .dat (tkD z k m), .dat (fr (ft z k)), .dat (fr (st z)), .dat (.int m), .dat (fr (hf z k)), .un]
  unfold R__law_odd_7
  refine ⟨slr rfl, slr rfl, slr rfl, slr rfl, slr rfl, slr rfl, (show 6 < 7 by decide), ?_⟩
  show R__law_odd_6 E _ [.pot, .dat (tkD z k m), .dat (fr (ft z k)), .dat (fr (st z)), .dat (.int m), .dat (fr (hf z k)), .own ((odds z k m).take 6)]
  unfold R__law_odd_6
  refine ⟨slr rfl, times_ok (S.le (by decide)) (o31.le (by decide)) ⟨slr rfl, slr rfl, slr rfl, ?_⟩⟩
  show R__law_odd_5 E _ [.pot, .dat (tkD z k m), .dat (fr (ft z k)), .dat (fr (st z)), .dat (.int m), .dat (fr (hf z k)), .own ((odds z k m).take 7)]
  unfold R__law_odd_5
  refine ⟨slr rfl, slr rfl, slr rfl, slr rfl, slr rfl, slr rfl, slr rfl, ?_⟩
  show R__law_odd_4 E _ [.pot, .dat (tkD z k m), .dat (fr (ft z k)), .dat (fr (st z)), .dat (.int m), .dat (fr (hf z k)), .own ((odds z k m).take 11)]
  unfold R__law_odd_4
  refine ⟨slr rfl, slr rfl, slr rfl, slr rfl, ?_⟩
  show R__law_odd_3 E _ [.pot, .dat (tkD z k m), .dat (fr (ft z k)), .dat (fr (st z)), .dat (.int m), .dat (fr (hf z k)), .own ((odds z k m).take 12)]
  unfold R__law_odd_3
  refine ⟨_, rfl, Sz.mulOk t2 F.p, _, rfl, Sz.mulOk t2 F.q, slr rfl, slr rfl, _, rfl, _, rfl, slr rfl, slr rfl, slr rfl, slr rfl, ?_⟩
  show R__law_odd_2 E _ [.pot, .dat (tkD z k m), .dat (fr (ft z k)), .dat (fr (st z)), .dat (.int m), .dat (fr (hf z k)), .own ((odds z k m).take 14)]
  unfold R__law_odd_2
  refine ⟨_, rfl, slr rfl, slr rfl, slr rfl, slr rfl, slr rfl, ?_⟩
  show R__law_odd_1 E _ [.pot, .dat (tkD z k m), .dat (fr (ft z k)), .dat (fr (st z)), .dat (.int m), .dat (fr (hf z k)), .own ((odds z k m).take 17)]
  unfold R__law_odd_1
  refine ⟨slr rfl, slr rfl, m2, slr rfl, slr rfl, slr rfl, ?_⟩
  show R__law_odd_0 E _ [.pot, .dat (tkD z k m), .dat (fr (ft z k)), .dat (fr (st z)), .dat (.int m), .dat (fr (hf z k)), .own (odds z k m)]
  unfold R__law_odd_0
  exact of_ok (xs := odds z k m) (by unfold odds; simp) (by show 19 < _; decide) fun v hv => h v (odds_odd d hv)
end
end K33
set_option exponentiation.threshold 9000
/-! K33v: ranges of numbers. -/
namespace K33
open PySem DL
variable {K : D → Prop} {E : Value → D → Prop}
abbrev EK (K : D → Prop) : DEnds := { nx := fun _ => K .none, rt := K }
theorem eqv_lnil {xs : List D} : PyData.eqv (.list xs) (.list []) = xs.isEmpty := by
  cases xs <;> simp [PyData.eqv, PyData.eqvAll]
theorem beyond_eq : d_BEYOND = .int (10 ^ 300) := by
  unfold d_BEYOND
  congr 1
/-- told fractions, of any values -/
def toldB (d : D) : Bool := fracB d && match d with
  | .tuple [.int p, .int q] => decide (p < 10 ^ 300) && (decide (-p < 10 ^ 300) && decide (q < 10 ^ 300))
  | _ => false
theorem isTold_ok {d : D} (h : K (.bool (toldB d))) : F_is_told_fraction [.dat d] K E := by
  unfold F_is_told_fraction specOf G_is_told_fraction N_is_told_fraction
  refine ⟨rfl, ?_⟩
  simp only [gSeq, gSet, gVar, gVarB, gC, gBin, gChain, gTB, gIf, gIfS, gRet, gCall, gCallF, gCo, gN, gTup, gLst, gL, gNotT, gNotV, gAndT, gOrT, gAndV, gOrV, gIsi, gSl, gPart, gNo, gM0, gM1, gFn, gAn, gAd, gAp, gAs, gAsg, gTo, gToT, gToC, gTo0, gNext, gNeg, gPs0, gTick, gPix, gLenS, gIxS, gSumS, gLRg, gPar, gDic0, gDic1, gYes, gSeqI, gRg1, gRg2, gRetN, gSetF, gApp, gExt, gDrop, gFrz, gLcC_x, gForC_x, gRev, revD, gPar3F, gOff, gOffS, gBreak, gCont, clr, startD, nth, List.set, true_or, or_true, true_and, and_true, R__law_pot_0, R__law_pot_1, R__law_pot_2, R__law_common_0, R__law_common_1, R__law_reduced_0, R__law_power_0, R__law_power_1, R__law_parts_0, R__law_parts_1, R__law_parts_2, R__law_cost_0, R__law_cost_1, R__law_cost_2, R__law_cost_3, R__law_cost_4, R__law_cost_5, R_is_fraction_0, R_are_written_0, R_without_tens_0, R_without_tens_1, R_parts_of_step_0, R_parts_of_step_1, R_parts_of_step_2, R_parts_of_step_3, R_parts_of_step_4, R_reduced_0, R_is_ticks_0, R_is_ticks_1, R_is_ticks_2, R_check_ends_0, R_are_wishes_0, R_steps_in_vain_0, R_values_of_0, R_whole_cost_0, R_ticks_cost_0, R_ticks_cost_1, R_ticks_cost_2, R__law_take_0, R__law_take_1, R__law_take_2, R__law_take_3, R__law_take_4, R__law_take_5, R__law_take_6, R__law_odd_0, R__law_odd_1, R__law_odd_2, R__law_odd_3, R__law_odd_4, R__law_odd_5, R__law_odd_6, R__law_odd_7, R__law_odd_8, R__law_is_fraction_0, R__law_are_ticks_0, R__law_are_ticks_1, R__law_heard_0, R__law_are_refused_0, R__law_are_refused_1, R__law_are_refused_2, R__law_are_refused_3, R__law_are_refused_4, R__law_are_refused_5, R__law_are_refused_6, R__law_are_refused_7, R__law_are_refused_8, R__law_are_refused_9, R__law_are_refused_10, R__law_are_refused_11, R__law_are_refused_12, R__law_are_refused_13, R__law_ticks_0, R__law_wishes_0, addD_ii, addD_ss, addD_ll, addD_tt, subD_ii, mulD_ii, mulD_si, mulD_li, fdivD_ii, modD_ii, powD_ii, eqD_ii, eqD_ss, eqD_bb, neD_ii, neD_ss, neD_bb, ltD_ii, ltD_ss, leD_ii, gtD_ii, geD_ii, isD_n, isD_bb, isnotD_n, isnotD_bb, inD_ss, inD_l, inD_t, notinD_ss, notinD_l, notinD_t, ixD_l, ixD_t, ixD_s, slD_t, slD_s, slD_l, lenD_s, lenD_l, lenD_t, tupD_l, tupD_t, listD_l, listD_t, allD_l, anyD_l, sumD_l, maxD_ii, minD_ii, maxD_l, minD_l, absD_i, gcdD_ii, intD_i, intD_b, intD_s, strD_i, strD_s, reprD_1, joinD_l, splitD_s, PB_0, PB_1, PB_2, gIte_t, gIte_f, gIte_d, gIte_n, eqD_xt, eqD_tx, neD_xt, neD_tx, eqD_tt, neD_tt, List.append_nil, beyond_eq]
  refine isFraction_ok ?_
  unfold toldB at h
  cases e : fracB d with
  | false =>
    rw [e, Bool.false_and] at h
    exact ⟨fun z => (nomatch z), fun _ => h⟩
  | true =>
    rw [e, Bool.true_and] at h
    obtain ⟨⟨p, q⟩, rfl, q1, g⟩ := frac_is e
    have h : K (.bool (decide (p < 10 ^ 300) && (decide (-p < 10 ^ 300) && decide (q < 10 ^ 300)))) := h
    simp only [gSeq, gSet, gVar, gVarB, gC, gBin, gChain, gTB, gIf, gIfS, gRet, gCall, gCallF, gCo, gN, gTup, gLst, gL, gNotT, gNotV, gAndT, gOrT, gAndV, gOrV, gIsi, gSl, gPart, gNo, gM0, gM1, gFn, gAn, gAd, gAp, gAs, gAsg, gTo, gToT, gToC, gTo0, gNext, gNeg, gPs0, gTick, gPix, gLenS, gIxS, gSumS, gLRg, gPar, gDic0, gDic1, gYes, gSeqI, gRg1, gRg2, gRetN, gSetF, gApp, gExt, gDrop, gFrz, gLcC_x, gForC_x, gRev, revD, gPar3F, gOff, gOffS, gBreak, gCont, clr, startD, nth, List.set, true_or, or_true, true_and, and_true, R__law_pot_0, R__law_pot_1, R__law_pot_2, R__law_common_0, R__law_common_1, R__law_reduced_0, R__law_power_0, R__law_power_1, R__law_parts_0, R__law_parts_1, R__law_parts_2, R__law_cost_0, R__law_cost_1, R__law_cost_2, R__law_cost_3, R__law_cost_4, R__law_cost_5, R_is_fraction_0, R_are_written_0, R_without_tens_0, R_without_tens_1, R_parts_of_step_0, R_parts_of_step_1, R_parts_of_step_2, R_parts_of_step_3, R_parts_of_step_4, R_reduced_0, R_is_ticks_0, R_is_ticks_1, R_is_ticks_2, R_check_ends_0, R_are_wishes_0, R_steps_in_vain_0, R_values_of_0, R_whole_cost_0, R_ticks_cost_0, R_ticks_cost_1, R_ticks_cost_2, R__law_take_0, R__law_take_1, R__law_take_2, R__law_take_3, R__law_take_4, R__law_take_5, R__law_take_6, R__law_odd_0, R__law_odd_1, R__law_odd_2, R__law_odd_3, R__law_odd_4, R__law_odd_5, R__law_odd_6, R__law_odd_7, R__law_odd_8, R__law_is_fraction_0, R__law_are_ticks_0, R__law_are_ticks_1, R__law_heard_0, R__law_are_refused_0, R__law_are_refused_1, R__law_are_refused_2, R__law_are_refused_3, R__law_are_refused_4, R__law_are_refused_5, R__law_are_refused_6, R__law_are_refused_7, R__law_are_refused_8, R__law_are_refused_9, R__law_are_refused_10, R__law_are_refused_11, R__law_are_refused_12, R__law_are_refused_13, R__law_ticks_0, R__law_wishes_0, addD_ii, addD_ss, addD_ll, addD_tt, subD_ii, mulD_ii, mulD_si, mulD_li, fdivD_ii, modD_ii, powD_ii, eqD_ii, eqD_ss, eqD_bb, neD_ii, neD_ss, neD_bb, ltD_ii, ltD_ss, leD_ii, gtD_ii, geD_ii, isD_n, isD_bb, isnotD_n, isnotD_bb, inD_ss, inD_l, inD_t, notinD_ss, notinD_l, notinD_t, ixD_l, ixD_t, ixD_s, slD_t, slD_s, slD_l, lenD_s, lenD_l, lenD_t, tupD_l, tupD_t, listD_l, listD_t, allD_l, anyD_l, sumD_l, maxD_ii, minD_ii, maxD_l, minD_l, absD_i, gcdD_ii, intD_i, intD_b, intD_s, strD_i, strD_s, reprD_1, joinD_l, splitD_s, PB_0, PB_1, PB_2, gIte_t, gIte_f, gIte_d, gIte_n, eqD_xt, eqD_tx, neD_xt, neD_tx, eqD_tt, neD_tt]
    refine ⟨_, rfl, ?_⟩
    simp only [gSeq, gSet, gVar, gVarB, gC, gBin, gChain, gTB, gIf, gIfS, gRet, gCall, gCallF, gCo, gN, gTup, gLst, gL, gNotT, gNotV, gAndT, gOrT, gAndV, gOrV, gIsi, gSl, gPart, gNo, gM0, gM1, gFn, gAn, gAd, gAp, gAs, gAsg, gTo, gToT, gToC, gTo0, gNext, gNeg, gPs0, gTick, gPix, gLenS, gIxS, gSumS, gLRg, gPar, gDic0, gDic1, gYes, gSeqI, gRg1, gRg2, gRetN, gSetF, gApp, gExt, gDrop, gFrz, gLcC_x, gForC_x, gRev, revD, gPar3F, gOff, gOffS, gBreak, gCont, clr, startD, nth, List.set, true_or, or_true, true_and, and_true, R__law_pot_0, R__law_pot_1, R__law_pot_2, R__law_common_0, R__law_common_1, R__law_reduced_0, R__law_power_0, R__law_power_1, R__law_parts_0, R__law_parts_1, R__law_parts_2, R__law_cost_0, R__law_cost_1, R__law_cost_2, R__law_cost_3, R__law_cost_4, R__law_cost_5, R_is_fraction_0, R_are_written_0, R_without_tens_0, R_without_tens_1, R_parts_of_step_0, R_parts_of_step_1, R_parts_of_step_2, R_parts_of_step_3, R_parts_of_step_4, R_reduced_0, R_is_ticks_0, R_is_ticks_1, R_is_ticks_2, R_check_ends_0, R_are_wishes_0, R_steps_in_vain_0, R_values_of_0, R_whole_cost_0, R_ticks_cost_0, R_ticks_cost_1, R_ticks_cost_2, R__law_take_0, R__law_take_1, R__law_take_2, R__law_take_3, R__law_take_4, R__law_take_5, R__law_take_6, R__law_odd_0, R__law_odd_1, R__law_odd_2, R__law_odd_3, R__law_odd_4, R__law_odd_5, R__law_odd_6, R__law_odd_7, R__law_odd_8, R__law_is_fraction_0, R__law_are_ticks_0, R__law_are_ticks_1, R__law_heard_0, R__law_are_refused_0, R__law_are_refused_1, R__law_are_refused_2, R__law_are_refused_3, R__law_are_refused_4, R__law_are_refused_5, R__law_are_refused_6, R__law_are_refused_7, R__law_are_refused_8, R__law_are_refused_9, R__law_are_refused_10, R__law_are_refused_11, R__law_are_refused_12, R__law_are_refused_13, R__law_ticks_0, R__law_wishes_0, addD_ii, addD_ss, addD_ll, addD_tt, subD_ii, mulD_ii, mulD_si, mulD_li, fdivD_ii, modD_ii, powD_ii, eqD_ii, eqD_ss, eqD_bb, neD_ii, neD_ss, neD_bb, ltD_ii, ltD_ss, leD_ii, gtD_ii, geD_ii, isD_n, isD_bb, isnotD_n, isnotD_bb, inD_ss, inD_l, inD_t, notinD_ss, notinD_l, notinD_t, ixD_l, ixD_t, ixD_s, slD_t, slD_s, slD_l, lenD_s, lenD_l, lenD_t, tupD_l, tupD_t, listD_l, listD_t, allD_l, anyD_l, sumD_l, maxD_ii, minD_ii, maxD_l, minD_l, absD_i, gcdD_ii, intD_i, intD_b, intD_s, strD_i, strD_s, reprD_1, joinD_l, splitD_s, PB_0, PB_1, PB_2, gIte_t, gIte_f, gIte_d, gIte_n, eqD_xt, eqD_tx, neD_xt, neD_tx, eqD_tt, neD_tt]
    by_cases z : p < 0
    · rw [if_pos z]
      rw [decide_eq_true (show p < 10 ^ 300 from Int.lt_trans z (by decide +kernel)), Bool.true_and] at h
      refine ⟨fun w => ⟨_, rfl, ?_⟩, fun w => ?_⟩
      · rw [decide_eq_true w, Bool.true_and] at h
        exact h
      · rw [decide_eq_false w, Bool.false_and] at h
        exact h
    · rw [if_neg z]
      rw [decide_eq_true (show -p < 10 ^ 300 from Int.lt_of_le_of_lt (show -p ≤ 0 by omega) (by decide +kernel)), Bool.true_and] at h
      refine ⟨fun w => ⟨_, rfl, ?_⟩, fun w => ?_⟩
      · rw [decide_eq_true w, Bool.true_and] at h
        exact h
      · rw [decide_eq_false w, Bool.false_and] at h
        exact h
theorem rd_g {x y : Int} (hy : 1 ≤ y) : Nat.gcd (rd x y).1.natAbs (rd x y).2.natAbs = 1 := by
  have gx : ((Nat.gcd x.natAbs y.natAbs : Nat) : Int) ∣ x := Int.natAbs_dvd_natAbs.mp (by rw [Int.natAbs_natCast]; exact Nat.gcd_dvd_left _ _)
  have gy : ((Nat.gcd x.natAbs y.natAbs : Nat) : Int) ∣ y := Int.natAbs_dvd_natAbs.mp (by rw [Int.natAbs_natCast]; exact Nat.gcd_dvd_right _ _)
  show Nat.gcd (x / ((Nat.gcd x.natAbs y.natAbs : Nat) : Int)).natAbs (y / ((Nat.gcd x.natAbs y.natAbs : Nat) : Int)).natAbs = 1
  rw [Int.natAbs_ediv_of_dvd gx, Int.natAbs_ediv_of_dvd gy, Int.natAbs_natCast]
  exact Nat.gcd_div_gcd_div_gcd_of_pos_right (by omega)
theorem told_of {x : Q2} (h1 : 1 ≤ x.2) (g : Nat.gcd x.1.natAbs x.2.natAbs = 1) (s1 : Sz 990 x.1) (s2 : Sz 990 x.2) : toldB (fr x) = true := by
  have lim : ∀ {a : Int}, Sz 990 a → a < 10 ^ 300 ∧ -a < 10 ^ 300 := fun {a} s => by
    have e1 : (2 : Int) ^ 990 < 10 ^ 300 := by decide +kernel
    have e2 : ((2 ^ 990 : Nat) : Int) = (2 : Int) ^ 990 := by simp
    unfold Sz at s
    generalize (10 : Int) ^ 300 = z at *
    omega
  obtain ⟨a1, a2⟩ := lim s1
  obtain ⟨a3, _⟩ := lim s2
  show (fracB (fr x) && (decide (x.1 < 10 ^ 300) && (decide (-x.1 < 10 ^ 300) && decide (x.2 < 10 ^ 300)))) = true
  rw [frac_yes h1 g, decide_eq_true a1, decide_eq_true a2, decide_eq_true a3]
  rfl
theorem heard_ok {n : Nat} {ds : List D} {C : Addr} {d : D} (hC : m_PictureError (.ref C) = some true) (hB : ∀ (Kd : D → Prop) (E : Value → D → Prop), E (.ref C) d → B_law n (ds.map AV.dat) Kd E) (h : K (.tuple [excD C d, .none])) : F__law_heard [.dat (fnC n ds)] K E := by
  unfold F__law_heard specOfL G__law_heard N__law_heard
  refine ⟨rfl, fun cells => ?_⟩
  refine ⟨(show 2 < 3 by decide), n, ds, rfl, hB _ _ ⟨true, hC, fun _ C' e => ?_, fun z => (nomatch z)⟩⟩
  cases e
  exact h
theorem plain1 {d : D} (h : plainD d = true) : plainL [d] = true := by
  show (plainD d && true) = true
  rw [h]
  rfl
theorem plain2 {d e : D} (h : plainD d = true) (k : plainD e = true) : plainL [d, e] = true := by
  show (plainD d && (plainD e && true)) = true
  rw [h, k]
  rfl
end K33
set_option exponentiation.threshold 9000
/-! K33r: how many steps are in vain. -/
namespace K33
open PySem DL
variable {K : D → Prop} {E : Value → D → Prop}
theorem lc_if {cb m i : Nat} {vs : List Nat} {Δ : DEnv} {K : List D → Prop} {gt : TDT} {xs : List D} (t : D → Bool) (hv : (vs.all fun i => noOwn (nth Δ i)) = true) (hm : xs.length * cb ≤ m) (hn : ∀ d, nth ((clr vs Δ).set i (.dat d)) i = .dat d)
    (step : ∀ d ∈ xs, ∀ P : Bool → Prop, P (t d) → gt ((clr vs Δ).set i (.dat d)) P) (hK : K (xs.filter t)) : gLcX cb m vs xs (gTo i) gt (gVar i) Δ K := by
  refine ⟨hv, hm, fun j ds => ds = (xs.take j).filter t, rfl, fun j d ds hd hS => ?_, fun ds hS => ?_⟩
  · refine step d (List.mem_of_getElem? hd) _ ?_
    have e : (xs.take (j + 1)).filter t = (xs.take j).filter t ++ (if t d = true then [d] else []) := by
      rw [List.take_add_one, hd, Option.toList_some, List.filter_append]
      congr 1
      simp only [List.filter_cons, List.filter_nil]
    refine ⟨fun z => ?_, fun z => ?_⟩
    · unfold gVar
      rw [hn d]
      show ds ++ [d] = (xs.take (j + 1)).filter t
      rw [e, if_pos z, hS]
    · show ds = (xs.take (j + 1)).filter t
      rw [e, if_neg (by rw [z]; decide), hS, List.append_nil]
  · rw [hS, List.take_length]
    exact hK
theorem cnt_le : ∀ (n c : Nat), (List.range n).countP (fun j => decide (j ≤ c)) = min n (c + 1)
  | 0, c => by simp
  | n + 1, c => by
    rw [List.range_succ, List.countP_append, cnt_le n c]
    by_cases h : n ≤ c
    · simp [List.countP_cons, h]
      omega
    · simp [List.countP_cons, h]
      omega
theorem cnt_ge : ∀ (n c : Nat), (List.range n).countP (fun j => decide (c ≤ j)) = n - min n c
  | 0, c => by simp
  | n + 1, c => by
    rw [List.range_succ, List.countP_append, cnt_ge n c]
    by_cases h : c ≤ n
    · simp [List.countP_cons, h]
      omega
    · simp [List.countP_cons, h]
      omega
/-! ### across -/
theorem rd_cross {x y : Int} : x * (rd x y).2 = y * (rd x y).1 := by
  have gx : ((Nat.gcd x.natAbs y.natAbs : Nat) : Int) ∣ x := Int.natAbs_dvd_natAbs.mp (by rw [Int.natAbs_natCast]; exact Nat.gcd_dvd_left _ _)
  have gy : ((Nat.gcd x.natAbs y.natAbs : Nat) : Int) ∣ y := Int.natAbs_dvd_natAbs.mp (by rw [Int.natAbs_natCast]; exact Nat.gcd_dvd_right _ _)
  show x * (y / ((Nat.gcd x.natAbs y.natAbs : Nat) : Int)) = y * (x / ((Nat.gcd x.natAbs y.natAbs : Nat) : Int))
  generalize ((Nat.gcd x.natAbs y.natAbs : Nat) : Int) = g at *
  obtain ⟨X, rfl⟩ := gx
  obtain ⟨Y, rfl⟩ := gy
  by_cases h : g = 0
  · subst h
    simp
  · rw [Int.mul_ediv_cancel_left _ h, Int.mul_ediv_cancel_left _ h]
    grind
theorem rd_floor {x y : Int} (hy : 1 ≤ y) : (rd x y).1 / (rd x y).2 = x / y ∧ (0 - (rd x y).1) / (rd x y).2 = (0 - x) / y := by
  have g1 := rd_pos (x := x) hy
  have gx : ((Nat.gcd x.natAbs y.natAbs : Nat) : Int) ∣ x := Int.natAbs_dvd_natAbs.mp (by rw [Int.natAbs_natCast]; exact Nat.gcd_dvd_left _ _)
  have gy : ((Nat.gcd x.natAbs y.natAbs : Nat) : Int) ∣ y := Int.natAbs_dvd_natAbs.mp (by rw [Int.natAbs_natCast]; exact Nat.gcd_dvd_right _ _)
  show (x / ((Nat.gcd x.natAbs y.natAbs : Nat) : Int)) / (y / ((Nat.gcd x.natAbs y.natAbs : Nat) : Int)) = x / y ∧ (0 - x / ((Nat.gcd x.natAbs y.natAbs : Nat) : Int)) / (y / ((Nat.gcd x.natAbs y.natAbs : Nat) : Int)) = (0 - x) / y
  generalize ((Nat.gcd x.natAbs y.natAbs : Nat) : Int) = g at *
  obtain ⟨X, rfl⟩ := gx
  obtain ⟨Y, rfl⟩ := gy
  rw [Int.mul_ediv_cancel_left _ (by omega), Int.mul_ediv_cancel_left _ (by omega), Int.mul_ediv_mul_of_pos _ _ (by omega)]
  refine ⟨rfl, ?_⟩
  rw [show 0 - g * X = g * (0 - X) by grind, Int.mul_ediv_mul_of_pos _ _ (by omega)]
section
variable {z : Q2} {k m i : Int}
theorem val_cross (d : Dr z k m) (i0 : 0 ≤ i) (i1 : i < 12) : (st z).2 * (valF z k i).1 = (k + i) * (st z).1 * (valF z k i).2 := by
  have fz := d.fz
  have sz := d.sz
  have iz : Fz 4 (i, 1) := int_fz (Sz.of_range i0 (by omega)) (by decide)
  have M := mul_fz iz sz
  have e1 : (k * (st z).1) * (ft z k).2 = (1 * (st z).2) * (ft z k).1 := rd_cross
  have e2 : (i * (st z).1) * (mulF (i, 1) (st z)).2 = (1 * (st z).2) * (mulF (i, 1) (st z)).1 := rd_cross
  have e3 : ((ft z k).1 * (mulF (i, 1) (st z)).2 + (mulF (i, 1) (st z)).1 * (ft z k).2) * (valF z k i).2 = ((ft z k).2 * (mulF (i, 1) (st z)).2) * (valF z k i).1 := rd_cross
  have q1 := fz.q1
  have w1 := M.q1
  have pos := Int.mul_pos (show 0 < (ft z k).2 by omega) (show 0 < (mulF (i, 1) (st z)).2 by omega)
  generalize valF z k i = V at *
  generalize mulF (i, 1) (st z) = U at *
  generalize ft z k = F at *
  generalize st z = S at *
  refine Int.eq_of_mul_eq_mul_left (show F.2 * U.2 ≠ 0 by omega) ?_
  have g1 : F.2 * U.2 * (S.2 * V.1) = S.2 * ((F.2 * U.2) * V.1) := by grind
  rw [g1, ← e3]
  have g2 : S.2 * ((F.1 * U.2 + U.1 * F.2) * V.2) = (1 * S.2 * F.1) * U.2 * V.2 + (1 * S.2 * U.1) * F.2 * V.2 := by grind
  rw [g2, ← e1, ← e2]
  grind
/-- where a number lies, in steps -/
theorem lt_val (d : Dr z k m) (i0 : 0 ≤ i) (i1 : i < 12) {e : Q2} (he : 1 ≤ e.2) : ltF e (valF z k i) = decide (e.1 * (st z).2 < (k + i) * ((st z).1 * e.2)) ∧ ltF (valF z k i) e = decide ((k + i) * ((st z).1 * e.2) < e.1 * (st z).2) := by
  have c := val_cross d i0 i1
  have v1 := (d.vz i0 i1).q1
  have s1 := d.sz.q1
  obtain ⟨a1, _⟩ := stepsA z d.z
  generalize valF z k i = V at *
  generalize st z = S at *
  have cancel : ∀ {x y : Int}, x * (S.2 * V.2) < y * (S.2 * V.2) ↔ x < y := fun {x y} => by
    have pos := Int.mul_pos (show 0 < S.2 by omega) (show 0 < V.2 by omega)
    exact ⟨fun h => Int.lt_of_mul_lt_mul_right h (by omega), fun h => Int.mul_lt_mul_of_pos_right h pos⟩
  have f1 : e.1 * V.2 < V.1 * e.2 ↔ e.1 * S.2 < (k + i) * (S.1 * e.2) := by
    have p2 : 0 < S.2 := by omega
    have p3 : 0 < V.2 := by omega
    have h1 : e.1 * V.2 < V.1 * e.2 ↔ (e.1 * V.2) * S.2 < (V.1 * e.2) * S.2 := ⟨fun h => Int.mul_lt_mul_of_pos_right h p2, fun h => Int.lt_of_mul_lt_mul_right h (by omega)⟩
    have h2 : e.1 * S.2 < (k + i) * (S.1 * e.2) ↔ (e.1 * S.2) * V.2 < ((k + i) * (S.1 * e.2)) * V.2 := ⟨fun h => Int.mul_lt_mul_of_pos_right h p3, fun h => Int.lt_of_mul_lt_mul_right h (by omega)⟩
    have h3 : (V.1 * e.2) * S.2 = ((k + i) * (S.1 * e.2)) * V.2 := by
      have : (V.1 * e.2) * S.2 = (S.2 * V.1) * e.2 := by grind
      rw [this, c]
      grind
    have h4 : (e.1 * V.2) * S.2 = (e.1 * S.2) * V.2 := by grind
    rw [h1, h2, h3, h4]
  have f2 : V.1 * e.2 < e.1 * V.2 ↔ (k + i) * (S.1 * e.2) < e.1 * S.2 := by
    have p2 : 0 < S.2 := by omega
    have p3 : 0 < V.2 := by omega
    have h1 : V.1 * e.2 < e.1 * V.2 ↔ (V.1 * e.2) * S.2 < (e.1 * V.2) * S.2 := ⟨fun h => Int.mul_lt_mul_of_pos_right h p2, fun h => Int.lt_of_mul_lt_mul_right h (by omega)⟩
    have h2 : (k + i) * (S.1 * e.2) < e.1 * S.2 ↔ ((k + i) * (S.1 * e.2)) * V.2 < (e.1 * S.2) * V.2 := ⟨fun h => Int.mul_lt_mul_of_pos_right h p3, fun h => Int.lt_of_mul_lt_mul_right h (by omega)⟩
    have h3 : (V.1 * e.2) * S.2 = ((k + i) * (S.1 * e.2)) * V.2 := by
      have : (V.1 * e.2) * S.2 = (S.2 * V.1) * e.2 := by grind
      rw [this, c]
      grind
    have h4 : (e.1 * V.2) * S.2 = (e.1 * S.2) * V.2 := by grind
    rw [h1, h2, h3, h4]
  exact ⟨decide_eq_decide.mpr f1, decide_eq_decide.mpr f2⟩
end
end K33
set_option exponentiation.threshold 9000
/-! K33s: steps in vain, both ways. -/
namespace K33
open PySem DL
variable {K : D → Prop} {E : Value → D → Prop}
abbrev ax (z e : Q2) : Int := e.1 * (st z).2
abbrev ay (z e : Q2) : Int := (st z).1 * e.2
def flI (z e : Q2) : Int := ax z e / ay z e
def ceI (z e : Q2) : Int := 0 - (0 - ax z e) / ay z e
section
variable {z e e0 e1 : Q2} {k m : Int}
theorem ay_pos (d : Dr z k m) (he : 1 ≤ e.2) : 1 ≤ ay z e := by
  obtain ⟨a1, _⟩ := stepsA z d.z
  have := Int.mul_pos (show 0 < (st z).1 by omega) (show 0 < e.2 by omega)
  show 1 ≤ (st z).1 * e.2
  omega
theorem fl_iff (d : Dr z k m) (he : 1 ≤ e.2) {c : Int} : c ≤ flI z e ↔ c * ay z e ≤ ax z e := by
  have := ay_pos d he
  exact Int.le_ediv_iff_mul_le (by omega)
theorem ce_iff (d : Dr z k m) (he : 1 ≤ e.2) {c : Int} : ceI z e ≤ c ↔ ax z e ≤ c * ay z e := by
  have p := ay_pos d he
  have h : -c ≤ (0 - ax z e) / ay z e ↔ -c * ay z e ≤ 0 - ax z e := Int.le_ediv_iff_mul_le (by omega)
  have e2 : -c * ay z e = -(c * ay z e) := Int.neg_mul _ _
  unfold ceI
  rw [e2] at h
  constructor
  · intro q
    have := h.mp (by omega)
    omega
  · intro q
    have := h.mpr (by omega)
    omega
theorem val0 (d : Dr z k m) : valF z k 0 = ft z k := (firstsA z d.z k d.k).2.2.2.2.2
/-- the ends lie within the ticks -/
structure Cov (z : Q2) (k m : Int) (e0 e1 : Q2) : Prop where
  a : ltF e0 (ft z k) = false
  b : ltF (valF z k (m - 1)) e1 = false
structure Ends (e0 e1 : Q2) : Prop where
  z0 : Fz 80 e0
  z1 : Fz 80 e1
  t0 : toldB (fr e0) = true
  t1 : toldB (fr e1) = true
  le : ltF e1 e0 = false
theorem ends_xy (d : Dr z k m) (N : Ends e0 e1) : ax z e0 * ay z e1 ≤ ax z e1 * ay z e0 := by
  obtain ⟨a1, _⟩ := stepsA z d.z
  have s1 := d.sz.q1
  have h : ¬ e1.1 * e0.2 < e0.1 * e1.2 := of_decide_eq_false N.le
  have h : e0.1 * e1.2 ≤ e1.1 * e0.2 := by omega
  have p := Int.mul_pos (show 0 < (st z).1 by omega) (show 0 < (st z).2 by omega)
  have := Int.mul_le_mul_of_nonneg_right h (show 0 ≤ (st z).1 * (st z).2 by omega)
  show e0.1 * (st z).2 * ((st z).1 * e1.2) ≤ e1.1 * (st z).2 * ((st z).1 * e0.2)
  have g1 : e0.1 * (st z).2 * ((st z).1 * e1.2) = e0.1 * e1.2 * ((st z).1 * (st z).2) := by grind
  have g2 : e1.1 * (st z).2 * ((st z).1 * e0.2) = e1.1 * e0.2 * ((st z).1 * (st z).2) := by grind
  rw [g1, g2]
  exact this
theorem cov_bounds (d : Dr z k m) (N : Ends e0 e1) (C : Cov z k m e0 e1) : k ≤ flI z e0 ∧ ceI z e1 ≤ k + (m - 1) ∧ flI z e0 ≤ k + (m - 1) ∧ k ≤ ceI z e1 := by
  have m0 := d.m0
  have m1 := d.m1
  have q0 := N.z0.q1
  have q1 := N.z1.q1
  have y0 := ay_pos d q0
  have y1 := ay_pos d q1
  have h1 : k * ay z e0 ≤ ax z e0 := by
    have := C.a
    rw [← val0 d, (lt_val d (Int.le_refl 0) (by decide) q0).1, Int.add_zero] at this
    have := of_decide_eq_false this
    show k * ((st z).1 * e0.2) ≤ e0.1 * (st z).2
    omega
  have h2 : ax z e1 ≤ (k + (m - 1)) * ay z e1 := by
    have := C.b
    rw [(lt_val d (i := m - 1) (by omega) (by omega) q1).2] at this
    have := of_decide_eq_false this
    show e1.1 * (st z).2 ≤ (k + (m - 1)) * ((st z).1 * e1.2)
    omega
  have h3 := ends_xy d N
  have a1 : k ≤ flI z e0 := (fl_iff d q0).mpr h1
  have a2 : ceI z e1 ≤ k + (m - 1) := (ce_iff d q1).mpr h2
  have f := (fl_iff d q0).mp (Int.le_refl (flI z e0))
  have g := (ce_iff d q1).mp (Int.le_refl (ceI z e1))
  generalize ax z e0 = X0 at *
  generalize ax z e1 = X1 at *
  generalize ay z e0 = Y0 at *
  generalize ay z e1 = Y1 at *
  have pp := Int.mul_pos (show 0 < Y0 by omega) (show 0 < Y1 by omega)
  refine ⟨a1, a2, ?_, ?_⟩
  · have l1 := Int.mul_le_mul_of_nonneg_right f (show 0 ≤ Y1 by omega)
    have l2 := Int.mul_le_mul_of_nonneg_right h2 (show 0 ≤ Y0 by omega)
    have l3 : flI z e0 * (Y0 * Y1) ≤ (k + (m - 1)) * (Y0 * Y1) := by
      have g1 : flI z e0 * (Y0 * Y1) = flI z e0 * Y0 * Y1 := by grind
      have g2 : (k + (m - 1)) * (Y0 * Y1) = (k + (m - 1)) * Y1 * Y0 := by grind
      rw [g1, g2]
      omega
    exact Int.le_of_mul_le_mul_right l3 pp
  · have l1 := Int.mul_le_mul_of_nonneg_right h1 (show 0 ≤ Y1 by omega)
    have l2 := Int.mul_le_mul_of_nonneg_right g (show 0 ≤ Y0 by omega)
    have l3 : k * (Y0 * Y1) ≤ ceI z e1 * (Y0 * Y1) := by
      have g1 : k * (Y0 * Y1) = k * Y0 * Y1 := by grind
      have g2 : ceI z e1 * (Y0 * Y1) = ceI z e1 * Y1 * Y0 := by grind
      rw [g1, g2]
      omega
    exact Int.le_of_mul_le_mul_right l3 pp
/-! ### the law's count -/
theorem vals_eq (d : Dr z k m) : vals z k m = (List.range m.toNat).map fun j : Nat => fr (valF z k (j : Int)) := by
  unfold vals rangeD
  rw [List.map_map, Int.sub_zero]
  refine List.map_congr_left fun j hj => ?_
  show fr (valF z k (0 + (j : Int))) = _
  rw [Int.zero_add]
def notLow (e : Q2) (d : D) : Bool := match d with
  | .tuple [.int p, .int q] => !ltF e (p, q)
  | _ => false
def notHigh (e : Q2) (d : D) : Bool := match d with
  | .tuple [.int p, .int q] => !ltF (p, q) e
  | _ => false
theorem cut1 (xs : List D) : cutL xs (some 1) none = xs.drop 1 := by
  unfold cutL
  cases xs with
  | nil => rfl
  | cons a l =>
    have e1 : HT.sIx (a :: l).length 0 (some 1) = 1 := by
      unfold HT.sIx
      simp
    have e2 : HT.sIx (a :: l).length (a :: l).length none = (a :: l).length := rfl
    rw [e1, e2, List.length_cons, Nat.add_sub_cancel, List.drop_succ_cons, List.drop_zero, List.take_length]
theorem cutm (xs : List D) : cutL xs none (some (-1)) = xs.take (xs.length - 1) := by
  unfold cutL
  have e1 : HT.sIx xs.length 0 none = 0 := rfl
  have e2 : HT.sIx xs.length xs.length (some (-1)) = xs.length - 1 := by
    unfold HT.sIx
    simp
    omega
  rw [e1, e2, List.drop_zero, Nat.sub_zero]
theorem count1 (d : Dr z k m) (N : Ends e0 e1) (C : Cov z k m e0 e1) : ((((vals z k m).drop 1).filter (notLow e0)).length : Int) = flI z e0 - k := by
  obtain ⟨b1, b2, b3, b4⟩ := cov_bounds d N C
  have m0 := d.m0
  have m1 := d.m1
  obtain ⟨n, hn⟩ : ∃ n : Nat, m.toNat = n + 1 := ⟨m.toNat - 1, by omega⟩
  have tj : ∀ j ∈ List.range m.toNat, notLow e0 (fr (valF z k (j : Int))) = decide (j ≤ (flI z e0 - k).toNat) := fun j hj => by
    have hj := List.mem_range.mp hj
    show (!ltF e0 (valF z k (j : Int))) = _
    rw [(lt_val d (i := (j : Int)) (by omega) (by omega) N.z0.q1).1]
    have i : k + (j : Int) ≤ flI z e0 ↔ (k + (j : Int)) * ((st z).1 * e0.2) ≤ e0.1 * (st z).2 := fl_iff d N.z0.q1 (c := k + j)
    by_cases h : k + (j : Int) ≤ flI z e0
    · have := i.mp h
      rw [decide_eq_false (show ¬ e0.1 * (st z).2 < (k + (j : Int)) * ((st z).1 * e0.2) by omega), decide_eq_true (by omega)]
      rfl
    · have := fun q => h (i.mpr q)
      rw [decide_eq_true (show e0.1 * (st z).2 < (k + (j : Int)) * ((st z).1 * e0.2) by omega), decide_eq_false (by omega)]
      rfl
  have total : (List.range m.toNat).countP (fun j : Nat => notLow e0 (fr (valF z k (j : Int)))) = min m.toNat ((flI z e0 - k).toNat + 1) := by
    rw [← cnt_le]
    exact List.countP_congr fun j hj => by rw [tj j hj]
  have e : vals z k m = fr (valF z k ((0 : Nat) : Int)) :: (vals z k m).drop 1 := by
    rw [vals_eq d, hn, List.range_succ_eq_map]
    rfl
  have c : (vals z k m).countP (notLow e0) = min m.toNat ((flI z e0 - k).toNat + 1) := by
    rw [vals_eq d, List.countP_map]
    exact total
  rw [e, List.countP_cons] at c
  have z0 := tj 0 (List.mem_range.mpr (by omega))
  rw [z0, decide_eq_true (by omega), if_pos rfl, List.countP_eq_length_filter] at c
  omega
theorem count2 (d : Dr z k m) (N : Ends e0 e1) (C : Cov z k m e0 e1) : ((((vals z k m).take ((vals z k m).length - 1)).filter (notHigh e1)).length : Int) = k + (m - 1) - ceI z e1 := by
  obtain ⟨b1, b2, b3, b4⟩ := cov_bounds d N C
  have m0 := d.m0
  have m1 := d.m1
  have tj : ∀ j ∈ List.range (m.toNat - 1), notHigh e1 (fr (valF z k (j : Int))) = decide ((ceI z e1 - k).toNat ≤ j) := fun j hj => by
    have hj := List.mem_range.mp hj
    show (!ltF (valF z k (j : Int)) e1) = _
    rw [(lt_val d (i := (j : Int)) (by omega) (by omega) N.z1.q1).2]
    have i : ceI z e1 ≤ k + (j : Int) ↔ e1.1 * (st z).2 ≤ (k + (j : Int)) * ((st z).1 * e1.2) := ce_iff d N.z1.q1 (c := k + j)
    by_cases h : ceI z e1 ≤ k + (j : Int)
    · have := i.mp h
      rw [decide_eq_false (show ¬ (k + (j : Int)) * ((st z).1 * e1.2) < e1.1 * (st z).2 by omega), decide_eq_true (by omega)]
      rfl
    · have := fun q => h (i.mpr q)
      rw [decide_eq_true (show (k + (j : Int)) * ((st z).1 * e1.2) < e1.1 * (st z).2 by omega), decide_eq_false (by omega)]
      rfl
  have e : (vals z k m).take ((vals z k m).length - 1) = (List.range (m.toNat - 1)).map fun j : Nat => fr (valF z k (j : Int)) := by
    rw [vals_eq d, List.length_map, List.length_range, ← List.map_take, List.take_range, Nat.min_eq_left (by omega)]
  have total : (List.range (m.toNat - 1)).countP (fun j : Nat => notHigh e1 (fr (valF z k (j : Int)))) = (m.toNat - 1) - min (m.toNat - 1) (ceI z e1 - k).toNat := by
    rw [← cnt_ge]
    exact List.countP_congr fun j hj => by rw [tj j hj]
  rw [e, ← List.countP_eq_length_filter, List.countP_map]
  have total : List.countP (notHigh e1 ∘ fun j : Nat => fr (valF z k (j : Int))) (List.range (m.toNat - 1)) = (m.toNat - 1) - min (m.toNat - 1) (ceI z e1 - k).toNat := total
  rw [total]
  omega
/-! ### the program's -/
theorem floor_ok {q : Q2} (hq : Fz 200 q) (h : K (.int (q.1 / q.2))) : F_floor_of [.dat (fr q)] K E := by
  unfold F_floor_of specOf G_floor_of N_floor_of
  exact ⟨rfl, _, rfl, _, rfl, cdiv_of (by have := hq.q1; omega) hq.q (by decide), h⟩
theorem ceiling_ok {q : Q2} (hq : Fz 200 q) (h : K (.int (0 - (0 - q.1) / q.2))) : F_ceiling_of [.dat (fr q)] K E := by
  unfold F_ceiling_of specOf G_ceiling_of N_ceiling_of
  refine ⟨rfl, _, rfl, _, rfl, slr rfl, floor_ok (q := (0 - q.1, q.2)) ⟨hq.q1, ?_, hq.q⟩ h⟩
  show Sz 200 (0 - q.1)
  rw [Int.zero_sub]
  exact hq.p.neg
theorem div_fz (d : Dr z k m) (he : Fz 80 e) : Fz 200 (divF e (st z)) := by
  obtain ⟨a1, _⟩ := stepsA z d.z
  have := Int.mul_pos (show 0 < e.2 by have := he.q1; omega) (show 0 < (st z).1 by omega)
  exact rd_fz (by omega) ((he.p.mul d.sz.q).le (by decide)) ((he.q.mul d.sz.p).le (by decide))
theorem div_fl (d : Dr z k m) (he : 1 ≤ e.2) : (divF e (st z)).1 / (divF e (st z)).2 = flI z e ∧ 0 - (0 - (divF e (st z)).1) / (divF e (st z)).2 = ceI z e := by
  have p := ay_pos d he
  have p : 1 ≤ (st z).1 * e.2 := p
  rw [Int.mul_comm] at p
  obtain ⟨h1, h2⟩ := rd_floor (x := e.1 * (st z).2) p
  unfold flI ceI ax ay
  rw [Int.mul_comm (st z).1]
  refine ⟨h1, ?_⟩
  show 0 - (0 - (rd (e.1 * (st z).2) (e.2 * (st z).1)).1) / (rd (e.1 * (st z).2) (e.2 * (st z).1)).2 = _
  rw [h2]
theorem around_ok (d : Dr z k m) (N : Ends e0 e1) (h : K (.tuple [.int (flI z e0), .int (ceI z e1)])) : F_steps_around [.dat (fr (st z)), .dat (.tuple [fr e0, fr e1])] K E := by
  obtain ⟨a1, _⟩ := stepsA z d.z
  unfold F_steps_around specOf G_steps_around N_steps_around
  refine ⟨rfl, _, rfl, quotient_ok (N.z0.le (by decide)) (d.sz.le (by decide)) a1 (floor_ok (div_fz d N.z0) ?_)⟩
  rw [(div_fl d N.z0.q1).1]
  refine ⟨_, rfl, quotient_ok (N.z1.le (by decide)) (d.sz.le (by decide)) a1 (ceiling_ok (div_fz d N.z1) ?_)⟩
  rw [(div_fl d N.z1.q1).2]
  exact ⟨slr rfl, h⟩
theorem inVain_ok (d : Dr z k m) (N : Ends e0 e1) (h : K (.int (m - 1 - (ceI z e1 - flI z e0)))) : F_steps_in_vain [.dat (tkD z k m), .dat (.tuple [fr e0, fr e1])] K E := by
  unfold F_steps_in_vain specOf G_steps_in_vain N_steps_in_vain
  refine ⟨rfl, _, rfl, around_ok d N ⟨rfl, ?_⟩⟩
  show R_steps_in_vain_0 E _ [.dat (tkD z k m), .dat (.tuple [fr e0, fr e1]), .dat (.int (flI z e0)), .dat (.int (ceI z e1))]
  unfold R_steps_in_vain_0
  exact ⟨_, rfl, h⟩
end
end K33
set_option exponentiation.threshold 9000
/-! K33t: what ticks cost. -/
namespace K33
open PySem DL
variable {K : D → Prop} {E : Value → D → Prop}
/-- wishes as they are drawn -/
structure Wi (n w1 w2 w3 w4 : Int) : Prop where
  n0 : 2 ≤ n
  n1 : n ≤ 10
  a0 : 0 ≤ w1
  a1 : w1 ≤ 9
  b0 : 0 ≤ w2
  b1 : w2 ≤ 9
  c0 : 0 ≤ w3
  c1 : w3 ≤ 9
  d0 : 1 ≤ w4
  d1 : w4 ≤ 9
abbrev wiD (n w1 w2 w3 w4 : Int) : D := .tuple [.int n, .int w1, .int w2, .int w3, .int w4]
def idx (g : Int) : Nat := if g = 1 then 0 else if g = 2 then 1 else 2
theorem idx_at : ∀ g ∈ digsL, ([1, 2, 5] : List Int)[idx g]? = some g ∧ (∀ m ∈ List.range (idx g), ([1, 2, 5] : List Int)[m]? ≠ some g) ∧ idx g ≤ 2 := by decide +kernel
def lens (z : Q2) (k m : Int) : List Int := (List.range m.toNat).map fun j : Nat => ((txt (valF z k (j : Int))).length : Int)
def lenOf (d : D) : D := match d with
  | .tuple [.int p, .int q] => .int (txt (p, q)).length
  | _ => .none
structure IsMax (ns : List Int) (M : Int) : Prop where
  mem : M ∈ ns
  le : ∀ y ∈ ns, y ≤ M
theorem IsMax.one {ns : List Int} {M N : Int} (h : IsMax ns M) (k : IsMax ns N) : M = N := by
  have := h.le N k.mem
  have := k.le M h.mem
  omega
def costI (z : Q2) (m : Int) (n w1 w2 w3 w4 v M : Int) : Int := w1 * (idx z.1 : Int) + w2 * (if m - n < 0 then -(m - n) else m - n) + w3 * v + w4 * M
section
variable {z e e0 e1 : Q2} {k m n w1 w2 w3 w4 M : Int}
theorem vals_at (d : Dr z k m) {i : Nat} (h : (i : Int) < m) : (vals z k m)[i]? = some (fr (valF z k i)) := by
  unfold vals rangeD
  rw [List.getElem?_map, List.getElem?_map, List.getElem?_range (by omega)]
  show some (fr (valF z k (0 + (i : Int)))) = _
  rw [Int.zero_add]
theorem vals_len (d : Dr z k m) : (vals z k m).length = m.toNat := by
  unfold vals rangeD
  rw [List.length_map, List.length_map, List.length_range]
  have := d.m0
  omega
theorem vals_last (d : Dr z k m) : L2.atI (vals z k m) (-1) = some (fr (valF z k (m - 1))) := by
  have m0 := d.m0
  have hl := vals_len d
  have hm : (((m - 1).toNat : Nat) : Int) = m - 1 := by omega
  have at_ := vals_at d (i := (m - 1).toNat) (by omega)
  rw [hm] at at_
  obtain ⟨xs, e⟩ : ∃ xs, vals z k m = xs ++ [fr (valF z k (m - 1))] := by
    refine ⟨(vals z k m).take (m - 1).toNat, ?_⟩
    have t := List.take_add_one (l := vals z k m) (i := (m - 1).toNat)
    rw [at_, show (m - 1).toNat + 1 = (vals z k m).length by rw [hl]; omega, List.take_length] at t
    exact t
  rw [e]
  exact L2.atI_last _ _
theorem lens_map (d : Dr z k m) : (vals z k m).map lenOf = (lens z k m).map PyData.int := by
  rw [vals_eq d]
  unfold lens
  rw [List.map_map, List.map_map]
  rfl
theorem lens_pos (d : Dr z k m) : 0 < (lens z k m).length := by
  unfold lens
  rw [List.length_map, List.length_range]
  have := d.m0
  omega
theorem max_le (d : Dr z k m) (h : IsMax (lens z k m) M) : 0 ≤ M ∧ M ≤ 200 := by
  obtain ⟨j, hj, rfl⟩ := List.mem_map.mp h.mem
  have hj := List.mem_range.mp hj
  have v := d.vz (i := (j : Int)) (by omega) (by have := d.m1; omega)
  have v := v.le (show 50 ≤ 60 by decide)
  have t1 := text_len v.p
  have t2 := text_len v.q
  refine ⟨Int.natCast_nonneg _, ?_⟩
  have : (txt (valF z k (j : Int))).length ≤ 125 := by
    unfold txt
    split
    · omega
    · rw [PySem.strLen_append, PySem.strLen_append]
      show _ + 1 + _ ≤ _
      omega
  omega
theorem signs_ok (d : Dr z k m) (h : ∀ M, IsMax (lens z k m) M → K (.int M)) : F_signs_of [.dat (tkD z k m)] K E := by
  unfold F_signs_of specOf G_signs_of N_signs_of
  refine ⟨rfl, valuesOf_ok d (lc_to lenOf rfl (Nat.le_of_eq (Nat.mul_zero _)) (fun x hx P hP => ?_) ?_)⟩
  · obtain ⟨v, rfl, hv⟩ := mem_vals d hx
    exact text_ok (hv.le (by decide)) hP
  · exact ⟨lens z k m, lens_map d, lens_pos d, fun M h1 h2 => h M ⟨h1, h2⟩⟩
theorem cost_sz (d : Dr z k m) (W : Wi n w1 w2 w3 w4) : Sz 5 w1 ∧ Sz 5 w2 ∧ Sz 5 w3 ∧ Sz 5 w4 ∧ Sz 6 (if m - n < 0 then -(m - n) else m - n) := by
  have := W.n0; have := W.n1; have := W.a0; have := W.a1; have := W.b0; have := W.b1; have := W.c0; have := W.c1; have := W.d0; have := W.d1
  have := d.m0; have := d.m1
  refine ⟨Sz.of_range (by omega) (by omega), Sz.of_range (by omega) (by omega), Sz.of_range (by omega) (by omega), Sz.of_range (by omega) (by omega), ?_⟩
  split
  · exact Sz.of_range (by omega) (by omega)
  · exact Sz.of_range (by omega) (by omega)
theorem vain_sz (d : Dr z k m) (N : Ends e0 e1) (C : Cov z k m e0 e1) : 0 ≤ m - 1 - (ceI z e1 - flI z e0) ∧ m - 1 - (ceI z e1 - flI z e0) ≤ 40 := by
  obtain ⟨b1, b2, b3, b4⟩ := cov_bounds d N C
  have := d.m0
  have := d.m1
  exact ⟨by omega, by omega⟩
theorem plain_ok (d : Dr z k m) (W : Wi n w1 w2 w3 w4) {v : Int} (v0 : 0 ≤ v) (v1 : v ≤ 40) (h : K (.int (w1 * (idx z.1 : Int) + w2 * (if m - n < 0 then -(m - n) else m - n) + w3 * v))) : F_plain_cost [.dat (.int z.1), .dat (.int m), .dat (.int v), .dat (wiD n w1 w2 w3 w4)] K E := by
  obtain ⟨s1, s2, s3, s4, s5⟩ := cost_sz d W
  obtain ⟨i1, i2, i3⟩ := idx_at z.1 (stepsA z d.z).2.2.2.2.2.2.2.1
  have si : Sz 5 ((idx z.1 : Nat) : Int) := Sz.of_range (by omega) (by omega)
  have sv : Sz 6 v := Sz.of_range v0 (by omega)
  unfold F_plain_cost specOf G_plain_cost N_plain_cost
  exact ⟨rfl, _, rfl, idx z.1, i1, fun q hq => i2 q (List.mem_range.mpr hq), Sz.mulOk s1 si, _, rfl, _, rfl, Sz.mulOk s2 s5, _, rfl, Sz.mulOk s3 sv, h⟩
theorem cover_ok (d : Dr z k m) (N : Ends e0 e1) (h : K (.bool (!ltF e0 (ft z k) && !ltF (valF z k (m - 1)) e1))) : F_do_cover [.dat (tkD z k m), .dat (fr e0), .dat (fr e1)] K E := by
  have lz := d.vz (i := m - 1) (by have := d.m0; omega) (by have := d.m1; omega)
  unfold F_do_cover specOf G_do_cover N_do_cover
  refine ⟨rfl, _, rfl, isLess_ok (N.z0.le (by decide)) (d.fz.le (by decide)) ?_⟩
  show gIte (!ltF e0 (ft z k)) _ _
  cases e : ltF e0 (ft z k) with
  | true =>
    rw [e] at h
    exact ⟨fun z => (nomatch z), fun _ => h⟩
  | false =>
    rw [e] at h
    exact ⟨fun _ => lastOf_ok d (isLess_ok (lz.le (by decide)) (N.z1.le (by decide)) h), fun z => (nomatch z)⟩
inductive Cost (z : Q2) (k m : Int) (e0 e1 : Q2) (n w1 w2 w3 w4 : Int) : D → Prop
  | no : ¬ Cov z k m e0 e1 → Cost z k m e0 e1 n w1 w2 w3 w4 .none
  | yes {M : Int} : Cov z k m e0 e1 → IsMax (lens z k m) M → Cost z k m e0 e1 n w1 w2 w3 w4 (.int (costI z m n w1 w2 w3 w4 (m - 1 - (ceI z e1 - flI z e0)) M))
theorem cov_dec : (!ltF e0 (ft z k) && !ltF (valF z k (m - 1)) e1) = true ↔ Cov z k m e0 e1 := by
  rw [Bool.and_eq_true, Bool.not_eq_true', Bool.not_eq_true']
  exact ⟨fun h => ⟨h.1, h.2⟩, fun h => ⟨h.a, h.b⟩⟩
theorem whole_ok (d : Dr z k m) (N : Ends e0 e1) (C : Cov z k m e0 e1) (W : Wi n w1 w2 w3 w4) (h : ∀ M, IsMax (lens z k m) M → K (.int (costI z m n w1 w2 w3 w4 (m - 1 - (ceI z e1 - flI z e0)) M))) : F_whole_cost [.dat (tkD z k m), .dat (.tuple [fr e0, fr e1]), .dat (wiD n w1 w2 w3 w4)] K E := by
  obtain ⟨s1, s2, s3, s4, s5⟩ := cost_sz d W
  obtain ⟨a1, a2, a3, a4, a5, a6, _⟩ := stepsA z d.z
  obtain ⟨v0, v1⟩ := vain_sz d N C
  have sz := d.sz
  unfold F_whole_cost specOf G_whole_cost N_whole_cost
  refine ⟨rfl, _, rfl, parts_ok (f := 40) a2 (ten40 (sz.p.le (by decide))) (ten40 (sz.q.le (by decide))) ?_⟩
  rw [a6]
  refine ⟨_, rfl, ?_⟩
  show R_whole_cost_0 E _ [.dat (tkD z k m), .dat (.tuple [fr e0, fr e1]), .dat (wiD n w1 w2 w3 w4), .dat (.int z.1)]
  unfold R_whole_cost_0
  refine ⟨_, rfl, inVain_ok d N (plain_ok d W v0 v1 ⟨_, rfl, signs_ok d fun M hM => ⟨?_, h M hM⟩⟩)⟩
  obtain ⟨m0, m1⟩ := max_le d hM
  exact Sz.mulOk s4 (Sz.of_range (b := 10) m0 (by omega))
/-! ### the law's own -/
theorem lawCost_ok (d : Dr z k m) (N : Ends e0 e1) (W : Wi n w1 w2 w3 w4) (h : ∀ v, Cost z k m e0 e1 n w1 w2 w3 w4 v → K v) : F__law_cost [.dat (tkD z k m), .dat (.tuple [fr e0, fr e1]), .dat (wiD n w1 w2 w3 w4)] K E := by
  obtain ⟨s1, s2, s3, s4, s5⟩ := cost_sz d W
  obtain ⟨a1, a2, a3, a4, a5, a6, a7, a8, a9⟩ := stepsA z d.z
  have sz := d.sz
  have lz := d.vz (i := m - 1) (by have := d.m0; omega) (by have := d.m1; omega)
  have m0 := d.m0
  have m1 := d.m1
  unfold F__law_cost specOf G__law_cost N__law_cost
  refine ⟨rfl, rfl, ?_⟩
  show R__law_cost_5 E (EK K) [.dat (tkD z k m), .dat (.tuple [fr e0, fr e1]), .dat (wiD n w1 w2 w3 w4), .dat (fr (ft z k)), .dat (fr (st z)), .dat (.int m), .un, .un, .un, .un]
  unfold R__law_cost_5
  refine lawValues_ok d ?_
  show R__law_cost_4 E (EK K) [.dat (tkD z k m), .dat (.tuple [fr e0, fr e1]), .dat (wiD n w1 w2 w3 w4), .dat (fr (ft z k)), .dat (fr (st z)), .dat (.int m), .dat (.list (vals z k m)), .un, .un, .un]
  unfold R__law_cost_4
  refine ⟨_, rfl, lawLess_ok (N.z0.le (by decide)) (d.fz.le (by decide)) ⟨fun q => ?_, fun q => ⟨_, vals_last d, _, rfl, lawLess_ok (lz.le (by decide)) (N.z1.le (by decide)) ⟨fun q2 => ?_, fun q2 => nx_of ?_⟩⟩⟩⟩
  · exact ⟨fun _ => h _ (.no fun C => by rw [C.a] at q; cases q), fun z => (nomatch z)⟩
  · exact h _ (.no fun C => by rw [C.b] at q2; cases q2)
  have C : Cov z k m e0 e1 := ⟨q, q2⟩
  obtain ⟨v0, v1⟩ := vain_sz d N C
  have n1 := count1 d N C
  have n2 := count2 d N C
  unfold R__law_cost_3
  refine lc_if (notLow e0) rfl (Nat.le_of_eq (Nat.mul_zero _)) (fun _ => rfl) (fun x hx P hP => ?_) ?_
  · rw [cut1] at hx
    obtain ⟨v, rfl, hv⟩ := mem_vals d (List.mem_of_mem_drop hx)
    exact ⟨_, rfl, lawLess_ok (N.z0.le (by decide)) (hv.le (by decide)) hP⟩
  rw [cut1]
  show R__law_cost_2 E (EK K) [.dat (tkD z k m), .dat (.tuple [fr e0, fr e1]), .dat (wiD n w1 w2 w3 w4), .dat (fr (ft z k)), .dat (fr (st z)), .dat (.int m), .dat (.list (vals z k m)), .dat (.int ((((vals z k m).drop 1).filter (notLow e0)).length : Int)), .un, .un]
  rw [n1]
  unfold R__law_cost_2
  refine lc_if (notHigh e1) rfl (Nat.le_of_eq (Nat.mul_zero _)) (fun _ => rfl) (fun x hx P hP => ?_) ?_
  · have hx : x ∈ cutL (vals z k m) none (some (-1)) := hx
    rw [cutm] at hx
    obtain ⟨v, rfl, hv⟩ := mem_vals d (List.mem_of_mem_take hx)
    exact ⟨_, rfl, lawLess_ok (hv.le (by decide)) (N.z1.le (by decide)) hP⟩
  show R__law_cost_1 E (EK K) [.dat (tkD z k m), .dat (.tuple [fr e0, fr e1]), .dat (wiD n w1 w2 w3 w4), .dat (fr (ft z k)), .dat (fr (st z)), .dat (.int m), .dat (.list (vals z k m)), .dat (.int (flI z e0 - k + (((cutL (vals z k m) none (some (-1))).filter (notHigh e1)).length : Int))), .un, .un]
  rw [cutm, n2, show flI z e0 - k + (k + (m - 1) - ceI z e1) = m - 1 - (ceI z e1 - flI z e0) by omega]
  obtain ⟨i1, i2, i3⟩ := idx_at z.1 a8
  have si : Sz 5 ((idx z.1 : Nat) : Int) := Sz.of_range (by omega) (by omega)
  unfold R__law_cost_1
  refine ⟨_, rfl, slr rfl, rfl, lawParts_ok (sz.le (by decide)) (fun w => absurd a1 (by omega)) (fun _ g w hg hw e => ?_) fun _ no => ?_⟩
  · have e2 := stepsB z d.z w (by unfold nearL; simp only [List.mem_cons, List.not_mem_nil, or_false]; exact hw) g (by unfold digsL; simp only [List.mem_cons, List.not_mem_nil, or_false]; exact hg) e
    have eg : g = z.1 := by rw [← e2]
    subst eg
    refine ⟨_, rfl, [1, 2, 5], idx z.1, rfl, i1, fun q hq => i2 q (List.mem_range.mpr hq), Sz.mulOk s1 si, _, rfl, _, rfl, Sz.mulOk s2 s5, ?_⟩
    show R__law_cost_0 E (EK K) [.dat (tkD z k m), .dat (.tuple [fr e0, fr e1]), .dat (wiD n w1 w2 w3 w4), .dat (fr (ft z k)), .dat (fr (st z)), .dat (.int m), .dat (.list (vals z k m)), .dat (.int (m - 1 - (ceI z e1 - flI z e0))), .dat (.int (w1 * (idx z.1 : Int) + w2 * (if m - n < 0 then -(m - n) else m - n))), .un]
    unfold R__law_cost_0
    refine ⟨_, rfl, Sz.mulOk s3 (Sz.of_range (b := 6) v0 (by omega)), _, rfl, ?_⟩
    refine lc_to lenOf rfl (Nat.le_of_eq (Nat.mul_zero _)) (fun x hx P hP => ?_) ?_
    · obtain ⟨v, rfl, hv⟩ := mem_vals d hx
      exact lawText_ok (hv.le (by decide)) hP
    · refine ⟨lens z k m, lens_map d, lens_pos d, fun M h1 h2 => ?_⟩
      have hM : IsMax (lens z k m) M := ⟨h1, h2⟩
      obtain ⟨m0, m1⟩ := max_le d hM
      exact ⟨Sz.mulOk s4 (Sz.of_range (b := 10) m0 (by omega)), h _ (.yes C hM)⟩
  · unfold nearL at a7
    unfold digsL at a8
    simp only [List.mem_cons, List.not_mem_nil, or_false] at a7 a8
    exact absurd rfl (no z.1 z.2 a8 a7)
theorem Cost.one {v u : D} (h : Cost z k m e0 e1 n w1 w2 w3 w4 v) (q : Cost z k m e0 e1 n w1 w2 w3 w4 u) : v = u := by
  cases h with
  | no c =>
    cases q with
    | no _ => rfl
    | yes c2 _ => exact absurd c2 c
  | yes c hM =>
    cases q with
    | no c2 => exact absurd c c2
    | yes _ hN => rw [hM.one hN]
/-! ### checks -/
theorem checkEnds_ok (N : Ends e0 e1) (h : K .none) : F_check_ends [.dat (.tuple [fr e0, fr e1])] K E := by
  unfold F_check_ends specOf G_check_ends N_check_ends
  refine ⟨rfl, fun z => (nomatch z), fun _ => ⟨fun z => (nomatch z), fun _ => ?_⟩⟩
  refine lc_to (fun d => .bool (toldB d)) rfl (Nat.le_of_eq (Nat.mul_zero _)) (fun x hx P hP => isTold_ok hP) ⟨[toldB (fr e0), toldB (fr e1)], rfl, ?_⟩
  rw [N.t0, N.t1]
  refine ⟨fun z => (nomatch z), fun _ => nx_of ?_⟩
  unfold R_check_ends_0
  refine ⟨_, rfl, _, rfl, isLess_ok (N.z1.le (by decide)) (N.z0.le (by decide)) ?_⟩
  rw [N.le]
  exact ⟨fun z => (nomatch z), fun _ => h⟩
theorem areWishes_ok (W : Wi n w1 w2 w3 w4) (h : K (.bool true)) : F_are_wishes [.dat (wiD n w1 w2 w3 w4)] K E := by
  have := W.n0; have := W.n1; have := W.a0; have := W.a1; have := W.b0; have := W.b1; have := W.c0; have := W.c1; have := W.d0; have := W.d1
  have bt : ∀ {v lo hi : Int}, lo ≤ v → v ≤ hi → btwB (.int v) lo hi = true := fun {v lo hi} h1 h2 => by
    show (decide (lo ≤ v) && decide (v ≤ hi)) = true
    rw [decide_eq_true h1, decide_eq_true h2]
    rfl
  unfold F_are_wishes specOf G_are_wishes N_are_wishes
  refine ⟨rfl, fun z => (nomatch z), fun _ => ⟨fun z => (nomatch z), fun _ => ⟨_, rfl, between_ok ?_⟩⟩⟩
  rw [bt (by omega) (by omega)]
  refine ⟨fun z => (nomatch z), fun _ => nx_of ?_⟩
  unfold R_are_wishes_0
  refine lc_to (fun d => .bool (btwB d 0 1000000)) rfl (Nat.le_of_eq (Nat.mul_zero _)) (fun x hx P hP => between_ok hP) ⟨[btwB (.int w1) 0 1000000, btwB (.int w2) 0 1000000, btwB (.int w3) 0 1000000, btwB (.int w4) 0 1000000], rfl, ?_⟩
  rw [bt (by omega) (by omega), bt (by omega) (by omega), bt (by omega) (by omega), bt (by omega) (by omega)]
  refine ⟨fun _ => ⟨_, rfl, ?_⟩, fun z => (nomatch z)⟩
  show K (.bool (decide (0 < w4)))
  rw [decide_eq_true (by omega)]
  exact h
theorem ticksCost_ok (d : Dr z k m) (N : Ends e0 e1) (W : Wi n w1 w2 w3 w4) (h : ∀ v, Cost z k m e0 e1 n w1 w2 w3 w4 v → K v) : F_ticks_cost [.dat (tkD z k m), .dat (.tuple [fr e0, fr e1]), .dat (wiD n w1 w2 w3 w4)] K E := by
  unfold F_ticks_cost specOf G_ticks_cost N_ticks_cost
  refine ⟨rfl, checkTicks_ok d ?_⟩
  show R_ticks_cost_2 E (EK K) [.dat (tkD z k m), .dat (.tuple [fr e0, fr e1]), .dat (wiD n w1 w2 w3 w4)]
  unfold R_ticks_cost_2
  refine checkEnds_ok N ?_
  show R_ticks_cost_1 E (EK K) [.dat (tkD z k m), .dat (.tuple [fr e0, fr e1]), .dat (wiD n w1 w2 w3 w4)]
  unfold R_ticks_cost_1 F_check_wishes specOf G_check_wishes N_check_wishes
  refine ⟨rfl, areWishes_ok W ⟨fun z => (nomatch z), fun _ => ?_⟩⟩
  show R_ticks_cost_0 E (EK K) [.dat (tkD z k m), .dat (.tuple [fr e0, fr e1]), .dat (wiD n w1 w2 w3 w4)]
  unfold R_ticks_cost_0
  refine ⟨_, rfl, _, rfl, cover_ok d N ?_⟩
  cases e : (!ltF e0 (ft z k) && !ltF (valF z k (m - 1)) e1) with
  | true =>
    have C := cov_dec.mp e
    exact ⟨fun _ => whole_ok d N C W fun M hM => h _ (.yes C hM), fun z => (nomatch z)⟩
  | false =>
    exact ⟨fun z => (nomatch z), fun _ => h _ (.no fun C => by rw [cov_dec.mpr C] at e; cases e)⟩
/-! ### the whole domain -/
theorem whole_ends (d : Dr z k m) : Ends (ft z k) (valF z k (m - 1)) ∧ Cov z k m (ft z k) (valF z k (m - 1)) ∧ m - 1 - (ceI z (valF z k (m - 1)) - flI z (ft z k)) = 0 := by
  obtain ⟨b1, b2, b3, b4, b5, b6⟩ := firstsA z d.z k d.k
  obtain ⟨a1, a2, _⟩ := stepsA z d.z
  have m0 := d.m0
  have m1 := d.m1
  have lz := d.vz (i := m - 1) (by omega) (by omega)
  have iz : Fz 4 (m - 1, 1) := int_fz (Sz.of_range (by omega) (by omega)) (by decide)
  have lq := mul_q d.fz (mul_fz iz d.sz)
  have c0 := val_cross d (i := 0) (by decide) (by decide)
  have c1 := val_cross d (i := m - 1) (by omega) (by omega)
  rw [val0 d, Int.add_zero] at c0
  have y0 := ay_pos d b1
  have y1 := ay_pos d lz.q1
  have x0 : ax z (ft z k) = k * ay z (ft z k) := by
    show (ft z k).1 * (st z).2 = k * ((st z).1 * (ft z k).2)
    rw [Int.mul_comm, c0]
    grind
  have x1 : ax z (valF z k (m - 1)) = (k + (m - 1)) * ay z (valF z k (m - 1)) := by
    show (valF z k (m - 1)).1 * (st z).2 = (k + (m - 1)) * ((st z).1 * (valF z k (m - 1)).2)
    rw [Int.mul_comm, c1]
    grind
  have f : flI z (ft z k) = k := by
    unfold flI
    rw [x0]
    exact Int.mul_ediv_cancel _ (by omega)
  have g : ceI z (valF z k (m - 1)) = k + (m - 1) := by
    unfold ceI
    rw [x1, show 0 - (k + (m - 1)) * ay z (valF z k (m - 1)) = (-(k + (m - 1))) * ay z (valF z k (m - 1)) by grind, Int.mul_ediv_cancel _ (by omega)]
    omega
  have self : ∀ {x : Q2}, ltF x x = false := fun {x} => decide_eq_false (by omega)
  refine ⟨⟨d.fz.le (by decide), lz.le (by decide), told_of b1 b4 (d.fz.p.le (by decide)) (d.fz.q.le (by decide)), told_of lz.q1 (rd_g lq) (lz.p.le (by decide)) (lz.q.le (by decide)), ?_⟩, ⟨self, self⟩, by rw [f, g]; omega⟩
  have h : ltF (valF z k (m - 1)) (valF z k 0) = decide ((valF z k (m - 1)).1 * (st z).2 < (k + 0) * ((st z).1 * (valF z k (m - 1)).2)) := (lt_val d (Int.le_refl 0) (by decide) lz.q1).1
  rw [val0 d] at h
  rw [h]
  refine decide_eq_false ?_
  have x1 : (valF z k (m - 1)).1 * (st z).2 = (k + (m - 1)) * ((st z).1 * (valF z k (m - 1)).2) := x1
  have y1 : 1 ≤ (st z).1 * (valF z k (m - 1)).2 := y1
  rw [x1, Int.add_zero]
  have := Int.mul_le_mul_of_nonneg_right (show k ≤ k + (m - 1) by omega) (show 0 ≤ (st z).1 * (valF z k (m - 1)).2 by omega)
  omega
end
end K33
set_option exponentiation.threshold 9000
/-! K33o: the plain law: what is refused. -/
namespace K33
open PySem DL
variable {K : D → Prop} {E : Value → D → Prop}
theorem sho_80 {a : Int} (h : Sz 80 a) : Sho (.int a) 1910 0 := sho_int (h.le (by decide)) (by have := h.log; omega)
theorem sho_fr80 {x : Q2} (hx : Fz 80 x) : Sho (fr x) 39000 1 := (sho_tup (n := 1910) (m := 0) (xs := [.int x.1, .int x.2]) (fun y hy => by
  simp only [List.mem_cons, List.not_mem_nil, or_false] at hy
  rcases hy with rfl | rfl
  · exact sho_80 hx.p
  · exact sho_80 hx.q) (show 2 ≤ 20 by decide)).le (by decide) (by decide)
/-- what may be asked of a value that is refused -/
structure Bd (d : D) : Prop where
  s : Sho d 800000 5
  p : plainD d = true
/-! ### ends -/
inductive NoR : D → Prop
  | kind {d : D} : isTupD d = false → NoR d
  | len {xs : List D} : ¬ (xs.length : Int) = 2 → NoR (.tuple xs)
  | told {a b : D} : (toldB a && toldB b) = false → NoR (.tuple [a, b])
  | order {x y : Q2} : toldB (fr x) = true → toldB (fr y) = true → Fz 80 x → Fz 80 y → ltF y x = true → NoR (.tuple [fr x, fr y])
theorem checkEnds_no {d : D} (t : NoR d) (h : E (.ref C_BadRange) d) : F_check_ends [.dat d] K E := by
  unfold F_check_ends specOf G_check_ends N_check_ends
  refine ⟨rfl, ?_⟩
  cases t with
  | kind e =>
    show gIte (!isTupD d) _ _
    rw [e]
    exact ⟨fun _ => ⟨fun _ => h, fun z => (nomatch z)⟩, fun z => (nomatch z)⟩
  | len e =>
    rename_i xs
    refine ⟨fun z => (nomatch z), fun _ => ?_⟩
    show gIte (!decide ((xs.length : Int) = 2)) _ _
    rw [decide_eq_false e]
    exact ⟨fun _ => ⟨fun _ => h, fun z => (nomatch z)⟩, fun z => (nomatch z)⟩
  | told e =>
    rename_i a b
    refine ⟨fun z => (nomatch z), fun _ => ⟨fun z => (nomatch z), fun _ => ?_⟩⟩
    refine lc_to (fun d => .bool (toldB d)) rfl (Nat.le_of_eq (Nat.mul_zero _)) (fun x hx P hP => isTold_ok hP) ⟨[toldB a, toldB b], rfl, ?_⟩
    have e3 : [toldB a, toldB b].all id = (toldB a && toldB b) := by simp
    rw [e3, e]
    exact ⟨fun _ => h, fun z => (nomatch z)⟩
  | order tx ty zx zy e =>
    rename_i x y
    refine ⟨fun z => (nomatch z), fun _ => ⟨fun z => (nomatch z), fun _ => ?_⟩⟩
    refine lc_to (fun d => .bool (toldB d)) rfl (Nat.le_of_eq (Nat.mul_zero _)) (fun x hx P hP => isTold_ok hP) ⟨[toldB (fr x), toldB (fr y)], rfl, ?_⟩
    rw [tx, ty]
    refine ⟨fun z => (nomatch z), fun _ => nx_of ?_⟩
    unfold R_check_ends_0
    refine ⟨_, rfl, _, rfl, isLess_ok (zy.le (by decide)) (zx.le (by decide)) ?_⟩
    rw [e]
    exact ⟨fun _ => h, fun z => (nomatch z)⟩
/-! ### wishes -/
inductive NoV : D → Prop
  | kind {d : D} : isTupD d = false → NoV d
  | len {xs : List D} : ¬ (xs.length : Int) = 5 → NoV (.tuple xs)
  | first {a b c d e : D} : btwB a 2 10 = false → NoV (.tuple [a, b, c, d, e])
  | rest {a b c d e : D} : (btwB b 0 1000000 && (btwB c 0 1000000 && (btwB d 0 1000000 && btwB e 0 1000000))) = false → NoV (.tuple [a, b, c, d, e])
  | last {a b c d : D} : NoV (.tuple [a, b, c, d, .int 0])
theorem areWishes_no {d : D} (t : NoV d) (h : K (.bool false)) : F_are_wishes [.dat d] K E := by
  have five : ∀ {a b c d e : D}, (btwB a 2 10 = true → R_are_wishes_0 E (EK K) [.dat (.tuple [a, b, c, d, e]), .un]) → F_are_wishes [.dat (.tuple [a, b, c, d, e])] K E := fun {a b c d e} go => by
    unfold F_are_wishes specOf G_are_wishes N_are_wishes
    refine ⟨rfl, fun z => (nomatch z), fun _ => ⟨fun z => (nomatch z), fun _ => ⟨_, rfl, between_ok ?_⟩⟩⟩
    cases ea : btwB a 2 10 with
    | false => exact ⟨fun _ => h, fun z => (nomatch z)⟩
    | true => exact ⟨fun z => (nomatch z), fun _ => nx_of (go ea)⟩
  have rest : ∀ {a b c d e : D}, ((btwB b 0 1000000 && (btwB c 0 1000000 && (btwB d 0 1000000 && btwB e 0 1000000))) = true → gTB (gBin gtD (gBin ixD (gVar 0) (gC (.int 4))) (gC (.int 0))) [.dat (.tuple [a, b, c, d, e]), .un] fun b => K (.bool b)) → R_are_wishes_0 E (EK K) [.dat (.tuple [a, b, c, d, e]), .un] := fun {a b c d e} go => by
    unfold R_are_wishes_0
    refine lc_to (fun d => .bool (btwB d 0 1000000)) rfl (Nat.le_of_eq (Nat.mul_zero _)) (fun x hx P hP => between_ok hP) ⟨[btwB b 0 1000000, btwB c 0 1000000, btwB d 0 1000000, btwB e 0 1000000], rfl, ?_⟩
    have e3 : [btwB b 0 1000000, btwB c 0 1000000, btwB d 0 1000000, btwB e 0 1000000].all id = (btwB b 0 1000000 && (btwB c 0 1000000 && (btwB d 0 1000000 && btwB e 0 1000000))) := by simp
    rw [e3]
    cases er : (btwB b 0 1000000 && (btwB c 0 1000000 && (btwB d 0 1000000 && btwB e 0 1000000))) with
    | false => exact ⟨fun z => (nomatch z), fun _ => h⟩
    | true =>
      rw [Bool.and_eq_true, Bool.and_eq_true, Bool.and_eq_true] at er
      obtain ⟨x1, x2, x3, x4⟩ := er
      refine ⟨fun _ => ?_, fun z => (nomatch z)⟩
      have q := go (by rw [x1, x2, x3, x4]; rfl)
      cases e with
      | int w => exact ⟨_, rfl, by obtain ⟨_, e5, q⟩ := q; cases e5; exact q⟩
      | _ => cases x4
  cases t with
  | kind e =>
    unfold F_are_wishes specOf G_are_wishes N_are_wishes
    refine ⟨rfl, ?_⟩
    show gIte (!isTupD d) _ _
    rw [e]
    exact ⟨fun _ => ⟨fun _ => h, fun z => (nomatch z)⟩, fun z => (nomatch z)⟩
  | len e =>
    rename_i xs
    unfold F_are_wishes specOf G_are_wishes N_are_wishes
    refine ⟨rfl, fun z => (nomatch z), fun _ => ?_⟩
    show gIte (!decide ((xs.length : Int) = 5)) _ _
    rw [decide_eq_false e]
    exact ⟨fun _ => ⟨fun _ => h, fun z => (nomatch z)⟩, fun z => (nomatch z)⟩
  | first e => exact five fun q => by rw [e] at q; cases q
  | rest e => exact five fun _ => rest fun q => by rw [e] at q; cases q
  | last => exact five fun _ => rest fun _ => ⟨_, rfl, h⟩
theorem checkWishes_no {d : D} (t : NoV d) (h : E (.ref C_BadWishes) d) : F_check_wishes [.dat d] K E := by
  unfold F_check_wishes specOf G_check_wishes N_check_wishes
  exact ⟨rfl, areWishes_no t ⟨fun _ => h, fun z => (nomatch z)⟩⟩
/-! ### the looks -/
theorem plain3 {d e f : D} (h : plainD d = true) (k : plainD e = true) (l : plainD f = true) : plainL [d, e, f] = true := by
  show (plainD d && (plainD e && (plainD f && true))) = true
  rw [h, k, l]
  rfl
section
variable {z e0 e1 : Q2} {k m : Int} {bad far late : D}
theorem lam0_no (t : NoT bad) (h1 : plainD bad = true) (h2 : plainD far = true) (h3 : plainD late = true) (Kd : D → Prop) (E : Value → D → Prop) (h : E (.ref C_BadTicks) bad) : B_law 0 [.dat bad, .dat far, .dat late] Kd E := by
  refine ⟨[bad, far, late], rfl, plain3 h1 h2 h3, ?_⟩
  unfold G_lam_0 F_ticks_cost specOf G_ticks_cost N_ticks_cost
  exact ⟨rfl, checkTicks_no t h⟩
theorem lam1_no (d : Dr z k m) (t : NoR far) (h2 : plainD far = true) (h3 : plainD late = true) (Kd : D → Prop) (E : Value → D → Prop) (h : E (.ref C_BadRange) far) : B_law 1 [.dat (tkD z k m), .dat far, .dat late] Kd E := by
  refine ⟨[tkD z k m, far, late], rfl, plain3 rfl h2 h3, ?_⟩
  unfold G_lam_1 F_ticks_cost specOf G_ticks_cost N_ticks_cost
  refine ⟨rfl, checkTicks_ok d ?_⟩
  show R_ticks_cost_2 E (EK Kd) [.dat (tkD z k m), .dat far, .dat late]
  unfold R_ticks_cost_2
  exact checkEnds_no t h
theorem lam2_no (d : Dr z k m) (N : Ends e0 e1) (t : NoV late) (h3 : plainD late = true) (Kd : D → Prop) (E : Value → D → Prop) (h : E (.ref C_BadWishes) late) : B_law 2 [.dat (tkD z k m), .dat (.tuple [fr e0, fr e1]), .dat late] Kd E := by
  refine ⟨[tkD z k m, .tuple [fr e0, fr e1], late], rfl, plain3 rfl rfl h3, ?_⟩
  unfold G_lam_2 F_ticks_cost specOf G_ticks_cost N_ticks_cost
  refine ⟨rfl, checkTicks_ok d ?_⟩
  show R_ticks_cost_2 E (EK Kd) [.dat (tkD z k m), .dat (.tuple [fr e0, fr e1]), .dat late]
  unfold R_ticks_cost_2
  refine checkEnds_ok N ?_
  show R_ticks_cost_1 E (EK Kd) [.dat (tkD z k m), .dat (.tuple [fr e0, fr e1]), .dat late]
  unfold R_ticks_cost_1
  exact checkWishes_no t h
end
theorem eqv_bools {x y w : Bool} : PyData.eqv (.list [.bool x, .bool y, .bool w]) (.list [.bool x, .bool y, .bool w]) = true := by
  cases x <;> cases y <;> cases w <;> rfl
section
variable {D' : DEnds} {s0 s1 s2 s3 s4 s5 s6 s7 s8 s9 s10 s11 s12 : Sv} {cells : List (Str × Addr)}
theorem ref0_ok {C : Addr} {a : Int} {v : D} {x y w : Bool} (hx : x = decide (a = 0)) (hy : y = decide (a = 1)) (hw : w = decide (a = 2)) (he : Sho v 800000 5) (hn : D'.nx [s0, s1, s2, s3, s4, s5, s6, s7, s8, .dat (.int a), .dat v, .dat (excD C v), .dat (.list [.bool x, .bool y, .bool w]), .un]) :
    R__law_are_refused_0 cells E D' [s0, s1, s2, s3, s4, s5, s6, s7, s8, .dat (.int a), .dat v, .dat (excD C v), .dat (.list [.bool x, .bool y, .bool w]), .un] := by
  have dp : v.depth ≤ 90 := Nat.le_trans he.dp (by decide)
  unfold R__law_are_refused_0
  refine ⟨by decide, by rw [sizeLine_eq]; decide, ?_⟩
  refine lc_to (fun i => .bool (match i with | .int i => decide (a = i) | _ => false)) rfl (Nat.le_of_eq (Nat.mul_zero _)) (fun z hz P hP => ?_) ?_
  · obtain ⟨i, rfl, _⟩ := mem_range hz
    exact hP
  · have e : (rangeD 0 3).map (fun i => PyData.bool (match i with | .int i => decide (a = i) | _ => false)) = [.bool x, .bool y, .bool w] := by
      rw [hx, hy, hw]
      rfl
    rw [e]
    refine ⟨rfl, rfl, ?_⟩
    show gIte (!PyData.eqv (.list [.bool x, .bool y, .bool w]) (.list [.bool x, .bool y, .bool w])) _ _
    rw [eqv_bools]
    refine ⟨fun z => (nomatch z), fun _ => ⟨_, _, rfl, he.l, he.s, dp, he.big (by decide), he.l, he.s, dp, he.big (by decide), same hn⟩⟩
theorem item_ok {n : Nat} {ds : List D} {C : Addr} {a : Int} {v : D} (hC : m_PictureError (.ref C) = some true) (hB : ∀ (Kd : D → Prop) (E : Value → D → Prop), E (.ref C) v → B_law n (ds.map AV.dat) Kd E)
    (h1 : mi_BadTicks C = some (decide (a = 0))) (h2 : mi_BadRange C = some (decide (a = 1))) (h3 : mi_BadWishes C = some (decide (a = 2))) (b : Bd v)
    (hc : Conv (fun n => ([0, 1, 2] : List Nat).contains n) cells [s0, s1, s2, s3, s4, s5, s6, s7, .dat (fnO n cells), .dat (.int a), .dat v, s11, s12, .un] [.dat (fnO n cells)] [.dat (fnC n ds)])
    (hn : ∀ s11 s12 : Sv, D'.nx [s0, s1, s2, s3, s4, s5, s6, s7, .dat (fnO n cells), .dat (.int a), .dat v, s11, s12, .un]) :
    (gSeq (gSet 11 (gBin ixD (gFnF (fun n => ([0, 1, 2] : List Nat).contains n) cells F__law_heard [] (gAd (gVar 8) gAn)) (gC (.int 0)))) (R__law_are_refused_1 cells E)) D' [s0, s1, s2, s3, s4, s5, s6, s7, .dat (fnO n cells), .dat (.int a), .dat v, s11, s12, .un] := by
  refine ⟨[.dat (fnC n ds)], hc, heard_ok hC hB ⟨by simp [plainD, plainL, plainK, notFn, excD, b.p], _, rfl, ?_⟩⟩
  show R__law_are_refused_1 cells E D' [s0, s1, s2, s3, s4, s5, s6, s7, .dat (fnO n cells), .dat (.int a), .dat v, .dat (excD C v), s12, .un]
  unfold R__law_are_refused_1
  refine ⟨_, _, _, rfl, h1, _, _, _, rfl, h2, _, _, _, rfl, h3, slr rfl, ?_⟩
  exact ref0_ok (cells := cells) (E := E) rfl rfl rfl b.s (hn _ _)
end
end K33
set_option exponentiation.threshold 9000
/-! K33q: the plain law: refused, right, law. -/
namespace K33
open PySem DL
variable {K : D → Prop} {E : Value → D → Prop}
section
variable {z e0 e1 : Q2} {k m n w1 w2 w3 w4 : Int} {D' : DEnds} {s0 s1 s2 s3 s4 s5 s6 s7 s8 s9 s10 s11 s12 s13 : Sv} {cells : List (Str × Addr)}
abbrev enD (e0 e1 : Q2) : D := .tuple [fr e0, fr e1]
def fars (e0 e1 : Q2) : List D := [.none, .tuple [fr e0], .list [fr e0, fr e1], .tuple [frD 1 1, frD 0 1], .tuple [frD 1 0, frD 2 1], .tuple [.int 1, .int 2], .tuple [fr e0, fr e1, fr e0, fr e1], .tuple [frD 2 2, frD 3 1]]
def lates (n w1 w2 w3 w4 : Int) : List D :=
  [.none, .tuple [.int n, .int w1, .int w2, .int w3], .list [.int n, .int w1, .int w2, .int w3, .int w4], wiD 1 w1 w2 w3 w4, wiD 11 w1 w2 w3 w4, wiD n w1 w2 w3 0,
   wiD n w1 w2 w3 (10 ^ 6 + 1), .tuple [.bool true, .int w1, .int w2, .int w3, .int w4], wiD n (-1) w2 w3 w4, wiD n w1 (10 ^ 6 + 1) w3 w4, .tuple [.int n, .int w1, .int w2, .int w3, .int w4, .int 1]]
theorem sho_in {xs : List D} (h : ∀ x ∈ xs, Sho x 39500 2) (hl : xs.length ≤ 20) : Sho (.tuple xs) 800000 5 := shoIn h hl
theorem sho_ins {xs : List D} (h : ∀ x ∈ xs, Sho x 39500 2) (hl : xs.length ≤ 20) : Sho (.list xs) 800000 5 := (sho_lst h hl).le (by decide) (by decide)
theorem fars_no (N : Ends e0 e1) {v : D} (h : v ∈ fars e0 e1) : NoR v ∧ Bd v := by
  have b0 : Sho (fr e0) 39500 2 := (sho_fr80 N.z0).le (by decide) (by decide)
  have b1 : Sho (fr e1) 39500 2 := (sho_fr80 N.z1).le (by decide) (by decide)
  have p1 : ∀ {a b : Int}, Sz 60 a → Sz 60 b → Sho (frD a b) 39500 2 := fun {a b} h1 h2 => (sho_tup (n := 1910) (m := 0) (xs := [.int a, .int b]) (fun y hy => by
    simp only [List.mem_cons, List.not_mem_nil, or_false] at hy
    rcases hy with rfl | rfl
    · exact sho_i60 h1
    · exact sho_i60 h2) (show 2 ≤ 20 by decide)).le (by decide) (by decide)
  have two : ∀ {a b : D}, Sho a 39500 2 → Sho b 39500 2 → Sho (.tuple [a, b]) 800000 5 := fun {a b} h1 h2 => sho_in (fun x hx => by
    simp only [List.mem_cons, List.not_mem_nil, or_false] at hx
    rcases hx with rfl | rfl
    · exact h1
    · exact h2) (show 2 ≤ 20 by decide)
  unfold fars at h
  simp only [List.mem_cons, List.not_mem_nil, or_false] at h
  rcases h with rfl | rfl | rfl | rfl | rfl | rfl | rfl | rfl
  · exact ⟨.kind rfl, sho_none.le (by decide) (by decide), rfl⟩
  · exact ⟨.len (show ¬ (1 : Int) = 2 by decide), sho_in (fun x hx => by rw [List.mem_singleton.mp hx]; exact b0) (show 1 ≤ 20 by decide), rfl⟩
  · refine ⟨.kind rfl, sho_ins (fun x hx => ?_) (show 2 ≤ 20 by decide), rfl⟩
    simp only [List.mem_cons, List.not_mem_nil, or_false] at hx
    rcases hx with rfl | rfl
    · exact b0
    · exact b1
  · exact ⟨.order (x := (1, 1)) (y := (0, 1)) (by decide +kernel) (by decide +kernel) ⟨by decide, lit, lit⟩ ⟨by decide, lit, lit⟩ (by decide), two (p1 lit lit) (p1 lit lit), rfl⟩
  · exact ⟨.told (by decide +kernel), two (p1 lit lit) (p1 lit lit), rfl⟩
  · exact ⟨.told (by decide +kernel), two ((sho_i60 lit).le (by decide) (by decide)) ((sho_i60 lit).le (by decide) (by decide)), rfl⟩
  · refine ⟨.len (show ¬ (4 : Int) = 2 by decide), sho_in (fun x hx => ?_) (show 4 ≤ 20 by decide), rfl⟩
    simp only [List.mem_cons, List.not_mem_nil, or_false] at hx
    rcases hx with rfl | rfl | rfl | rfl
    · exact b0
    · exact b1
    · exact b0
    · exact b1
  · exact ⟨.told (by decide +kernel), two (p1 lit lit) (p1 lit lit), rfl⟩
theorem lates_no (W : Wi n w1 w2 w3 w4) {v : D} (h : v ∈ lates n w1 w2 w3 w4) : NoV v ∧ Bd v := by
  have := W.n0; have := W.n1; have := W.a0; have := W.a1; have := W.b0; have := W.b1; have := W.c0; have := W.c1; have := W.d0; have := W.d1
  have si : ∀ {i : Int}, Sz 60 i → Sho (.int i) 39500 2 := fun h => (sho_i60 h).le (by decide) (by decide)
  have sn : Sho (.int n) 39500 2 := si (Sz.of_range (by omega) (by omega))
  have t1 : Sho (.int w1) 39500 2 := si (Sz.of_range (by omega) (by omega))
  have t2 : Sho (.int w2) 39500 2 := si (Sz.of_range (by omega) (by omega))
  have t3 : Sho (.int w3) 39500 2 := si (Sz.of_range (by omega) (by omega))
  have t4 : Sho (.int w4) 39500 2 := si (Sz.of_range (by omega) (by omega))
  have five : ∀ {a b c d e : D}, Sho a 39500 2 → Sho b 39500 2 → Sho c 39500 2 → Sho d 39500 2 → Sho e 39500 2 → Sho (.tuple [a, b, c, d, e]) 800000 5 := fun {a b c d e} h1 h2 h3 h4 h5 => sho_in (fun x hx => by
    simp only [List.mem_cons, List.not_mem_nil, or_false] at hx
    rcases hx with rfl | rfl | rfl | rfl | rfl
    · exact h1
    · exact h2
    · exact h3
    · exact h4
    · exact h5) (show 5 ≤ 20 by decide)
  have e6 : ((10 : Int) ^ 6 + 1) = 1000001 := by decide
  unfold lates at h
  rw [e6] at h
  simp only [List.mem_cons, List.not_mem_nil, or_false] at h
  rcases h with rfl | rfl | rfl | rfl | rfl | rfl | rfl | rfl | rfl | rfl | rfl
  · exact ⟨.kind rfl, sho_none.le (by decide) (by decide), rfl⟩
  · refine ⟨.len (show ¬ (4 : Int) = 5 by decide), sho_in (fun x hx => ?_) (show 4 ≤ 20 by decide), rfl⟩
    simp only [List.mem_cons, List.not_mem_nil, or_false] at hx
    rcases hx with rfl | rfl | rfl | rfl
    · exact sn
    · exact t1
    · exact t2
    · exact t3
  · refine ⟨.kind rfl, sho_ins (fun x hx => ?_) (show 5 ≤ 20 by decide), rfl⟩
    simp only [List.mem_cons, List.not_mem_nil, or_false] at hx
    rcases hx with rfl | rfl | rfl | rfl | rfl
    · exact sn
    · exact t1
    · exact t2
    · exact t3
    · exact t4
  · exact ⟨.first rfl, five (si lit) t1 t2 t3 t4, rfl⟩
  · exact ⟨.first rfl, five (si lit) t1 t2 t3 t4, rfl⟩
  · exact ⟨.last, five sn t1 t2 t3 (si lit), rfl⟩
  · refine ⟨.rest ?_, five sn t1 t2 t3 (si lit), rfl⟩
    rw [show btwB (.int 1000001) 0 1000000 = false from rfl, Bool.and_false, Bool.and_false, Bool.and_false]
  · exact ⟨.first rfl, five (sho_bool.le (by decide) (by decide)) t1 t2 t3 t4, rfl⟩
  · exact ⟨.rest rfl, five sn (si lit) t2 t3 t4, rfl⟩
  · refine ⟨.rest ?_, five sn t1 (si lit) t3 t4, rfl⟩
    rw [show btwB (.int 1000001) 0 1000000 = false from rfl, Bool.false_and, Bool.and_false]
  · refine ⟨.len (show ¬ (6 : Int) = 5 by decide), sho_in (fun x hx => ?_) (show 6 ≤ 20 by decide), rfl⟩
    simp only [List.mem_cons, List.not_mem_nil, or_false] at hx
    rcases hx with rfl | rfl | rfl | rfl | rfl | rfl
    · exact sn
    · exact t1
    · exact t2
    · exact t3
    · exact t4
    · exact si lit
def lookL (cells : List (Str × Addr)) (bad far late : D) : List D := [.tuple [fnO 0 cells, .int 0, bad], .tuple [fnO 1 cells, .int 1, far], .tuple [fnO 2 cells, .int 2, late]]
theorem ref3_ok {bad far late : D} (d : Dr z k m) (N : Ends e0 e1) (ob : Odd bad) (f1 : NoR far) (f2 : Bd far) (l1 : NoV late) (l2 : Bd late) (h : D'.rt (.bool true)) :
    R__law_are_refused_3 cells E D' [s0, .dat (tkD z k m), .dat (enD e0 e1), s3, .dat bad, .dat far, .dat late, .own (lookL cells bad far late), s8, s9, s10, s11, s12, .un] := by
  have b2 : Bd bad := ⟨ob.s, ob.p⟩
  unfold R__law_are_refused_3
  refine ⟨Nat.le_of_eq (Nat.mul_zero _), fun i Δ' => ∃ s8 s9 s10 s11 s12 : Sv, Δ' = [s0, .dat (tkD z k m), .dat (enD e0 e1), s3, .dat bad, .dat far, .dat late, .dat (.list (lookL cells bad far late)), s8, s9, s10, s11, s12, .un], ⟨_, _, _, _, _, rfl⟩, ?_, ?_⟩
  · rintro i v Δ' hv ⟨s8, s9, s10, s11, s12, rfl⟩
    match i, hv with
    | 0, hv =>
      cases hv
      exact ⟨rfl, item_ok (C := C_BadTicks) (ds := [bad, far, late]) rfl (lam0_no ob.t b2.p f2.p l2.p) rfl rfl rfl b2 (.lam rfl rfl rfl (plain3 b2.p f2.p l2.p) .nil) fun _ _ => ⟨_, _, _, _, _, rfl⟩⟩
    | 1, hv =>
      cases hv
      exact ⟨rfl, item_ok (C := C_BadRange) (ds := [tkD z k m, far, late]) rfl (lam1_no d f1 f2.p l2.p) rfl rfl rfl f2 (.lam rfl rfl rfl (plain3 rfl f2.p l2.p) .nil) fun _ _ => ⟨_, _, _, _, _, rfl⟩⟩
    | 2, hv =>
      cases hv
      exact ⟨rfl, item_ok (C := C_BadWishes) (ds := [tkD z k m, enD e0 e1, late]) rfl (lam2_no d N l1 l2.p) rfl rfl rfl l2 (.lam rfl rfl rfl (plain3 rfl rfl l2.p) .nil) fun _ _ => ⟨_, _, _, _, _, rfl⟩⟩
    | n + 3, hv => cases hv
  · rintro Δ' ⟨s8, s9, s10, s11, s12, rfl⟩
    exact h
theorem refused_ok (d : Dr z k m) (N : Ends e0 e1) (W : Wi n w1 w2 w3 w4) (h : K (.bool true)) : F__law_are_refused [.pot, .dat (tkD z k m), .dat (enD e0 e1), .dat (wiD n w1 w2 w3 w4)] K E := by
  have p6 : (Builtin.Int.intBits 10 : Int) * 6 ≤ 2 ^ 27 := by decide
  unfold F__law_are_refused specOfL G__law_are_refused N__law_are_refused
  refine ⟨rfl, fun cells => odd_ok d fun bad ob => ?_⟩
  show R__law_are_refused_13 cells E (EK K) [.pot, .dat (tkD z k m), .dat (enD e0 e1), .dat (wiD n w1 w2 w3 w4), .dat bad, .un, .un, .un, .un, .un, .un, .un, .un, .un]
  unfold R__law_are_refused_13
  refine lawTicks_no ob.t ⟨fun z => (nomatch z), fun _ => ?_⟩
  show R__law_are_refused_12 cells E (EK K) [.pot, .dat (tkD z k m), .dat (enD e0 e1), .dat (wiD n w1 w2 w3 w4), .dat bad, .un, .un, .un, .un, .un, .un, .un, .un, .un]
  unfold R__law_are_refused_12
  refine ⟨slr rfl, slr rfl, slr rfl, slr rfl, slr rfl, slr rfl, slr rfl, slr rfl, slr rfl, slr rfl, slr rfl, slr rfl, ?_⟩
  show R__law_are_refused_11 cells E (EK K) [.pot, .dat (tkD z k m), .dat (enD e0 e1), .dat (wiD n w1 w2 w3 w4), .dat bad, .dat (.list (fars e0 e1)), .un, .un, .un, .un, .un, .un, .un, .un]
  unfold R__law_are_refused_11
  refine of_ok (xs := fars e0 e1) (by unfold fars; simp) (by show 8 < _; decide) fun far hf => ?_
  show R__law_are_refused_10 cells E (EK K) [.pot, .dat (tkD z k m), .dat (enD e0 e1), .dat (wiD n w1 w2 w3 w4), .dat bad, .dat far, .un, .un, .un, .un, .un, .un, .un, .un]
  unfold R__law_are_refused_10
  refine ⟨slr rfl, slr rfl, slr rfl, slr rfl, slr rfl, slr rfl, slr rfl, (show 6 < 14 by decide), ?_⟩
  show R__law_are_refused_9 cells E (EK K) [.pot, .dat (tkD z k m), .dat (enD e0 e1), .dat (wiD n w1 w2 w3 w4), .dat bad, .dat far, .own ((lates n w1 w2 w3 w4).take 6), .un, .un, .un, .un, .un, .un, .un]
  unfold R__law_are_refused_9
  refine ⟨by decide, p6, slr rfl, slr rfl, slr rfl, slr rfl, slr rfl, slr rfl, slr rfl, slr rfl, slr rfl, ?_⟩
  show R__law_are_refused_8 cells E (EK K) [.pot, .dat (tkD z k m), .dat (enD e0 e1), .dat (wiD n w1 w2 w3 w4), .dat bad, .dat far, .own ((lates n w1 w2 w3 w4).take 9), .un, .un, .un, .un, .un, .un, .un]
  unfold R__law_are_refused_8
  refine ⟨by decide, p6, slr rfl, slr rfl, slr rfl, slr rfl, slr rfl, slr rfl, slr rfl, ?_⟩
  show R__law_are_refused_7 cells E (EK K) [.pot, .dat (tkD z k m), .dat (enD e0 e1), .dat (wiD n w1 w2 w3 w4), .dat bad, .dat far, .own (lates n w1 w2 w3 w4), .un, .un, .un, .un, .un, .un, .un]
  unfold R__law_are_refused_7
  refine of_ok (xs := lates n w1 w2 w3 w4) (by unfold lates; simp) (by show 11 < _; decide) fun late hl => ?_
  show R__law_are_refused_6 cells E (EK K) [.pot, .dat (tkD z k m), .dat (enD e0 e1), .dat (wiD n w1 w2 w3 w4), .dat bad, .dat far, .dat late, .un, .un, .un, .un, .un, .un, .un]
  unfold R__law_are_refused_6
  refine ⟨slr rfl, slr rfl, (show 7 < 14 by decide), ?_⟩
  show R__law_are_refused_5 cells E (EK K) [.pot, .dat (tkD z k m), .dat (enD e0 e1), .dat (wiD n w1 w2 w3 w4), .dat bad, .dat far, .dat late, .own [.tuple [fnO 0 cells, .int 0, bad]], .un, .un, .un, .un, .un, .un]
  unfold R__law_are_refused_5
  refine ⟨slr rfl, slr2 rfl, ?_⟩
  show R__law_are_refused_4 cells E (EK K) [.pot, .dat (tkD z k m), .dat (enD e0 e1), .dat (wiD n w1 w2 w3 w4), .dat bad, .dat far, .dat late, .own [.tuple [fnO 0 cells, .int 0, bad], .tuple [fnO 1 cells, .int 1, far]], .un, .un, .un, .un, .un, .un]
  unfold R__law_are_refused_4
  refine ⟨slr rfl, slr2 rfl, ?_⟩
  obtain ⟨f1, f2⟩ := fars_no N hf
  obtain ⟨l1, l2⟩ := lates_no W hl
  exact ref3_ok (cells := cells) (E := E) (D' := EK K) d N ob f1 f2 l1 l2 h
/-! ### right -/
theorem wishes_ok (h : ∀ n w1 w2 w3 w4, Wi n w1 w2 w3 w4 → K (wiD n w1 w2 w3 w4)) : F__law_wishes [.pot] K E := by
  unfold F__law_wishes specOf G__law_wishes N__law_wishes
  refine ⟨rfl, by decide, by rw [sizeLine_eq]; decide, ?_⟩
  refine lc_any (fun y => ∃ i : Int, y = .int i ∧ 0 ≤ i ∧ i ≤ 9) rfl (by decide) (fun x hx P hP => ⟨slr rfl, of_ok (by simp) (by decide) fun a ha => ?_⟩) fun ys hl hys => ?_
  · obtain ⟨a, rfl, a1, a2⟩ : ∃ i : Int, a = .int i ∧ 0 < i ∧ i ≤ 10 := by
      simp only [List.mem_cons, List.not_mem_nil, or_false] at ha
      rcases ha with rfl | rfl <;> exact ⟨_, rfl, by decide, by decide⟩
    exact take_ok a1 (by omega) fun t t0 t1 => hP _ ⟨t, rfl, t0, by omega⟩
  · have h3 : ys.length = 3 := hl
    match ys, h3, hys with
    | [y1, y2, y3], _, hys =>
      obtain ⟨w1, rfl, a0, a1⟩ := hys y1 (by simp)
      obtain ⟨w2, rfl, b0, b1⟩ := hys y2 (by simp)
      obtain ⟨w3, rfl, c0, c1⟩ := hys y3 (by simp)
      show R__law_wishes_0 E (EK K) [.pot, .dat (.list [.int w1, .int w2, .int w3]), .un]
      unfold R__law_wishes_0
      refine take_ok (by decide) (by decide) fun t t0 t1 => ⟨slr rfl, slr rfl, slr rfl, of_ok (by simp) (by decide) fun a ha => ?_⟩
      obtain ⟨a, rfl, g1, g2⟩ : ∃ i : Int, a = .int i ∧ 0 < i ∧ i ≤ 9 := by
        simp only [List.mem_cons, List.not_mem_nil, or_false] at ha
        rcases ha with rfl | rfl <;> exact ⟨_, rfl, by decide, by decide⟩
      refine take_ok g1 (by omega) fun u u0 u1 => ⟨slr rfl, slr rfl, ?_⟩
      exact h (2 + t) w1 w2 w3 (1 + u) ⟨by omega, by omega, a0, a1, b0, b1, c0, c1, by omega, by omega⟩
end
structure Nm (x : Q2) : Prop where
  f : Fz 80 x
  t : toldB (fr x) = true
theorem ends_of {x y : Q2} (hx : Nm x) (hy : Nm y) (h : ltF y x = false) : Ends x y := ⟨hx.f, hy.f, hx.t, hy.t, h⟩
theorem lt_turn {x y : Q2} (h : ltF y x = true) : ltF x y = false := by
  have := of_decide_eq_true h
  exact decide_eq_false (by omega)
section
variable {z e0 e1 : Q2} {k m n w1 w2 w3 w4 : Int} {D' : DEnds} {s0 s1 s2 s3 s4 s5 s6 s7 s8 s9 : Sv} {v u : D}
theorem cost_sho (d : Dr z k m) (N : Ends e0 e1) (W : Wi n w1 w2 w3 w4) (h : Cost z k m e0 e1 n w1 w2 w3 w4 v) : Sho v 39500 2 := by
  cases h with
  | no _ => exact sho_none.le (by decide) (by decide)
  | yes C hM =>
    obtain ⟨s1, s2, s3, s4, s5⟩ := cost_sz d W
    obtain ⟨i1, i2, i3⟩ := idx_at z.1 (stepsA z d.z).2.2.2.2.2.2.2.1
    obtain ⟨v0, v1⟩ := vain_sz d N C
    obtain ⟨m0, m1⟩ := max_le d hM
    have si : Sz 5 ((idx z.1 : Nat) : Int) := Sz.of_range (by omega) (by omega)
    exact (sho_i60 (((((s1.mul si).add (s2.mul s5)).add (s3.mul (Sz.of_range (b := 6) v0 (by omega)))).add (s4.mul (Sz.of_range (b := 10) m0 (by omega)))).le (by decide))).le (by decide) (by decide)
theorem cost_le (d : Dr z k m) (N : Ends e0 e1) (W : Wi n w1 w2 w3 w4) {i : Int} (h : Cost z k m e0 e1 n w1 w2 w3 w4 (.int i)) {M : Int} (hM : IsMax (lens z k m) M) : costI z m n w1 w2 w3 w4 0 M ≤ i := by
  generalize hv : PyData.int i = v at h
  cases h with
  | no _ => cases hv
  | yes C hN =>
    injection hv with hv
    subst hv
    rw [hM.one hN]
    obtain ⟨v0, v1⟩ := vain_sz d N C
    have := Int.mul_nonneg W.c0 v0
    unfold costI
    rw [Int.mul_zero]
    omega
theorem r3_ok (d : Dr z k m) (N : Ends e0 e1) (W : Wi n w1 w2 w3 w4) (hv : Cost z k m e0 e1 n w1 w2 w3 w4 v) (h : D'.rt (.bool true)) :
    R__law_right_3 E D' [.pot, .dat (tkD z k m), .dat (wiD n w1 w2 w3 w4), .dat (.list (vals z k m)), s4, s5, s6, .dat (enD e0 e1), .dat v, .un] := by
  obtain ⟨N9, C9, z9⟩ := whole_ends d
  have e := cost_sho d N W hv
  have dp := Nat.le_trans e.dp (show 2 ≤ 90 by decide)
  have f0 : (vals z k m)[0]? = some (fr (ft z k)) := by
    rw [vals_at d (by have := d.m0; omega)]
    have : valF z k ((0 : Nat) : Int) = ft z k := val0 d
    rw [this]
  unfold R__law_right_3
  refine ticksCost_ok d N W fun u hu => ?_
  rw [hu.one hv]
  refine ⟨e.l, e.s, dp, e.big (by decide), e.l, e.s, dp, e.big (by decide), same (nx_of ?_)⟩
  unfold R__law_right_2
  refine ⟨_, L2.atI_nat (j := 0) f0, _, vals_last d, slr rfl, ticksCost_ok d N9 W fun u hu => ?_⟩
  have e9 := cost_sho d N9 W hu
  have dp9 := Nat.le_trans e9.dp (show 2 ≤ 90 by decide)
  show R__law_right_1 E D' [.pot, .dat (tkD z k m), .dat (wiD n w1 w2 w3 w4), .dat (.list (vals z k m)), s4, s5, s6, .dat (enD e0 e1), .dat v, .dat u]
  unfold R__law_right_1
  refine ⟨e9.l, e9.s, dp9, e9.big (by decide), _, L2.atI_nat (j := 0) f0, _, vals_last d, slr rfl, lawCost_ok d N9 W fun u2 hu2 => ?_⟩
  rw [hu2.one hu]
  refine ⟨e9.l, e9.s, dp9, e9.big (by decide), same ?_⟩
  have fin : R__law_right_0 E D' [.pot, .dat (tkD z k m), .dat (wiD n w1 w2 w3 w4), .dat (.list (vals z k m)), s4, s5, s6, .dat (enD e0 e1), .dat v, .dat u] := by
    unfold R__law_right_0
    exact refused_ok d N W h
  cases v with
  | none => exact ⟨fun z => (nomatch z), fun _ => ⟨fun z => (nomatch z), fun _ => nx_of fin⟩⟩
  | int i =>
    refine ⟨fun _ => ?_, fun z => (nomatch z)⟩
    generalize hu3 : u = u3 at hu
    cases hu with
    | no c => exact absurd C9 c
    | yes _ hM =>
      subst hu3
      have l := cost_le d N W hv hM
      rw [z9]
      show gIte (decide (i < costI z m n w1 w2 w3 w4 0 _)) _ _
      rw [decide_eq_false (by omega)]
      rw [z9] at fin
      exact ⟨fun z => (nomatch z), fun _ => nx_of fin⟩
  | _ =>
    generalize hv3 : PyData.none = q at hv
    cases hv
theorem r8_ok (d : Dr z k m) (W : Wi n w1 w2 w3 w4) (h : D'.rt (.bool true)) : R__law_right_8 E D' [.pot, .dat (tkD z k m), .dat (wiD n w1 w2 w3 w4), .un, .un, .un, .un, .un, .un, .un] := by
  have lenv := vals_len d
  have m0 := d.m0
  have m1 := d.m1
  have nv : ∀ x ∈ vals z k m, ∃ y, x = fr y ∧ Nm y := fun x hx => by
    obtain ⟨y, hy, rfl⟩ := List.mem_map.mp hx
    obtain ⟨i, rfl, i0, i1⟩ := mem_range hy
    have v := d.vz i0 (by omega)
    have iz : Fz 4 (i, 1) := int_fz (Sz.of_range i0 (by omega)) (by decide)
    exact ⟨valF z k i, rfl, v.le (by decide), told_of v.q1 (rd_g (mul_q d.fz (mul_fz iz d.sz))) (v.p.le (by decide)) (v.q.le (by decide))⟩
  unfold R__law_right_8
  refine ⟨_, rfl, _, rfl, _, rfl, lawValues_ok d ?_⟩
  show R__law_right_7 E D' [.pot, .dat (tkD z k m), .dat (wiD n w1 w2 w3 w4), .dat (.list (vals z k m)), .un, .un, .un, .un, .un, .un]
  unfold R__law_right_7
  refine lc_any (fun x => ∃ y, x = fr y ∧ Nm y) rfl (by rw [lenv]; omega) (fun x hx P hP => ?_) fun ys hl hys => ?_
  · obtain ⟨v, rfl, hv⟩ := mem_vals d hx
    refine ⟨_, rfl, take_ok (by decide) (by decide) fun t t0 t1 => ⟨slr rfl, ?_⟩⟩
    have tz : Fz 4 (t - 1, 5) := ⟨show (1 : Int) ≤ 5 by decide, by unfold Sz; show (t - 1).natAbs < _; omega, show Sz 4 5 from lit⟩
    have M := mul_fz d.sz tz
    have A := add_fz hv M
    exact times_ok (d.sz.le (by decide)) (tz.le (by decide)) (plus_ok (hv.le (by decide)) (M.le (by decide)) (hP _ ⟨_, rfl, A.le (by decide), told_of A.q1 (rd_g (mul_q hv M)) (A.p.le (by decide)) (A.q.le (by decide))⟩))
  · show R__law_right_6 E D' [.pot, .dat (tkD z k m), .dat (wiD n w1 w2 w3 w4), .dat (.list (vals z k m)), .dat (.list ys), .un, .un, .un, .un, .un]
    have both : ∀ x ∈ ys ++ vals z k m, ∃ y, x = fr y ∧ Nm y := fun x hx => (List.mem_append.mp hx).elim (hys x) (nv x)
    have lb : ys.length + (vals z k m).length ≤ 24 := by rw [hl, lenv]; omega
    have lb2 : ys.length + (vals z k m).length ≤ sizeLine := by rw [sizeLine_eq]; omega
    have ne : ys ++ vals z k m ≠ [] := fun e => by
      have : (ys ++ vals z k m).length = 0 := by rw [e]; rfl
      rw [List.length_append, lenv] at this
      omega
    have lt : (ys ++ vals z k m).length < 2 ^ 24 := by
      rw [List.length_append]
      omega
    unfold R__law_right_6
    refine ⟨lb2, of_ok ne lt fun a ha => ⟨lb2, of_ok ne lt fun b hb => ?_⟩⟩
    obtain ⟨x, rfl, hx⟩ := both a ha
    obtain ⟨y, rfl, hy⟩ := both b hb
    show R__law_right_5 E D' [.pot, .dat (tkD z k m), .dat (wiD n w1 w2 w3 w4), .dat (.list (vals z k m)), .dat (.list ys), .dat (fr x), .dat (fr y), .un, .un, .un]
    have go : ∀ {e0 e1 : Q2}, Ends e0 e1 → R__law_right_4 E D' [.pot, .dat (tkD z k m), .dat (wiD n w1 w2 w3 w4), .dat (.list (vals z k m)), .dat (.list ys), .dat (fr x), .dat (fr y), .dat (enD e0 e1), .un, .un] := fun N => by
      unfold R__law_right_4
      exact lawCost_ok d N W fun v hv => r3_ok d N W hv h
    unfold R__law_right_5
    refine lawLess_ok (hy.f.le (by decide)) (hx.f.le (by decide)) ⟨fun q => ⟨slr rfl, go (ends_of hy hx (lt_turn q))⟩, fun q => ⟨slr rfl, go (ends_of hx hy q)⟩⟩
theorem right_ok (h : K (.bool true)) : F__law_right [.pot] K E := by
  unfold F__law_right specOf G__law_right N__law_right
  refine ⟨rfl, ticks_ok fun z k m d => wishes_ok fun n w1 w2 w3 w4 W => ⟨slr rfl, rfl, ?_⟩⟩
  exact r8_ok d W h
end
theorem all_true : ∀ {ys : List D}, (∀ y ∈ ys, y = .bool true) → ∃ bs : List Bool, ys = bs.map PyData.bool ∧ bs.all id = true
  | [], _ => ⟨[], rfl, rfl⟩
  | y :: ys, h => by
    obtain ⟨bs, rfl, e⟩ := all_true fun z hz => h z (List.mem_cons_of_mem _ hz)
    rw [h y List.mem_cons_self]
    exact ⟨true :: bs, rfl, by rw [List.all_cons, e]; rfl⟩
theorem law_true (ns : List Int) (Kd : D → Prop) (h0 : ns.length ≤ 63) (h1 : ∀ z ∈ ns, Builtin.Int.intBits z ≤ 1048576) (h : Kd (.bool true)) : F_law [.scr ns] Kd NoE := by
  unfold F_law specOf G_law N_law
  refine ⟨rfl, ?_⟩
  simp only [gSeq, gForC_x, gSeqI, gFn, gAs, gAd, gAn, gC, startD, nth, List.append_nil]
  refine cells_ok (by decide) (by decide) fun k k1 k3 => ?_
  refine ⟨Nat.le_of_eq (Nat.mul_zero _), fun i Δ' => ∃ s1 : Sv, plainSv s1 = true ∧ Δ' = [.scr ns, s1, .un, .un], ⟨_, rfl, rfl⟩, ?_, ?_⟩
  · rintro i d Δ' hd ⟨s1, hs, rfl⟩
    obtain ⟨m, rfl, m0, m1⟩ : ∃ m : Int, d = .int m ∧ 0 ≤ m ∧ m < 3 := by
      obtain ⟨j, hj, rfl⟩ := List.mem_map.mp (List.mem_of_getElem? hd)
      have := List.mem_range.mp hj
      exact ⟨_, rfl, by omega, by omega⟩
    refine ⟨rfl, (show 2 < 4 by decide), ?_⟩
    refine pot_ok m0 (by omega) fun x y x0 x1 y0 y1 => ⟨x, y, rfl, x0, x1, y0, y1, ?_⟩
    simp only [gIfS, gNotT, gTB, gCall, gCo, gL, gLcC_x, gRg1, gC, gN, List.set]
    refine ⟨by decide, by rw [sizeLine_eq]; decide, ?_⟩
    refine lc_any (fun y => y = .bool true) rfl (by decide) (fun d hd P hP => right_ok (hP _ rfl)) fun ys hl hys => ?_
    obtain ⟨bs, rfl, e⟩ := all_true hys
    refine ⟨bs, rfl, ?_⟩
    rw [e]
    exact ⟨fun z => (nomatch z), fun _ => ⟨_, rfl, rfl⟩⟩
  · rintro Δ' ⟨s1, hs, rfl⟩
    unfold R_law_0
    exact h
end K33
/-! K33: the defs by their bodies (printed by gen.py). -/
namespace K33
open PySem PySem.Spec PyProof.Rows L2 DL
theorem sc__law_cells : FnScope N__law_cells ["script", "limit"] (defScope s__law_cells) := ⟨rfl, rfl, rfl, by decide +kernel, rfl, by decide +kernel, by decide +kernel⟩
theorem ok__law_cells {P : Program} {w : World} {K : PySem.W.Frag} {mg : Str → Option Value} {base : Heap} {f : Addr} {od an : Option Addr} {osl : Array (Option Value)} {oc dV kV doc pm cdv ct : Value}
    (lk : K.lookup f = some ⟨oc, od, .func (PySem.W.fnOf "_law_cells" "_law_cells" (defArgs s__law_cells) (defBody s__law_cells) (defScope s__law_cells) dV kV doc pm an cdv ct), osl⟩) (cd : PySem.W.codeIn K cdv "_law_cells" = true)
    (m_max : mg "max" = none)
    (m_min : mg "min" = none)
    (m_len : mg "len" = none)
    (m_list : mg "list" = none)
    (m_range : mg "range" = none) :
    FnD P w K mg base 1 f (PySem.W.fnOf "_law_cells" "_law_cells" (defArgs s__law_cells) (defBody s__law_cells) (defScope s__law_cells) dV kV doc pm an cdv ct) ["script", "limit"] F__law_cells 0 := by
  unfold F__law_cells
  refine fnd_by lk cd sc__law_cells (g := G__law_cells) (by decide) (fun X W E hE h1 h2 h3 h4 h5 hfn C => ?_)
  subst h1 h2 h3 h4 h5
  have d : DSs X W (defBody s__law_cells) (G__law_cells E) _ := (dss_one (ds_ret C (DF.da C (df_lrg C (by decide +kernel) m_list (by decide +kernel) m_range (DE.bo (de_callB C (dc_max C.calm) (by decide +kernel) m_max boot_max (db_cons C (DE.bo de_int) (db_cons C (DE.bo (de_callB C (dc_min C.calm) (by decide +kernel) m_min boot_min (db_cons C (DE.bo (de_var C (i := 1) rfl (vis_by (by decide +kernel)))) (db_cons C (DE.bo (de_lenS C (by decide +kernel) m_len (i := 0) rfl (vis_by (by decide +kernel)))) db_nil)))) db_nil))))))))
  exact ⟨_, by decide +kernel, d⟩
theorem sc__law_pot : FnScope N__law_pot ["script", "place"] (defScope s__law_pot) := ⟨rfl, rfl, rfl, by decide +kernel, rfl, by decide +kernel, by decide +kernel⟩
theorem ok__law_pot {P : Program} {w : World} {K : PySem.W.Frag} {mg : Str → Option Value} {base : Heap} {f : Addr} {od an : Option Addr} {osl : Array (Option Value)} {oc dV kV doc pm cdv ct : Value}
    (lk : K.lookup f = some ⟨oc, od, .func (PySem.W.fnOf "_law_pot" "_law_pot" (defArgs s__law_pot) (defBody s__law_pot) (defScope s__law_pot) dV kV doc pm an cdv ct), osl⟩) (cd : PySem.W.codeIn K cdv "_law_pot" = true)
    (m_len : mg "len" = none)
    (m_sum : mg "sum" = none)
    (m_int : mg "int" = none)
    (m_abs : mg "abs" = none) :
    FnD P w K mg base 1 f (PySem.W.fnOf "_law_pot" "_law_pot" (defArgs s__law_pot) (defBody s__law_pot) (defScope s__law_pot) dV kV doc pm an cdv ct) ["script", "place"] F__law_pot 0 := by
  unfold F__law_pot
  refine fnd_by lk cd sc__law_pot (g := G__law_pot) (by decide) (fun X W E hE h1 h2 h3 h4 h5 hfn C => ?_)
  subst h1 h2 h3 h4 h5
  have d : DSs X W (defBody s__law_pot) (G__law_pot E) _ := (dss_cons (ds_set C (i := 2) rfl (loc_by (by decide +kernel)) (.inl (hfn _)) (de_if C (dt_cmp C dop_lt (DE.bo (de_var C (i := 1) rfl (vis_by (by decide +kernel)))) (DE.bo (de_lenS C (by decide +kernel) m_len (i := 0) rfl (vis_by (by decide +kernel))))) (de_ixS C (i := 0) rfl (vis_by (by decide +kernel)) (DE.bo (de_var C (i := 1) rfl (vis_by (by decide +kernel))))) (de_bin C dop_add (DE.bo (de_bin C dop_add (DE.bo (de_bin C dop_mod (DE.bo (de_sumS C (by decide +kernel) m_sum (i := 0) rfl (vis_by (by decide +kernel)))) (DE.bo de_int))) (DE.bo (de_bin C dop_mul (DE.bo de_int) (DE.bo (de_var C (i := 1) rfl (vis_by (by decide +kernel)))))))) (DE.bo de_int))))
    (dss_cons (ds_set C (i := 3) rfl (loc_by (by decide +kernel)) (.inl (hfn _)) (de_bin C dop_mul (DE.bo (de_bin C dop_mod (DE.bo (de_callT C dc_int (by decide +kernel) m_int boot_int (db_cons C (DE.bo (de_callB C dc_abs (by decide +kernel) m_abs boot_abs (db_cons C (DE.bo (de_var C (i := 2) rfl (vis_by (by decide +kernel)))) db_nil))) db_nil))) (DE.bo (de_bin C dop_pow (DE.bo (de_bin C dop_pow (DE.bo de_int) (DE.bo de_int))) (DE.bo de_int))))) (DE.bo (de_callT C dc_int (by decide +kernel) m_int boot_int (db_cons C (DE.bo (de_cmp C dop_ge (DE.bo (de_callB C dc_abs (by decide +kernel) m_abs boot_abs (db_cons C (DE.bo (de_var C (i := 2) rfl (vis_by (by decide +kernel)))) db_nil))) (DE.bo (de_bin C dop_pow (DE.bo de_int) (DE.bo de_int))))) db_nil)))))
    (dss_cons (ds_set C (i := 4) rfl (loc_by (by decide +kernel)) (.inl (hfn _)) (de_bin C dop_mod (DE.bo (de_callT C dc_int (by decide +kernel) m_int boot_int (db_cons C (DE.bo (de_var C (i := 2) rfl (vis_by (by decide +kernel)))) db_nil))) (DE.bo de_int)))
    (dss_one (ds_ret C (DF.da C (df_lst C (da_cons C (de_var C (i := 3) rfl (vis_by (by decide +kernel))) (da_cons C (de_bin C dop_mod (DE.bo (de_callT C dc_int (by decide +kernel) m_int boot_int (db_cons C (DE.bo (de_bin C dop_add (DE.bo (de_bin C dop_add (DE.bo (de_bin C dop_mul (DE.bo (de_var C (i := 4) rfl (vis_by (by decide +kernel)))) (DE.bo de_int))) (DE.bo (de_bin C dop_mul (DE.bo (de_bin C dop_mul (DE.bo de_int) (DE.bo (de_var C (i := 1) rfl (vis_by (by decide +kernel)))))) (DE.bo (de_var C (i := 1) rfl (vis_by (by decide +kernel)))))))) (DE.bo de_int))) db_nil))) (DE.bo de_int)) (da_cons C de_int da_nil))))))))))
  exact ⟨_, by decide +kernel, d⟩
theorem sc__law_common : FnScope N__law_common ["one", "other"] (defScope s__law_common) := ⟨rfl, rfl, rfl, by decide +kernel, rfl, by decide +kernel, by decide +kernel⟩
theorem ok__law_common {P : Program} {w : World} {K : PySem.W.Frag} {mg : Str → Option Value} {base : Heap} {f : Addr} {od an : Option Addr} {osl : Array (Option Value)} {oc dV kV doc pm cdv ct : Value}
    (lk : K.lookup f = some ⟨oc, od, .func (PySem.W.fnOf "_law_common" "_law_common" (defArgs s__law_common) (defBody s__law_common) (defScope s__law_common) dV kV doc pm an cdv ct), osl⟩) (cd : PySem.W.codeIn K cdv "_law_common" = true)
    (m_abs : mg "abs" = none) :
    FnD P w K mg base 1 f (PySem.W.fnOf "_law_common" "_law_common" (defArgs s__law_common) (defBody s__law_common) (defScope s__law_common) dV kV doc pm an cdv ct) ["one", "other"] F__law_common 0 := by
  unfold F__law_common
  refine fnd_by lk cd sc__law_common (g := G__law_common) (by decide) (fun X W E hE h1 h2 h3 h4 h5 hfn C => ?_)
  subst h1 h2 h3 h4 h5
  have d : DSs X W (defBody s__law_common) (G__law_common E) _ := (dss_cons (ds_par C (i := 0) (j := 1) rfl rfl (by decide) (by decide +kernel) (by decide +kernel) (da_cons C (de_callB C dc_abs (by decide +kernel) m_abs boot_abs (db_cons C (DE.bo (de_var C (i := 0) rfl (vis_by (by decide +kernel)))) db_nil)) (da_cons C (de_callB C dc_abs (by decide +kernel) m_abs boot_abs (db_cons C (DE.bo (de_var C (i := 1) rfl (vis_by (by decide +kernel)))) db_nil)) da_nil)) (swp2 C rfl (by decide +kernel) (by decide +kernel) (by decide +kernel) rfl (fun _ _ z => nomatch z) (fun _ _ z => nomatch z) rfl rfl))
    (dss_cons (ds_while C 0 (DT.le (c := 0) (dt_cmp C (dop_ne C.units) (DE.bo (de_var C (i := 1) rfl (vis_by (by decide +kernel)))) (DE.bo de_int)) (by decide +kernel)) (DSs.le (c := 0) (dss_one (ds_par C (i := 0) (j := 1) rfl rfl (by decide) (by decide +kernel) (by decide +kernel) (da_cons C (de_var C (i := 1) rfl (vis_by (by decide +kernel))) (da_cons C (de_bin C dop_mod (DE.bo (de_var C (i := 0) rfl (vis_by (by decide +kernel)))) (DE.bo (de_var C (i := 1) rfl (vis_by (by decide +kernel))))) da_nil)) (swp2 C rfl (by decide +kernel) (by decide +kernel) (by decide +kernel) rfl (fun _ _ z => nomatch z) (fun _ _ z => nomatch z) rfl rfl))) (by decide +kernel)))
    (dss_one (ds_ret C (de_var C (i := 0) rfl (vis_by (by decide +kernel)))))))
  exact ⟨_, by decide +kernel, d⟩
theorem sc__law_reduced : FnScope N__law_reduced ["top", "low"] (defScope s__law_reduced) := ⟨rfl, rfl, rfl, by decide +kernel, rfl, by decide +kernel, by decide +kernel⟩
theorem ok__law_reduced {P : Program} {w : World} {K : PySem.W.Frag} {mg : Str → Option Value} {base : Heap} {f : Addr} {od an : Option Addr} {osl : Array (Option Value)} {oc dV kV doc pm cdv ct : Value}
    (lk : K.lookup f = some ⟨oc, od, .func (PySem.W.fnOf "_law_reduced" "_law_reduced" (defArgs s__law_reduced) (defBody s__law_reduced) (defScope s__law_reduced) dV kV doc pm an cdv ct), osl⟩) (cd : PySem.W.codeIn K cdv "_law_reduced" = true)
    {f__law_common : Addr} {fd__law_common : FuncData} (M__law_common : FnD P w K mg base 1 f__law_common fd__law_common ["one", "other"] F__law_common 0) (a__law_common : mg "_law_common" = some (.ref f__law_common)) (kp__law_common : PySem.W.keepIn K (.ref f__law_common) = true)
    (b__law_common_2 : BindG K fd__law_common ["one", "other"] 2 [] []) :
    FnD P w K mg base 2 f (PySem.W.fnOf "_law_reduced" "_law_reduced" (defArgs s__law_reduced) (defBody s__law_reduced) (defScope s__law_reduced) dV kV doc pm an cdv ct) ["top", "low"] F__law_reduced 0 := by
  unfold F__law_reduced
  refine fnd_by lk cd sc__law_reduced (g := G__law_reduced) (by decide) (fun X W E hE h1 h2 h3 h4 h5 hfn C => ?_)
  subst h1 h2 h3 h4 h5
  have d : DSs X W (defBody s__law_reduced) (G__law_reduced E) _ := (dss_cons (ds_set C (i := 2) rfl (loc_by (by decide +kernel)) (.inl (hfn _)) (de_fn C hE M__law_common (by decide) (by decide +kernel) a__law_common kp__law_common b__law_common_2 .nil (das_dat C (de_var C (i := 0) rfl (vis_by (by decide +kernel))) (das_dat C (de_var C (i := 1) rfl (vis_by (by decide +kernel))) das_nil)) rfl))
    (dss_one (ds_ret C (de_tup C (da_cons C (de_bin C dop_fdiv (DE.bo (de_var C (i := 0) rfl (vis_by (by decide +kernel)))) (DE.bo (de_var C (i := 2) rfl (vis_by (by decide +kernel))))) (da_cons C (de_bin C dop_fdiv (DE.bo (de_var C (i := 1) rfl (vis_by (by decide +kernel)))) (DE.bo (de_var C (i := 2) rfl (vis_by (by decide +kernel))))) da_nil))))))
  exact ⟨_, by decide +kernel, d⟩
theorem sc__law_plus : FnScope N__law_plus ["one", "other"] (defScope s__law_plus) := ⟨rfl, rfl, rfl, by decide +kernel, rfl, by decide +kernel, by decide +kernel⟩
theorem ok__law_plus {P : Program} {w : World} {K : PySem.W.Frag} {mg : Str → Option Value} {base : Heap} {f : Addr} {od an : Option Addr} {osl : Array (Option Value)} {oc dV kV doc pm cdv ct : Value}
    (lk : K.lookup f = some ⟨oc, od, .func (PySem.W.fnOf "_law_plus" "_law_plus" (defArgs s__law_plus) (defBody s__law_plus) (defScope s__law_plus) dV kV doc pm an cdv ct), osl⟩) (cd : PySem.W.codeIn K cdv "_law_plus" = true)
    {f__law_reduced : Addr} {fd__law_reduced : FuncData} (M__law_reduced : FnD P w K mg base 2 f__law_reduced fd__law_reduced ["top", "low"] F__law_reduced 0) (a__law_reduced : mg "_law_reduced" = some (.ref f__law_reduced)) (kp__law_reduced : PySem.W.keepIn K (.ref f__law_reduced) = true)
    (b__law_reduced_2 : BindG K fd__law_reduced ["top", "low"] 2 [] []) :
    FnD P w K mg base 3 f (PySem.W.fnOf "_law_plus" "_law_plus" (defArgs s__law_plus) (defBody s__law_plus) (defScope s__law_plus) dV kV doc pm an cdv ct) ["one", "other"] F__law_plus 0 := by
  unfold F__law_plus
  refine fnd_by lk cd sc__law_plus (g := G__law_plus) (by decide) (fun X W E hE h1 h2 h3 h4 h5 hfn C => ?_)
  subst h1 h2 h3 h4 h5
  have d : DSs X W (defBody s__law_plus) (G__law_plus E) _ := (dss_one (ds_ret C (de_fn C hE M__law_reduced (by decide) (by decide +kernel) a__law_reduced kp__law_reduced b__law_reduced_2 .nil (das_dat C (de_bin C dop_add (DE.bo (de_bin C dop_mul (DE.bo (de_ix C dix (DE.bo (de_var C (i := 0) rfl (vis_by (by decide +kernel)))) (DE.bo de_int))) (DE.bo (de_ix C dix (DE.bo (de_var C (i := 1) rfl (vis_by (by decide +kernel)))) (DE.bo de_int))))) (DE.bo (de_bin C dop_mul (DE.bo (de_ix C dix (DE.bo (de_var C (i := 1) rfl (vis_by (by decide +kernel)))) (DE.bo de_int))) (DE.bo (de_ix C dix (DE.bo (de_var C (i := 0) rfl (vis_by (by decide +kernel)))) (DE.bo de_int)))))) (das_dat C (de_bin C dop_mul (DE.bo (de_ix C dix (DE.bo (de_var C (i := 0) rfl (vis_by (by decide +kernel)))) (DE.bo de_int))) (DE.bo (de_ix C dix (DE.bo (de_var C (i := 1) rfl (vis_by (by decide +kernel)))) (DE.bo de_int)))) das_nil)) rfl)))
  exact ⟨_, by decide +kernel, d⟩
theorem sc__law_times : FnScope N__law_times ["one", "other"] (defScope s__law_times) := ⟨rfl, rfl, rfl, by decide +kernel, rfl, by decide +kernel, by decide +kernel⟩
theorem ok__law_times {P : Program} {w : World} {K : PySem.W.Frag} {mg : Str → Option Value} {base : Heap} {f : Addr} {od an : Option Addr} {osl : Array (Option Value)} {oc dV kV doc pm cdv ct : Value}
    (lk : K.lookup f = some ⟨oc, od, .func (PySem.W.fnOf "_law_times" "_law_times" (defArgs s__law_times) (defBody s__law_times) (defScope s__law_times) dV kV doc pm an cdv ct), osl⟩) (cd : PySem.W.codeIn K cdv "_law_times" = true)
    {f__law_reduced : Addr} {fd__law_reduced : FuncData} (M__law_reduced : FnD P w K mg base 2 f__law_reduced fd__law_reduced ["top", "low"] F__law_reduced 0) (a__law_reduced : mg "_law_reduced" = some (.ref f__law_reduced)) (kp__law_reduced : PySem.W.keepIn K (.ref f__law_reduced) = true)
    (b__law_reduced_2 : BindG K fd__law_reduced ["top", "low"] 2 [] []) :
    FnD P w K mg base 3 f (PySem.W.fnOf "_law_times" "_law_times" (defArgs s__law_times) (defBody s__law_times) (defScope s__law_times) dV kV doc pm an cdv ct) ["one", "other"] F__law_times 0 := by
  unfold F__law_times
  refine fnd_by lk cd sc__law_times (g := G__law_times) (by decide) (fun X W E hE h1 h2 h3 h4 h5 hfn C => ?_)
  subst h1 h2 h3 h4 h5
  have d : DSs X W (defBody s__law_times) (G__law_times E) _ := (dss_one (ds_ret C (de_fn C hE M__law_reduced (by decide) (by decide +kernel) a__law_reduced kp__law_reduced b__law_reduced_2 .nil (das_dat C (de_bin C dop_mul (DE.bo (de_ix C dix (DE.bo (de_var C (i := 0) rfl (vis_by (by decide +kernel)))) (DE.bo de_int))) (DE.bo (de_ix C dix (DE.bo (de_var C (i := 1) rfl (vis_by (by decide +kernel)))) (DE.bo de_int)))) (das_dat C (de_bin C dop_mul (DE.bo (de_ix C dix (DE.bo (de_var C (i := 0) rfl (vis_by (by decide +kernel)))) (DE.bo de_int))) (DE.bo (de_ix C dix (DE.bo (de_var C (i := 1) rfl (vis_by (by decide +kernel)))) (DE.bo de_int)))) das_nil)) rfl)))
  exact ⟨_, by decide +kernel, d⟩
theorem sc__law_values : FnScope N__law_values ["first", "step", "many"] (defScope s__law_values) := ⟨rfl, rfl, rfl, by decide +kernel, rfl, by decide +kernel, by decide +kernel⟩
theorem ok__law_values {P : Program} {w : World} {K : PySem.W.Frag} {mg : Str → Option Value} {base : Heap} {f : Addr} {od an : Option Addr} {osl : Array (Option Value)} {oc dV kV doc pm cdv ct : Value}
    (lk : K.lookup f = some ⟨oc, od, .func (PySem.W.fnOf "_law_values" "_law_values" (defArgs s__law_values) (defBody s__law_values) (defScope s__law_values) dV kV doc pm an cdv ct), osl⟩) (cd : PySem.W.codeIn K cdv "_law_values" = true)
    {f__law_plus : Addr} {fd__law_plus : FuncData} (M__law_plus : FnD P w K mg base 3 f__law_plus fd__law_plus ["one", "other"] F__law_plus 0) (a__law_plus : mg "_law_plus" = some (.ref f__law_plus)) (kp__law_plus : PySem.W.keepIn K (.ref f__law_plus) = true)
    {f__law_times : Addr} {fd__law_times : FuncData} (M__law_times : FnD P w K mg base 3 f__law_times fd__law_times ["one", "other"] F__law_times 0) (a__law_times : mg "_law_times" = some (.ref f__law_times)) (kp__law_times : PySem.W.keepIn K (.ref f__law_times) = true)
    (b__law_plus_2 : BindG K fd__law_plus ["one", "other"] 2 [] [])
    (b__law_times_2 : BindG K fd__law_times ["one", "other"] 2 [] [])
    (m_range : mg "range" = none) :
    FnD P w K mg base 4 f (PySem.W.fnOf "_law_values" "_law_values" (defArgs s__law_values) (defBody s__law_values) (defScope s__law_values) dV kV doc pm an cdv ct) ["first", "step", "many"] F__law_values 0 := by
  unfold F__law_values
  refine fnd_by lk cd sc__law_values (g := G__law_values) (by decide) (fun X W E hE h1 h2 h3 h4 h5 hfn C => ?_)
  subst h1 h2 h3 h4 h5
  have d : DSs X W (defBody s__law_values) (G__law_values E) _ := (dss_one (ds_ret C (DF.da C (df_lc (own := [("at", 3)]) C 0 (DI.bo (di_range1 C (by decide +kernel) m_range (DE.bo (de_var C (i := 2) rfl (vis_by (by decide +kernel)))))) (blkOk_by (own := [("at", 3)]) (by decide +kernel)) (blk_use C fun _ _ _ _ _ _ C1 => (dg_name C1 (i := 3) rfl (loc_by (by decide +kernel)) (.inr (by decide +kernel)))) (blk_use C fun _ _ _ _ _ _ C1 => PTsD.le (c := 0) dts_nil (by decide +kernel)) (blk_use C fun _ _ _ _ _ _ C1 => DE.le (c := 0) (de_fn C1 rfl M__law_plus (by decide) (by decide +kernel) a__law_plus kp__law_plus b__law_plus_2 .nil (das_dat C1 (de_var C1 (i := 0) rfl (vis_by (by decide +kernel))) (das_dat C1 (de_fn C1 rfl M__law_times (by decide) (by decide +kernel) a__law_times kp__law_times b__law_times_2 .nil (das_dat C1 (de_tup C1 (da_cons C1 (de_var C1 (i := 3) rfl (vis_by (by decide +kernel))) (da_cons C1 de_int da_nil))) (das_dat C1 (de_var C1 (i := 1) rfl (vis_by (by decide +kernel))) das_nil)) rfl) das_nil)) rfl) (by decide +kernel)) (by decide)))))
  exact ⟨_, by decide +kernel, d⟩
theorem sc__law_less : FnScope N__law_less ["one", "other"] (defScope s__law_less) := ⟨rfl, rfl, rfl, by decide +kernel, rfl, by decide +kernel, by decide +kernel⟩
theorem ok__law_less {P : Program} {w : World} {K : PySem.W.Frag} {mg : Str → Option Value} {base : Heap} {f : Addr} {od an : Option Addr} {osl : Array (Option Value)} {oc dV kV doc pm cdv ct : Value}
    (lk : K.lookup f = some ⟨oc, od, .func (PySem.W.fnOf "_law_less" "_law_less" (defArgs s__law_less) (defBody s__law_less) (defScope s__law_less) dV kV doc pm an cdv ct), osl⟩) (cd : PySem.W.codeIn K cdv "_law_less" = true)
     :
    FnD P w K mg base 1 f (PySem.W.fnOf "_law_less" "_law_less" (defArgs s__law_less) (defBody s__law_less) (defScope s__law_less) dV kV doc pm an cdv ct) ["one", "other"] F__law_less 0 := by
  unfold F__law_less
  refine fnd_by lk cd sc__law_less (g := G__law_less) (by decide) (fun X W E hE h1 h2 h3 h4 h5 hfn C => ?_)
  subst h1 h2 h3 h4 h5
  have d : DSs X W (defBody s__law_less) (G__law_less E) _ := (dss_one (ds_ret C (de_cmp C dop_lt (DE.bo (de_bin C dop_mul (DE.bo (de_ix C dix (DE.bo (de_var C (i := 0) rfl (vis_by (by decide +kernel)))) (DE.bo de_int))) (DE.bo (de_ix C dix (DE.bo (de_var C (i := 1) rfl (vis_by (by decide +kernel)))) (DE.bo de_int))))) (DE.bo (de_bin C dop_mul (DE.bo (de_ix C dix (DE.bo (de_var C (i := 1) rfl (vis_by (by decide +kernel)))) (DE.bo de_int))) (DE.bo (de_ix C dix (DE.bo (de_var C (i := 0) rfl (vis_by (by decide +kernel)))) (DE.bo de_int))))))))
  exact ⟨_, by decide +kernel, d⟩
theorem sc__law_power : FnScope N__law_power ["power"] (defScope s__law_power) := ⟨rfl, rfl, rfl, by decide +kernel, rfl, by decide +kernel, by decide +kernel⟩
theorem ok__law_power {P : Program} {w : World} {K : PySem.W.Frag} {mg : Str → Option Value} {base : Heap} {f : Addr} {od an : Option Addr} {osl : Array (Option Value)} {oc dV kV doc pm cdv ct : Value}
    (lk : K.lookup f = some ⟨oc, od, .func (PySem.W.fnOf "_law_power" "_law_power" (defArgs s__law_power) (defBody s__law_power) (defScope s__law_power) dV kV doc pm an cdv ct), osl⟩) (cd : PySem.W.codeIn K cdv "_law_power" = true)
    (m_range : mg "range" = none)
    (m_abs : mg "abs" = none) :
    FnD P w K mg base 1 f (PySem.W.fnOf "_law_power" "_law_power" (defArgs s__law_power) (defBody s__law_power) (defScope s__law_power) dV kV doc pm an cdv ct) ["power"] F__law_power 0 := by
  unfold F__law_power
  refine fnd_by lk cd sc__law_power (g := G__law_power) (by decide) (fun X W E hE h1 h2 h3 h4 h5 hfn C => ?_)
  subst h1 h2 h3 h4 h5
  have d : DSs X W (defBody s__law_power) (G__law_power E) _ := (dss_cons (ds_set C (i := 1) rfl (loc_by (by decide +kernel)) (.inl (hfn _)) de_int)
    (dss_cons (ds_for C 0 (di_range1 C (by decide +kernel) m_range (DE.bo (de_callB C dc_abs (by decide +kernel) m_abs boot_abs (db_cons C (DE.bo (de_var C (i := 0) rfl (vis_by (by decide +kernel)))) db_nil)))) (dg_name C (i := 2) rfl (loc_by (by decide +kernel)) (.inl (hfn _))) (DSs.le (c := 0) (dss_one (ds_set C (i := 1) rfl (loc_by (by decide +kernel)) (.inl (hfn _)) (de_bin C dop_mul (DE.bo (de_var C (i := 1) rfl (vis_by (by decide +kernel)))) (DE.bo de_int)))) (by decide +kernel)))
    (dss_one (ds_ret C (de_if C (dt_cmp C dop_ge (DE.bo (de_var C (i := 0) rfl (vis_by (by decide +kernel)))) (DE.bo de_int)) (de_tup C (da_cons C (de_var C (i := 1) rfl (vis_by (by decide +kernel))) (da_cons C de_int da_nil))) (de_tup C (da_cons C de_int (da_cons C (de_var C (i := 1) rfl (vis_by (by decide +kernel))) da_nil))))))))
  exact ⟨_, by decide +kernel, d⟩
theorem sc__law_parts : FnScope N__law_parts ["step"] (defScope s__law_parts) := ⟨rfl, rfl, rfl, by decide +kernel, rfl, by decide +kernel, by decide +kernel⟩
theorem ok__law_parts {P : Program} {w : World} {K : PySem.W.Frag} {mg : Str → Option Value} {base : Heap} {f : Addr} {od an : Option Addr} {osl : Array (Option Value)} {oc dV kV doc pm cdv ct : Value}
    (lk : K.lookup f = some ⟨oc, od, .func (PySem.W.fnOf "_law_parts" "_law_parts" (defArgs s__law_parts) (defBody s__law_parts) (defScope s__law_parts) dV kV doc pm an cdv ct), osl⟩) (cd : PySem.W.codeIn K cdv "_law_parts" = true)
    {f__law_times : Addr} {fd__law_times : FuncData} (M__law_times : FnD P w K mg base 3 f__law_times fd__law_times ["one", "other"] F__law_times 0) (a__law_times : mg "_law_times" = some (.ref f__law_times)) (kp__law_times : PySem.W.keepIn K (.ref f__law_times) = true)
    {f__law_power : Addr} {fd__law_power : FuncData} (M__law_power : FnD P w K mg base 1 f__law_power fd__law_power ["power"] F__law_power 0) (a__law_power : mg "_law_power" = some (.ref f__law_power)) (kp__law_power : PySem.W.keepIn K (.ref f__law_power) = true)
    (b__law_times_2 : BindG K fd__law_times ["one", "other"] 2 [] [])
    (b__law_power_1 : BindG K fd__law_power ["power"] 1 [] [])
    (m_len : mg "len" = none)
    (m_str : mg "str" = none) :
    FnD P w K mg base 4 f (PySem.W.fnOf "_law_parts" "_law_parts" (defArgs s__law_parts) (defBody s__law_parts) (defScope s__law_parts) dV kV doc pm an cdv ct) ["step"] F__law_parts 0 := by
  unfold F__law_parts
  refine fnd_by lk cd sc__law_parts (g := G__law_parts) (by decide) (fun X W E hE h1 h2 h3 h4 h5 hfn C => ?_)
  subst h1 h2 h3 h4 h5
  have d : DSs X W (defBody s__law_parts) (G__law_parts E) _ := (dss_cons (ds_if C (dt_cmp C dop_lt (DE.bo (de_ix C dix (DE.bo (de_var C (i := 0) rfl (vis_by (by decide +kernel)))) (DE.bo de_int))) (DE.bo de_int)) (dss_one (ds_ret C de_non)) dss_nil)
    (dss_cons (ds_set C (i := 1) rfl (loc_by (by decide +kernel)) (.inl (hfn _)) (de_bin C dop_sub (DE.bo (de_callB C dc_len (by decide +kernel) m_len PySem.boot_len (db_cons C (DE.bo (de_callT C dc_str (by decide +kernel) m_str boot_str (db_cons C (DE.bo (de_ix C dix (DE.bo (de_var C (i := 0) rfl (vis_by (by decide +kernel)))) (DE.bo de_int))) db_nil))) db_nil))) (DE.bo (de_callB C dc_len (by decide +kernel) m_len PySem.boot_len (db_cons C (DE.bo (de_callT C dc_str (by decide +kernel) m_str boot_str (db_cons C (DE.bo (de_ix C dix (DE.bo (de_var C (i := 0) rfl (vis_by (by decide +kernel)))) (DE.bo de_int))) db_nil))) db_nil)))))
    (dss_cons (ds_for C 0 (di_seq C (de_tup C (da_cons C (de_bin C dop_sub (DE.bo (de_var C (i := 1) rfl (vis_by (by decide +kernel)))) (DE.bo de_int)) (da_cons C (de_var C (i := 1) rfl (vis_by (by decide +kernel))) (da_cons C (de_bin C dop_add (DE.bo (de_var C (i := 1) rfl (vis_by (by decide +kernel)))) (DE.bo de_int)) da_nil))))) (dg_name C (i := 2) rfl (loc_by (by decide +kernel)) (.inl (hfn _))) (DSs.le (c := 0) (dss_one (ds_for C 0 (di_seq C (de_tup C (da_cons C de_int (da_cons C de_int (da_cons C de_int da_nil))))) (dg_name C (i := 3) rfl (loc_by (by decide +kernel)) (.inl (hfn _))) (DSs.le (c := 0) (dss_one (ds_if C (dt_cmp C (dop_eq C.units) (DE.bo (de_fn C hE M__law_times (by decide) (by decide +kernel) a__law_times kp__law_times b__law_times_2 .nil (das_dat C (de_tup C (da_cons C (de_var C (i := 3) rfl (vis_by (by decide +kernel))) (da_cons C de_int da_nil))) (das_dat C (de_fn C hE M__law_power (by decide) (by decide +kernel) a__law_power kp__law_power b__law_power_1 .nil (das_dat C (de_var C (i := 2) rfl (vis_by (by decide +kernel))) das_nil) rfl) das_nil)) rfl)) (DE.bo (de_var C (i := 0) rfl (vis_by (by decide +kernel))))) (dss_one (ds_ret C (de_tup C (da_cons C (de_var C (i := 3) rfl (vis_by (by decide +kernel))) (da_cons C (de_var C (i := 2) rfl (vis_by (by decide +kernel))) da_nil))))) dss_nil)) (by decide +kernel)))) (by decide +kernel)))
    (dss_one (ds_ret C de_non)))))
  exact ⟨_, by decide +kernel, d⟩
theorem sc__law_text : FnScope N__law_text ["one"] (defScope s__law_text) := ⟨rfl, rfl, rfl, by decide +kernel, rfl, by decide +kernel, by decide +kernel⟩
theorem ok__law_text {P : Program} {w : World} {K : PySem.W.Frag} {mg : Str → Option Value} {base : Heap} {f : Addr} {od an : Option Addr} {osl : Array (Option Value)} {oc dV kV doc pm cdv ct : Value}
    (lk : K.lookup f = some ⟨oc, od, .func (PySem.W.fnOf "_law_text" "_law_text" (defArgs s__law_text) (defBody s__law_text) (defScope s__law_text) dV kV doc pm an cdv ct), osl⟩) (cd : PySem.W.codeIn K cdv "_law_text" = true)
    (m_str : mg "str" = none) :
    FnD P w K mg base 1 f (PySem.W.fnOf "_law_text" "_law_text" (defArgs s__law_text) (defBody s__law_text) (defScope s__law_text) dV kV doc pm an cdv ct) ["one"] F__law_text 0 := by
  unfold F__law_text
  refine fnd_by lk cd sc__law_text (g := G__law_text) (by decide) (fun X W E hE h1 h2 h3 h4 h5 hfn C => ?_)
  subst h1 h2 h3 h4 h5
  have d : DSs X W (defBody s__law_text) (G__law_text E) _ := (dss_one (ds_ret C (de_if C (dt_cmp C (dop_eq C.units) (DE.bo (de_ix C dix (DE.bo (de_var C (i := 0) rfl (vis_by (by decide +kernel)))) (DE.bo de_int))) (DE.bo de_int)) (de_callT C dc_str (by decide +kernel) m_str boot_str (db_cons C (DE.bo (de_ix C dix (DE.bo (de_var C (i := 0) rfl (vis_by (by decide +kernel)))) (DE.bo de_int))) db_nil)) (de_bin C dop_add (DE.bo (de_bin C dop_add (DE.bo (de_callT C dc_str (by decide +kernel) m_str boot_str (db_cons C (DE.bo (de_ix C dix (DE.bo (de_var C (i := 0) rfl (vis_by (by decide +kernel)))) (DE.bo de_int))) db_nil))) (DE.bo de_str))) (DE.bo (de_callT C dc_str (by decide +kernel) m_str boot_str (db_cons C (DE.bo (de_ix C dix (DE.bo (de_var C (i := 0) rfl (vis_by (by decide +kernel)))) (DE.bo de_int))) db_nil)))))))
  exact ⟨_, by decide +kernel, d⟩
theorem sc__law_cost : FnScope N__law_cost ["ticks", "ends", "wishes"] (defScope s__law_cost) := ⟨rfl, rfl, rfl, by decide +kernel, rfl, by decide +kernel, by decide +kernel⟩
theorem ok__law_cost {P : Program} {w : World} {K : PySem.W.Frag} {mg : Str → Option Value} {base : Heap} {f : Addr} {od an : Option Addr} {osl : Array (Option Value)} {oc dV kV doc pm cdv ct : Value}
    (lk : K.lookup f = some ⟨oc, od, .func (PySem.W.fnOf "_law_cost" "_law_cost" (defArgs s__law_cost) (defBody s__law_cost) (defScope s__law_cost) dV kV doc pm an cdv ct), osl⟩) (cd : PySem.W.codeIn K cdv "_law_cost" = true)
    {f__law_values : Addr} {fd__law_values : FuncData} (M__law_values : FnD P w K mg base 4 f__law_values fd__law_values ["first", "step", "many"] F__law_values 0) (a__law_values : mg "_law_values" = some (.ref f__law_values)) (kp__law_values : PySem.W.keepIn K (.ref f__law_values) = true)
    {f__law_less : Addr} {fd__law_less : FuncData} (M__law_less : FnD P w K mg base 1 f__law_less fd__law_less ["one", "other"] F__law_less 0) (a__law_less : mg "_law_less" = some (.ref f__law_less)) (kp__law_less : PySem.W.keepIn K (.ref f__law_less) = true)
    {f__law_parts : Addr} {fd__law_parts : FuncData} (M__law_parts : FnD P w K mg base 4 f__law_parts fd__law_parts ["step"] F__law_parts 0) (a__law_parts : mg "_law_parts" = some (.ref f__law_parts)) (kp__law_parts : PySem.W.keepIn K (.ref f__law_parts) = true)
    {f__law_text : Addr} {fd__law_text : FuncData} (M__law_text : FnD P w K mg base 1 f__law_text fd__law_text ["one"] F__law_text 0) (a__law_text : mg "_law_text" = some (.ref f__law_text)) (kp__law_text : PySem.W.keepIn K (.ref f__law_text) = true)
    (b__law_values_3 : BindG K fd__law_values ["first", "step", "many"] 3 [] [])
    (b__law_less_2 : BindG K fd__law_less ["one", "other"] 2 [] [])
    (b__law_parts_1 : BindG K fd__law_parts ["step"] 1 [] [])
    (b__law_text_1 : BindG K fd__law_text ["one"] 1 [] [])
    (m_len : mg "len" = none)
    (m_abs : mg "abs" = none)
    (m_int : mg "int" = none)
    (m_max : mg "max" = none) :
    FnD P w K mg base 5 f (PySem.W.fnOf "_law_cost" "_law_cost" (defArgs s__law_cost) (defBody s__law_cost) (defScope s__law_cost) dV kV doc pm an cdv ct) ["ticks", "ends", "wishes"] F__law_cost 0 := by
  unfold F__law_cost
  refine fnd_by lk cd sc__law_cost (g := G__law_cost) (by decide) (fun X W E hE h1 h2 h3 h4 h5 hfn C => ?_)
  subst h1 h2 h3 h4 h5
  have d : DSs X W (defBody s__law_cost) (G__law_cost E) _ := (dss_cons (ds_asg C (de_var C (i := 0) rfl (vis_by (by decide +kernel))) (dg_tup C (dgs_cons (dg_name C (i := 3) rfl (loc_by (by decide +kernel)) (.inl (hfn _))) (dgs_cons (dg_name C (i := 4) rfl (loc_by (by decide +kernel)) (.inl (hfn _))) (dgs_cons (dg_name C (i := 5) rfl (loc_by (by decide +kernel)) (.inl (hfn _))) dgs_nil)))))
    (dss_cons (ds_set C (i := 6) rfl (loc_by (by decide +kernel)) (.inl (hfn _)) (de_fn C hE M__law_values (by decide) (by decide +kernel) a__law_values kp__law_values b__law_values_3 .nil (das_dat C (de_var C (i := 3) rfl (vis_by (by decide +kernel))) (das_dat C (de_var C (i := 4) rfl (vis_by (by decide +kernel))) (das_dat C (de_var C (i := 5) rfl (vis_by (by decide +kernel))) das_nil))) rfl))
    (dss_cons (ds_if C (DW.t (dw_or C (dt_val (DE.bo (de_fn C hE M__law_less (by decide) (by decide +kernel) a__law_less kp__law_less b__law_less_2 .nil (das_dat C (de_ix C dix (DE.bo (de_var C (i := 1) rfl (vis_by (by decide +kernel)))) (DE.bo de_int)) (das_dat C (de_var C (i := 3) rfl (vis_by (by decide +kernel))) das_nil)) rfl))) (dw_or1 (dt_val (DE.bo (de_fn C hE M__law_less (by decide) (by decide +kernel) a__law_less kp__law_less b__law_less_2 .nil (das_dat C (de_ix C dix (DE.bo (de_var C (i := 6) rfl (vis_by (by decide +kernel)))) (DE.bo (de_neg (DE.bo de_int)))) (das_dat C (de_ix C dix (DE.bo (de_var C (i := 1) rfl (vis_by (by decide +kernel)))) (DE.bo de_int)) das_nil)) rfl)))))) (dss_one (ds_ret C de_non)) dss_nil)
    (dss_cons (ds_set C (i := 7) rfl (loc_by (by decide +kernel)) (.inl (hfn _)) (de_callB C dc_len (by decide +kernel) m_len PySem.boot_len (db_cons C (DE.bo (DF.da C (df_lc (own := [("one", 9)]) C 0 (DI.bo (di_seq C (de_sl C dsl (DE.bo (de_var C (i := 6) rfl (vis_by (by decide +kernel)))) (dp_some (DE.bo de_int)) dp_none))) (blkOk_by (own := [("one", 9)]) (by decide +kernel)) (blk_use C fun _ _ _ _ _ _ C1 => (dg_name C1 (i := 9) rfl (loc_by (by decide +kernel)) (.inr (by decide +kernel)))) (blk_use C fun _ _ _ _ _ _ C1 => PTsD.le (c := 0) (dts_one (dt_not (dt_val (DE.bo (de_fn C1 rfl M__law_less (by decide) (by decide +kernel) a__law_less kp__law_less b__law_less_2 .nil (das_dat C1 (de_ix C1 dix (DE.bo (de_var C1 (i := 1) rfl (vis_by (by decide +kernel)))) (DE.bo de_int)) (das_dat C1 (de_var C1 (i := 9) rfl (vis_by (by decide +kernel))) das_nil)) rfl))))) (by decide +kernel)) (blk_use C fun _ _ _ _ _ _ C1 => DE.le (c := 0) (de_var C1 (i := 9) rfl (vis_by (by decide +kernel))) (by decide +kernel)) (by decide)))) db_nil)))
    (dss_cons (ds_set C (i := 7) rfl (loc_by (by decide +kernel)) (.inl (hfn _)) (de_bin C dop_add (DE.bo (de_var C (i := 7) rfl (vis_by (by decide +kernel)))) (DE.bo (de_callB C dc_len (by decide +kernel) m_len PySem.boot_len (db_cons C (DE.bo (DF.da C (df_lc (own := [("one", 9)]) C 0 (DI.bo (di_seq C (de_sl C dsl (DE.bo (de_var C (i := 6) rfl (vis_by (by decide +kernel)))) dp_none (dp_some (DE.bo (de_neg (DE.bo de_int))))))) (blkOk_by (own := [("one", 9)]) (by decide +kernel)) (blk_use C fun _ _ _ _ _ _ C1 => (dg_name C1 (i := 9) rfl (loc_by (by decide +kernel)) (.inr (by decide +kernel)))) (blk_use C fun _ _ _ _ _ _ C1 => PTsD.le (c := 0) (dts_one (dt_not (dt_val (DE.bo (de_fn C1 rfl M__law_less (by decide) (by decide +kernel) a__law_less kp__law_less b__law_less_2 .nil (das_dat C1 (de_var C1 (i := 9) rfl (vis_by (by decide +kernel))) (das_dat C1 (de_ix C1 dix (DE.bo (de_var C1 (i := 1) rfl (vis_by (by decide +kernel)))) (DE.bo de_int)) das_nil)) rfl))))) (by decide +kernel)) (blk_use C fun _ _ _ _ _ _ C1 => DE.le (c := 0) (de_var C1 (i := 9) rfl (vis_by (by decide +kernel))) (by decide +kernel)) (by decide)))) db_nil)))))
    (dss_cons (ds_set C (i := 8) rfl (loc_by (by decide +kernel)) (.inl (hfn _)) (de_bin C dop_add (DE.bo (de_bin C dop_mul (DE.bo (de_ix C dix (DE.bo (de_var C (i := 2) rfl (vis_by (by decide +kernel)))) (DE.bo de_int))) (DE.bo (de_index C (DE.bo (DF.da C (df_lst C (da_cons C de_int (da_cons C de_int (da_cons C de_int da_nil)))))) (DE.bo (de_ix C dix (DE.bo (de_fn C hE M__law_parts (by decide) (by decide +kernel) a__law_parts kp__law_parts b__law_parts_1 .nil (das_dat C (de_var C (i := 4) rfl (vis_by (by decide +kernel))) das_nil) rfl)) (DE.bo de_int))))))) (DE.bo (de_bin C dop_mul (DE.bo (de_ix C dix (DE.bo (de_var C (i := 2) rfl (vis_by (by decide +kernel)))) (DE.bo de_int))) (DE.bo (de_callB C dc_abs (by decide +kernel) m_abs boot_abs (db_cons C (DE.bo (de_bin C dop_sub (DE.bo (de_var C (i := 5) rfl (vis_by (by decide +kernel)))) (DE.bo (de_ix C dix (DE.bo (de_var C (i := 2) rfl (vis_by (by decide +kernel)))) (DE.bo de_int))))) db_nil)))))))
    (dss_one (ds_ret C (de_callT C dc_int (by decide +kernel) m_int boot_int (db_cons C (DE.bo (de_bin C dop_add (DE.bo (de_bin C dop_add (DE.bo (de_var C (i := 8) rfl (vis_by (by decide +kernel)))) (DE.bo (de_bin C dop_mul (DE.bo (de_ix C dix (DE.bo (de_var C (i := 2) rfl (vis_by (by decide +kernel)))) (DE.bo de_int))) (DE.bo (de_var C (i := 7) rfl (vis_by (by decide +kernel)))))))) (DE.bo (de_bin C dop_mul (DE.bo (de_ix C dix (DE.bo (de_var C (i := 2) rfl (vis_by (by decide +kernel)))) (DE.bo de_int))) (DE.bo (de_callB C (dc_max C.calm) (by decide +kernel) m_max boot_max (db_cons C (DE.bo (DF.da C (df_lc (own := [("one", 9)]) C 0 (DI.bo (di_seq C (de_var C (i := 6) rfl (vis_by (by decide +kernel))))) (blkOk_by (own := [("one", 9)]) (by decide +kernel)) (blk_use C fun _ _ _ _ _ _ C1 => (dg_name C1 (i := 9) rfl (loc_by (by decide +kernel)) (.inr (by decide +kernel)))) (blk_use C fun _ _ _ _ _ _ C1 => PTsD.le (c := 0) dts_nil (by decide +kernel)) (blk_use C fun _ _ _ _ _ _ C1 => DE.le (c := 0) (de_callB C1 dc_len (by decide +kernel) m_len PySem.boot_len (db_cons C1 (DE.bo (de_fn C1 rfl M__law_text (by decide) (by decide +kernel) a__law_text kp__law_text b__law_text_1 .nil (das_dat C1 (de_var C1 (i := 9) rfl (vis_by (by decide +kernel))) das_nil) rfl)) db_nil)) (by decide +kernel)) (by decide)))) db_nil))))))) db_nil))))))))))
  exact ⟨_, by decide +kernel, d⟩
theorem sc_is_integer : FnScope N_is_integer ["value"] (defScope s_is_integer) := ⟨rfl, rfl, rfl, by decide +kernel, rfl, by decide +kernel, by decide +kernel⟩
theorem ok_is_integer {P : Program} {w : World} {K : PySem.W.Frag} {mg : Str → Option Value} {base : Heap} {f : Addr} {od an : Option Addr} {osl : Array (Option Value)} {oc dV kV doc pm cdv ct : Value}
    (lk : K.lookup f = some ⟨oc, od, .func (PySem.W.fnOf "is_integer" "is_integer" (defArgs s_is_integer) (defBody s_is_integer) (defScope s_is_integer) dV kV doc pm an cdv ct), osl⟩) (cd : PySem.W.codeIn K cdv "is_integer" = true)
    (m_isinstance : mg "isinstance" = none)
    (m_bool : mg "bool" = none)
    (m_int : mg "int" = none) :
    FnD P w K mg base 1 f (PySem.W.fnOf "is_integer" "is_integer" (defArgs s_is_integer) (defBody s_is_integer) (defScope s_is_integer) dV kV doc pm an cdv ct) ["value"] F_is_integer 0 := by
  unfold F_is_integer
  refine fnd_by lk cd sc_is_integer (g := G_is_integer) (by decide) (fun X W E hE h1 h2 h3 h4 h5 hfn C => ?_)
  subst h1 h2 h3 h4 h5
  have d : DSs X W (defBody s_is_integer) (G_is_integer E) _ := (dss_one (ds_ret C (de_and C (de_isi C isi_int (by decide +kernel) m_isinstance (by decide +kernel) m_int boot_int (DE.bo (de_var C (i := 0) rfl (vis_by (by decide +kernel))))) (de_one (de_not (de_isi C isi_bool (by decide +kernel) m_isinstance (by decide +kernel) m_bool boot_bool (DE.bo (de_var C (i := 0) rfl (vis_by (by decide +kernel))))))))))
  exact ⟨_, by decide +kernel, d⟩
theorem sc_is_between : FnScope N_is_between ["value", "low", "high"] (defScope s_is_between) := ⟨rfl, rfl, rfl, by decide +kernel, rfl, by decide +kernel, by decide +kernel⟩
theorem ok_is_between {P : Program} {w : World} {K : PySem.W.Frag} {mg : Str → Option Value} {base : Heap} {f : Addr} {od an : Option Addr} {osl : Array (Option Value)} {oc dV kV doc pm cdv ct : Value}
    (lk : K.lookup f = some ⟨oc, od, .func (PySem.W.fnOf "is_between" "is_between" (defArgs s_is_between) (defBody s_is_between) (defScope s_is_between) dV kV doc pm an cdv ct), osl⟩) (cd : PySem.W.codeIn K cdv "is_between" = true)
    {f_is_integer : Addr} {fd_is_integer : FuncData} (M_is_integer : FnD P w K mg base 1 f_is_integer fd_is_integer ["value"] F_is_integer 0) (a_is_integer : mg "is_integer" = some (.ref f_is_integer)) (kp_is_integer : PySem.W.keepIn K (.ref f_is_integer) = true)
    (b_is_integer_1 : BindG K fd_is_integer ["value"] 1 [] []) :
    FnD P w K mg base 2 f (PySem.W.fnOf "is_between" "is_between" (defArgs s_is_between) (defBody s_is_between) (defScope s_is_between) dV kV doc pm an cdv ct) ["value", "low", "high"] F_is_between 0 := by
  unfold F_is_between
  refine fnd_by lk cd sc_is_between (g := G_is_between) (by decide) (fun X W E hE h1 h2 h3 h4 h5 hfn C => ?_)
  subst h1 h2 h3 h4 h5
  have d : DSs X W (defBody s_is_between) (G_is_between E) _ := (dss_one (ds_ret C (de_and C (de_fn C hE M_is_integer (by decide) (by decide +kernel) a_is_integer kp_is_integer b_is_integer_1 .nil (das_dat C (de_var C (i := 0) rfl (vis_by (by decide +kernel))) das_nil) rfl) (de_one (de_chain C dop_le dop_le (DE.bo (de_var C (i := 1) rfl (vis_by (by decide +kernel)))) (DE.bo (de_var C (i := 0) rfl (vis_by (by decide +kernel)))) (DE.bo (de_var C (i := 2) rfl (vis_by (by decide +kernel)))))))))
  exact ⟨_, by decide +kernel, d⟩
theorem sc_common : FnScope N_common ["one", "other"] (defScope s_common) := ⟨rfl, rfl, rfl, by decide +kernel, rfl, by decide +kernel, by decide +kernel⟩
theorem ok_common {P : Program} {w : World} {K : PySem.W.Frag} {mg : Str → Option Value} {base : Heap} {f : Addr} {od an : Option Addr} {osl : Array (Option Value)} {oc dV kV doc pm cdv ct : Value}
    (lk : K.lookup f = some ⟨oc, od, .func (PySem.W.fnOf "common" "common" (defArgs s_common) (defBody s_common) (defScope s_common) dV kV doc pm an cdv ct), osl⟩) (cd : PySem.W.codeIn K cdv "common" = true)
    (m_gcd : mg "gcd" = some (.builtin "math.gcd")) :
    FnD P w K mg base 1 f (PySem.W.fnOf "common" "common" (defArgs s_common) (defBody s_common) (defScope s_common) dV kV doc pm an cdv ct) ["one", "other"] F_common 0 := by
  unfold F_common
  refine fnd_by lk cd sc_common (g := G_common) (by decide) (fun X W E hE h1 h2 h3 h4 h5 hfn C => ?_)
  subst h1 h2 h3 h4 h5
  have d : DSs X W (defBody s_common) (G_common E) _ := (dss_one (ds_ret C (de_callG C dc_gcd (by decide +kernel) m_gcd (db_cons C (DE.bo (de_var C (i := 0) rfl (vis_by (by decide +kernel)))) (db_cons C (DE.bo (de_var C (i := 1) rfl (vis_by (by decide +kernel)))) db_nil)))))
  exact ⟨_, by decide +kernel, d⟩
theorem sc_is_fraction : FnScope N_is_fraction ["value"] (defScope s_is_fraction) := ⟨rfl, rfl, rfl, by decide +kernel, rfl, by decide +kernel, by decide +kernel⟩
theorem ok_is_fraction {P : Program} {w : World} {K : PySem.W.Frag} {mg : Str → Option Value} {base : Heap} {f : Addr} {od an : Option Addr} {osl : Array (Option Value)} {oc dV kV doc pm cdv ct : Value}
    (lk : K.lookup f = some ⟨oc, od, .func (PySem.W.fnOf "is_fraction" "is_fraction" (defArgs s_is_fraction) (defBody s_is_fraction) (defScope s_is_fraction) dV kV doc pm an cdv ct), osl⟩) (cd : PySem.W.codeIn K cdv "is_fraction" = true)
    {f_is_integer : Addr} {fd_is_integer : FuncData} (M_is_integer : FnD P w K mg base 1 f_is_integer fd_is_integer ["value"] F_is_integer 0) (a_is_integer : mg "is_integer" = some (.ref f_is_integer)) (kp_is_integer : PySem.W.keepIn K (.ref f_is_integer) = true)
    {f_common : Addr} {fd_common : FuncData} (M_common : FnD P w K mg base 1 f_common fd_common ["one", "other"] F_common 0) (a_common : mg "common" = some (.ref f_common)) (kp_common : PySem.W.keepIn K (.ref f_common) = true)
    (b_is_integer_1 : BindG K fd_is_integer ["value"] 1 [] [])
    (b_common_2 : BindG K fd_common ["one", "other"] 2 [] [])
    (m_all : mg "all" = none)
    (m_len : mg "len" = none)
    (m_isinstance : mg "isinstance" = none)
    (m_tuple : mg "tuple" = none) :
    FnD P w K mg base 2 f (PySem.W.fnOf "is_fraction" "is_fraction" (defArgs s_is_fraction) (defBody s_is_fraction) (defScope s_is_fraction) dV kV doc pm an cdv ct) ["value"] F_is_fraction 0 := by
  unfold F_is_fraction
  refine fnd_by lk cd sc_is_fraction (g := G_is_fraction) (by decide) (fun X W E hE h1 h2 h3 h4 h5 hfn C => ?_)
  subst h1 h2 h3 h4 h5
  have d : DSs X W (defBody s_is_fraction) (G_is_fraction E) _ := (dss_cons (ds_if C (DW.t (dw_or C (dt_not (dt_val (DE.bo (de_isi C isi_tuple (by decide +kernel) m_isinstance (by decide +kernel) m_tuple boot_tuple (DE.bo (de_var C (i := 0) rfl (vis_by (by decide +kernel)))))))) (dw_or C (dt_cmp C (dop_ne C.units) (DE.bo (de_callB C dc_len (by decide +kernel) m_len PySem.boot_len (db_cons C (DE.bo (de_var C (i := 0) rfl (vis_by (by decide +kernel)))) db_nil))) (DE.bo de_int)) (dw_or1 (dt_not (dt_val (DE.bo (de_callB C (dc_all C.calm) (by decide +kernel) m_all boot_all (db_cons C (DE.bo (DF.da C (df_lc (own := [("part", 1)]) C 0 (DI.bo (di_seq C (de_var C (i := 0) rfl (vis_by (by decide +kernel))))) (blkOk_by (own := [("part", 1)]) (by decide +kernel)) (blk_use C fun _ _ _ _ _ _ C1 => (dg_name C1 (i := 1) rfl (loc_by (by decide +kernel)) (.inr (by decide +kernel)))) (blk_use C fun _ _ _ _ _ _ C1 => PTsD.le (c := 0) dts_nil (by decide +kernel)) (blk_use C fun _ _ _ _ _ _ C1 => DE.le (c := 0) (de_fn C1 rfl M_is_integer (by decide) (by decide +kernel) a_is_integer kp_is_integer b_is_integer_1 .nil (das_dat C1 (de_var C1 (i := 1) rfl (vis_by (by decide +kernel))) das_nil) rfl) (by decide +kernel)) (by decide)))) db_nil))))))))) (dss_one (ds_ret C de_bl)) dss_nil)
    (dss_one (ds_ret C (de_and C (de_cmp C dop_ge (DE.bo (de_ix C dix (DE.bo (de_var C (i := 0) rfl (vis_by (by decide +kernel)))) (DE.bo de_int))) (DE.bo de_int)) (de_one (de_cmp C (dop_eq C.units) (DE.bo (de_fn C hE M_common (by decide) (by decide +kernel) a_common kp_common b_common_2 .nil (das_dat C (de_ix C dix (DE.bo (de_var C (i := 0) rfl (vis_by (by decide +kernel)))) (DE.bo de_int)) (das_dat C (de_ix C dix (DE.bo (de_var C (i := 0) rfl (vis_by (by decide +kernel)))) (DE.bo de_int)) das_nil)) rfl)) (DE.bo de_int)))))))
  exact ⟨_, by decide +kernel, d⟩
theorem sc_are_written : FnScope N_are_written ["value"] (defScope s_are_written) := ⟨rfl, rfl, rfl, by decide +kernel, rfl, by decide +kernel, by decide +kernel⟩
theorem ok_are_written {P : Program} {w : World} {K : PySem.W.Frag} {mg : Str → Option Value} {base : Heap} {f : Addr} {od an : Option Addr} {osl : Array (Option Value)} {oc dV kV doc pm cdv ct : Value}
    (lk : K.lookup f = some ⟨oc, od, .func (PySem.W.fnOf "are_written" "are_written" (defArgs s_are_written) (defBody s_are_written) (defScope s_are_written) dV kV doc pm an cdv ct), osl⟩) (cd : PySem.W.codeIn K cdv "are_written" = true)
    {f_is_integer : Addr} {fd_is_integer : FuncData} (M_is_integer : FnD P w K mg base 1 f_is_integer fd_is_integer ["value"] F_is_integer 0) (a_is_integer : mg "is_integer" = some (.ref f_is_integer)) (kp_is_integer : PySem.W.keepIn K (.ref f_is_integer) = true)
    {f_is_fraction : Addr} {fd_is_fraction : FuncData} (M_is_fraction : FnD P w K mg base 2 f_is_fraction fd_is_fraction ["value"] F_is_fraction 0) (a_is_fraction : mg "is_fraction" = some (.ref f_is_fraction)) (kp_is_fraction : PySem.W.keepIn K (.ref f_is_fraction) = true)
    (b_is_integer_1 : BindG K fd_is_integer ["value"] 1 [] [])
    (b_is_fraction_1 : BindG K fd_is_fraction ["value"] 1 [] [])
    {u_BEYOND_TICKS : Value} (m_BEYOND_TICKS : mg "BEYOND_TICKS" = some u_BEYOND_TICKS) (r_BEYOND_TICKS : KRep K u_BEYOND_TICKS d_BEYOND_TICKS)
    (m_all : mg "all" = none)
    (m_len : mg "len" = none)
    (m_isinstance : mg "isinstance" = none)
    (m_tuple : mg "tuple" = none)
    (m_abs : mg "abs" = none) :
    FnD P w K mg base 3 f (PySem.W.fnOf "are_written" "are_written" (defArgs s_are_written) (defBody s_are_written) (defScope s_are_written) dV kV doc pm an cdv ct) ["value"] F_are_written 0 := by
  unfold F_are_written
  refine fnd_by lk cd sc_are_written (g := G_are_written) (by decide) (fun X W E hE h1 h2 h3 h4 h5 hfn C => ?_)
  subst h1 h2 h3 h4 h5
  have d : DSs X W (defBody s_are_written) (G_are_written E) _ := (dss_cons (ds_if C (DW.t (dw_or C (dt_not (dt_val (DE.bo (de_isi C isi_tuple (by decide +kernel) m_isinstance (by decide +kernel) m_tuple boot_tuple (DE.bo (de_var C (i := 0) rfl (vis_by (by decide +kernel)))))))) (dw_or C (dt_cmp C (dop_ne C.units) (DE.bo (de_callB C dc_len (by decide +kernel) m_len PySem.boot_len (db_cons C (DE.bo (de_var C (i := 0) rfl (vis_by (by decide +kernel)))) db_nil))) (DE.bo de_int)) (dw_or1 (dt_not (dt_val (DE.bo (de_callB C (dc_all C.calm) (by decide +kernel) m_all boot_all (db_cons C (DE.bo (DF.da C (df_lc (own := [("part", 1)]) C 0 (DI.bo (di_seq C (de_var C (i := 0) rfl (vis_by (by decide +kernel))))) (blkOk_by (own := [("part", 1)]) (by decide +kernel)) (blk_use C fun _ _ _ _ _ _ C1 => (dg_name C1 (i := 1) rfl (loc_by (by decide +kernel)) (.inr (by decide +kernel)))) (blk_use C fun _ _ _ _ _ _ C1 => PTsD.le (c := 0) dts_nil (by decide +kernel)) (blk_use C fun _ _ _ _ _ _ C1 => DE.le (c := 0) (de_fn C1 rfl M_is_integer (by decide) (by decide +kernel) a_is_integer kp_is_integer b_is_integer_1 .nil (das_dat C1 (de_var C1 (i := 1) rfl (vis_by (by decide +kernel))) das_nil) rfl) (by decide +kernel)) (by decide)))) db_nil))))))))) (dss_one (ds_ret C de_bl)) dss_nil)
    (dss_one (ds_ret C (de_and C (de_callB C (dc_all C.calm) (by decide +kernel) m_all boot_all (db_cons C (DE.bo (DF.da C (df_lc (own := [("part", 1)]) C 0 (DI.bo (di_seq C (de_var C (i := 0) rfl (vis_by (by decide +kernel))))) (blkOk_by (own := [("part", 1)]) (by decide +kernel)) (blk_use C fun _ _ _ _ _ _ C1 => (dg_name C1 (i := 1) rfl (loc_by (by decide +kernel)) (.inr (by decide +kernel)))) (blk_use C fun _ _ _ _ _ _ C1 => PTsD.le (c := 0) dts_nil (by decide +kernel)) (blk_use C fun _ _ _ _ _ _ C1 => DE.le (c := 0) (de_cmp C1 dop_lt (DE.bo (de_callB C1 dc_abs (by decide +kernel) m_abs boot_abs (db_cons C1 (DE.bo (de_var C1 (i := 1) rfl (vis_by (by decide +kernel)))) db_nil))) (DE.bo (de_glob C1 (by decide +kernel) m_BEYOND_TICKS r_BEYOND_TICKS))) (by decide +kernel)) (by decide)))) db_nil)) (de_one (de_fn C hE M_is_fraction (by decide) (by decide +kernel) a_is_fraction kp_is_fraction b_is_fraction_1 .nil (das_dat C (de_var C (i := 0) rfl (vis_by (by decide +kernel))) das_nil) rfl))))))
  exact ⟨_, by decide +kernel, d⟩
theorem sc_without_tens : FnScope N_without_tens ["number"] (defScope s_without_tens) := ⟨rfl, rfl, rfl, by decide +kernel, rfl, by decide +kernel, by decide +kernel⟩
theorem ok_without_tens {P : Program} {w : World} {K : PySem.W.Frag} {mg : Str → Option Value} {base : Heap} {f : Addr} {od an : Option Addr} {osl : Array (Option Value)} {oc dV kV doc pm cdv ct : Value}
    (lk : K.lookup f = some ⟨oc, od, .func (PySem.W.fnOf "without_tens" "without_tens" (defArgs s_without_tens) (defBody s_without_tens) (defScope s_without_tens) dV kV doc pm an cdv ct), osl⟩) (cd : PySem.W.codeIn K cdv "without_tens" = true)
     :
    FnD P w K mg base 1 f (PySem.W.fnOf "without_tens" "without_tens" (defArgs s_without_tens) (defBody s_without_tens) (defScope s_without_tens) dV kV doc pm an cdv ct) ["number"] F_without_tens 0 := by
  unfold F_without_tens
  refine fnd_by lk cd sc_without_tens (g := G_without_tens) (by decide) (fun X W E hE h1 h2 h3 h4 h5 hfn C => ?_)
  subst h1 h2 h3 h4 h5
  have d : DSs X W (defBody s_without_tens) (G_without_tens E) _ := (dss_cons (ds_set C (i := 1) rfl (loc_by (by decide +kernel)) (.inl (hfn _)) de_int)
    (dss_cons (ds_while C 0 (DT.le (c := 0) (dt_cmp C (dop_eq C.units) (DE.bo (de_bin C dop_mod (DE.bo (de_var C (i := 0) rfl (vis_by (by decide +kernel)))) (DE.bo de_int))) (DE.bo de_int)) (by decide +kernel)) (DSs.le (c := 0) (dss_one (ds_par C (i := 0) (j := 1) rfl rfl (by decide) (by decide +kernel) (by decide +kernel) (da_cons C (de_bin C dop_fdiv (DE.bo (de_var C (i := 0) rfl (vis_by (by decide +kernel)))) (DE.bo de_int)) (da_cons C (de_bin C dop_add (DE.bo (de_var C (i := 1) rfl (vis_by (by decide +kernel)))) (DE.bo de_int)) da_nil)) (swp2 C rfl (by decide +kernel) (by decide +kernel) (by decide +kernel) rfl (fun _ _ z => nomatch z) (fun _ _ z => nomatch z) rfl rfl))) (by decide +kernel)))
    (dss_one (ds_ret C (de_tup C (da_cons C (de_var C (i := 0) rfl (vis_by (by decide +kernel))) (da_cons C (de_var C (i := 1) rfl (vis_by (by decide +kernel))) da_nil)))))))
  exact ⟨_, by decide +kernel, d⟩
theorem sc_parts_of_step : FnScope N_parts_of_step ["step"] (defScope s_parts_of_step) := ⟨rfl, rfl, rfl, by decide +kernel, rfl, by decide +kernel, by decide +kernel⟩
theorem ok_parts_of_step {P : Program} {w : World} {K : PySem.W.Frag} {mg : Str → Option Value} {base : Heap} {f : Addr} {od an : Option Addr} {osl : Array (Option Value)} {oc dV kV doc pm cdv ct : Value}
    (lk : K.lookup f = some ⟨oc, od, .func (PySem.W.fnOf "parts_of_step" "parts_of_step" (defArgs s_parts_of_step) (defBody s_parts_of_step) (defScope s_parts_of_step) dV kV doc pm an cdv ct), osl⟩) (cd : PySem.W.codeIn K cdv "parts_of_step" = true)
    {f_without_tens : Addr} {fd_without_tens : FuncData} (M_without_tens : FnD P w K mg base 1 f_without_tens fd_without_tens ["number"] F_without_tens 0) (a_without_tens : mg "without_tens" = some (.ref f_without_tens)) (kp_without_tens : PySem.W.keepIn K (.ref f_without_tens) = true)
    (b_without_tens_1 : BindG K fd_without_tens ["number"] 1 [] [])
    {u_DIGITS : Value} (m_DIGITS : mg "DIGITS" = some u_DIGITS) (r_DIGITS : KRep K u_DIGITS d_DIGITS) :
    FnD P w K mg base 2 f (PySem.W.fnOf "parts_of_step" "parts_of_step" (defArgs s_parts_of_step) (defBody s_parts_of_step) (defScope s_parts_of_step) dV kV doc pm an cdv ct) ["step"] F_parts_of_step 0 := by
  unfold F_parts_of_step
  refine fnd_by lk cd sc_parts_of_step (g := G_parts_of_step) (by decide) (fun X W E hE h1 h2 h3 h4 h5 hfn C => ?_)
  subst h1 h2 h3 h4 h5
  have d : DSs X W (defBody s_parts_of_step) (G_parts_of_step E) _ := (dss_cons (ds_if C (dt_cmp C dop_lt (DE.bo (de_ix C dix (DE.bo (de_var C (i := 0) rfl (vis_by (by decide +kernel)))) (DE.bo de_int))) (DE.bo de_int)) (dss_one (ds_ret C de_non)) dss_nil)
    (dss_cons (ds_asg C (de_fn C hE M_without_tens (by decide) (by decide +kernel) a_without_tens kp_without_tens b_without_tens_1 .nil (das_dat C (de_ix C dix (DE.bo (de_var C (i := 0) rfl (vis_by (by decide +kernel)))) (DE.bo de_int)) das_nil) rfl) (dg_tup C (dgs_cons (dg_name C (i := 1) rfl (loc_by (by decide +kernel)) (.inl (hfn _))) (dgs_cons (dg_name C (i := 2) rfl (loc_by (by decide +kernel)) (.inl (hfn _))) dgs_nil))))
    (dss_cons (ds_if C (dt_cmp C (dop_eq C.units) (DE.bo (de_ix C dix (DE.bo (de_var C (i := 0) rfl (vis_by (by decide +kernel)))) (DE.bo de_int))) (DE.bo de_int)) (dss_one (ds_ret C (de_if C (dt_cmp C (dop_in C.units) (DE.bo (de_var C (i := 1) rfl (vis_by (by decide +kernel)))) (DE.bo (de_glob C (by decide +kernel) m_DIGITS r_DIGITS))) (de_tup C (da_cons C (de_var C (i := 1) rfl (vis_by (by decide +kernel))) (da_cons C (de_var C (i := 2) rfl (vis_by (by decide +kernel))) da_nil))) de_non))) dss_nil)
    (dss_cons (ds_asg C (de_fn C hE M_without_tens (by decide) (by decide +kernel) a_without_tens kp_without_tens b_without_tens_1 .nil (das_dat C (de_ix C dix (DE.bo (de_var C (i := 0) rfl (vis_by (by decide +kernel)))) (DE.bo de_int)) das_nil) rfl) (dg_tup C (dgs_cons (dg_name C (i := 3) rfl (loc_by (by decide +kernel)) (.inl (hfn _))) (dgs_cons (dg_name C (i := 4) rfl (loc_by (by decide +kernel)) (.inl (hfn _))) dgs_nil))))
    (dss_cons (ds_if C (DW.t (dw_or C (dt_cmp C (dop_ne C.units) (DE.bo (de_ix C dix (DE.bo (de_var C (i := 0) rfl (vis_by (by decide +kernel)))) (DE.bo de_int))) (DE.bo de_int)) (dw_or1 (dt_cmp C (dop_notin C.units) (DE.bo (de_var C (i := 3) rfl (vis_by (by decide +kernel)))) (DE.bo (de_glob C (by decide +kernel) m_DIGITS r_DIGITS)))))) (dss_one (ds_ret C de_non)) dss_nil)
    (dss_one (ds_ret C (de_if C (dt_cmp C (dop_eq C.units) (DE.bo (de_var C (i := 3) rfl (vis_by (by decide +kernel)))) (DE.bo de_int)) (de_tup C (da_cons C de_int (da_cons C (de_bin C dop_sub (DE.bo de_int) (DE.bo (de_var C (i := 4) rfl (vis_by (by decide +kernel))))) da_nil))) (de_tup C (da_cons C (de_bin C dop_fdiv (DE.bo de_int) (DE.bo (de_var C (i := 3) rfl (vis_by (by decide +kernel))))) (da_cons C (de_bin C dop_sub (DE.bo (de_bin C dop_sub (DE.bo de_int) (DE.bo (de_var C (i := 4) rfl (vis_by (by decide +kernel)))))) (DE.bo de_int)) da_nil)))))))))))
  exact ⟨_, by decide +kernel, d⟩
theorem sc_reduced : FnScope N_reduced ["top", "low"] (defScope s_reduced) := ⟨rfl, rfl, rfl, by decide +kernel, rfl, by decide +kernel, by decide +kernel⟩
theorem ok_reduced {P : Program} {w : World} {K : PySem.W.Frag} {mg : Str → Option Value} {base : Heap} {f : Addr} {od an : Option Addr} {osl : Array (Option Value)} {oc dV kV doc pm cdv ct : Value}
    (lk : K.lookup f = some ⟨oc, od, .func (PySem.W.fnOf "reduced" "reduced" (defArgs s_reduced) (defBody s_reduced) (defScope s_reduced) dV kV doc pm an cdv ct), osl⟩) (cd : PySem.W.codeIn K cdv "reduced" = true)
    {f_common : Addr} {fd_common : FuncData} (M_common : FnD P w K mg base 1 f_common fd_common ["one", "other"] F_common 0) (a_common : mg "common" = some (.ref f_common)) (kp_common : PySem.W.keepIn K (.ref f_common) = true)
    (b_common_2 : BindG K fd_common ["one", "other"] 2 [] []) :
    FnD P w K mg base 2 f (PySem.W.fnOf "reduced" "reduced" (defArgs s_reduced) (defBody s_reduced) (defScope s_reduced) dV kV doc pm an cdv ct) ["top", "low"] F_reduced 0 := by
  unfold F_reduced
  refine fnd_by lk cd sc_reduced (g := G_reduced) (by decide) (fun X W E hE h1 h2 h3 h4 h5 hfn C => ?_)
  subst h1 h2 h3 h4 h5
  have d : DSs X W (defBody s_reduced) (G_reduced E) _ := (dss_cons (ds_set C (i := 2) rfl (loc_by (by decide +kernel)) (.inl (hfn _)) (de_if C (dt_cmp C dop_gt (DE.bo (de_var C (i := 1) rfl (vis_by (by decide +kernel)))) (DE.bo de_int)) (de_fn C hE M_common (by decide) (by decide +kernel) a_common kp_common b_common_2 .nil (das_dat C (de_var C (i := 0) rfl (vis_by (by decide +kernel))) (das_dat C (de_var C (i := 1) rfl (vis_by (by decide +kernel))) das_nil)) rfl) (de_bin C dop_sub (DE.bo de_int) (DE.bo (de_fn C hE M_common (by decide) (by decide +kernel) a_common kp_common b_common_2 .nil (das_dat C (de_var C (i := 0) rfl (vis_by (by decide +kernel))) (das_dat C (de_var C (i := 1) rfl (vis_by (by decide +kernel))) das_nil)) rfl)))))
    (dss_one (ds_ret C (de_tup C (da_cons C (de_bin C dop_fdiv (DE.bo (de_var C (i := 0) rfl (vis_by (by decide +kernel)))) (DE.bo (de_var C (i := 2) rfl (vis_by (by decide +kernel))))) (da_cons C (de_bin C dop_fdiv (DE.bo (de_var C (i := 1) rfl (vis_by (by decide +kernel)))) (DE.bo (de_var C (i := 2) rfl (vis_by (by decide +kernel))))) da_nil))))))
  exact ⟨_, by decide +kernel, d⟩
theorem sc_quotient : FnScope N_quotient ["one", "other"] (defScope s_quotient) := ⟨rfl, rfl, rfl, by decide +kernel, rfl, by decide +kernel, by decide +kernel⟩
theorem ok_quotient {P : Program} {w : World} {K : PySem.W.Frag} {mg : Str → Option Value} {base : Heap} {f : Addr} {od an : Option Addr} {osl : Array (Option Value)} {oc dV kV doc pm cdv ct : Value}
    (lk : K.lookup f = some ⟨oc, od, .func (PySem.W.fnOf "quotient" "quotient" (defArgs s_quotient) (defBody s_quotient) (defScope s_quotient) dV kV doc pm an cdv ct), osl⟩) (cd : PySem.W.codeIn K cdv "quotient" = true)
    {f_reduced : Addr} {fd_reduced : FuncData} (M_reduced : FnD P w K mg base 2 f_reduced fd_reduced ["top", "low"] F_reduced 0) (a_reduced : mg "reduced" = some (.ref f_reduced)) (kp_reduced : PySem.W.keepIn K (.ref f_reduced) = true)
    (b_reduced_2 : BindG K fd_reduced ["top", "low"] 2 [] []) :
    FnD P w K mg base 3 f (PySem.W.fnOf "quotient" "quotient" (defArgs s_quotient) (defBody s_quotient) (defScope s_quotient) dV kV doc pm an cdv ct) ["one", "other"] F_quotient 0 := by
  unfold F_quotient
  refine fnd_by lk cd sc_quotient (g := G_quotient) (by decide) (fun X W E hE h1 h2 h3 h4 h5 hfn C => ?_)
  subst h1 h2 h3 h4 h5
  have d : DSs X W (defBody s_quotient) (G_quotient E) _ := (dss_one (ds_ret C (de_fn C hE M_reduced (by decide) (by decide +kernel) a_reduced kp_reduced b_reduced_2 .nil (das_dat C (de_bin C dop_mul (DE.bo (de_ix C dix (DE.bo (de_var C (i := 0) rfl (vis_by (by decide +kernel)))) (DE.bo de_int))) (DE.bo (de_ix C dix (DE.bo (de_var C (i := 1) rfl (vis_by (by decide +kernel)))) (DE.bo de_int)))) (das_dat C (de_bin C dop_mul (DE.bo (de_ix C dix (DE.bo (de_var C (i := 0) rfl (vis_by (by decide +kernel)))) (DE.bo de_int))) (DE.bo (de_ix C dix (DE.bo (de_var C (i := 1) rfl (vis_by (by decide +kernel)))) (DE.bo de_int)))) das_nil)) rfl)))
  exact ⟨_, by decide +kernel, d⟩
theorem sc_is_ticks : FnScope N_is_ticks ["value"] (defScope s_is_ticks) := ⟨rfl, rfl, rfl, by decide +kernel, rfl, by decide +kernel, by decide +kernel⟩
theorem ok_is_ticks {P : Program} {w : World} {K : PySem.W.Frag} {mg : Str → Option Value} {base : Heap} {f : Addr} {od an : Option Addr} {osl : Array (Option Value)} {oc dV kV doc pm cdv ct : Value}
    (lk : K.lookup f = some ⟨oc, od, .func (PySem.W.fnOf "is_ticks" "is_ticks" (defArgs s_is_ticks) (defBody s_is_ticks) (defScope s_is_ticks) dV kV doc pm an cdv ct), osl⟩) (cd : PySem.W.codeIn K cdv "is_ticks" = true)
    {f_is_between : Addr} {fd_is_between : FuncData} (M_is_between : FnD P w K mg base 2 f_is_between fd_is_between ["value", "low", "high"] F_is_between 0) (a_is_between : mg "is_between" = some (.ref f_is_between)) (kp_is_between : PySem.W.keepIn K (.ref f_is_between) = true)
    {f_parts_of_step : Addr} {fd_parts_of_step : FuncData} (M_parts_of_step : FnD P w K mg base 2 f_parts_of_step fd_parts_of_step ["step"] F_parts_of_step 0) (a_parts_of_step : mg "parts_of_step" = some (.ref f_parts_of_step)) (kp_parts_of_step : PySem.W.keepIn K (.ref f_parts_of_step) = true)
    {f_are_written : Addr} {fd_are_written : FuncData} (M_are_written : FnD P w K mg base 3 f_are_written fd_are_written ["value"] F_are_written 0) (a_are_written : mg "are_written" = some (.ref f_are_written)) (kp_are_written : PySem.W.keepIn K (.ref f_are_written) = true)
    {f_quotient : Addr} {fd_quotient : FuncData} (M_quotient : FnD P w K mg base 3 f_quotient fd_quotient ["one", "other"] F_quotient 0) (a_quotient : mg "quotient" = some (.ref f_quotient)) (kp_quotient : PySem.W.keepIn K (.ref f_quotient) = true)
    (b_is_between_3 : BindG K fd_is_between ["value", "low", "high"] 3 [] [])
    (b_parts_of_step_1 : BindG K fd_parts_of_step ["step"] 1 [] [])
    (b_are_written_1 : BindG K fd_are_written ["value"] 1 [] [])
    (b_quotient_2 : BindG K fd_quotient ["one", "other"] 2 [] [])
    {u_FEWEST : Value} (m_FEWEST : mg "FEWEST" = some u_FEWEST) (r_FEWEST : KRep K u_FEWEST d_FEWEST)
    {u_MOST_TICKS : Value} (m_MOST_TICKS : mg "MOST_TICKS" = some u_MOST_TICKS) (r_MOST_TICKS : KRep K u_MOST_TICKS d_MOST_TICKS)
    (m_len : mg "len" = none)
    (m_isinstance : mg "isinstance" = none)
    (m_tuple : mg "tuple" = none) :
    FnD P w K mg base 4 f (PySem.W.fnOf "is_ticks" "is_ticks" (defArgs s_is_ticks) (defBody s_is_ticks) (defScope s_is_ticks) dV kV doc pm an cdv ct) ["value"] F_is_ticks 0 := by
  unfold F_is_ticks
  refine fnd_by lk cd sc_is_ticks (g := G_is_ticks) (by decide) (fun X W E hE h1 h2 h3 h4 h5 hfn C => ?_)
  subst h1 h2 h3 h4 h5
  have d : DSs X W (defBody s_is_ticks) (G_is_ticks E) _ := (dss_cons (ds_if C (DW.t (dw_or C (dt_not (dt_val (DE.bo (de_isi C isi_tuple (by decide +kernel) m_isinstance (by decide +kernel) m_tuple boot_tuple (DE.bo (de_var C (i := 0) rfl (vis_by (by decide +kernel)))))))) (dw_or C (dt_cmp C (dop_ne C.units) (DE.bo (de_callB C dc_len (by decide +kernel) m_len PySem.boot_len (db_cons C (DE.bo (de_var C (i := 0) rfl (vis_by (by decide +kernel)))) db_nil))) (DE.bo de_int)) (dw_or1 (dt_not (dt_val (DE.bo (de_fn C hE M_is_between (by decide) (by decide +kernel) a_is_between kp_is_between b_is_between_3 .nil (das_dat C (de_ix C dix (DE.bo (de_var C (i := 0) rfl (vis_by (by decide +kernel)))) (DE.bo de_int)) (das_dat C (de_glob C (by decide +kernel) m_FEWEST r_FEWEST) (das_dat C (de_glob C (by decide +kernel) m_MOST_TICKS r_MOST_TICKS) das_nil))) rfl)))))))) (dss_one (ds_ret C de_bl)) dss_nil)
    (dss_cons (ds_par C (i := 1) (j := 2) rfl rfl (by decide) (by decide +kernel) (by decide +kernel) (da_cons C (de_ix C dix (DE.bo (de_var C (i := 0) rfl (vis_by (by decide +kernel)))) (DE.bo de_int)) (da_cons C (de_ix C dix (DE.bo (de_var C (i := 0) rfl (vis_by (by decide +kernel)))) (DE.bo de_int)) da_nil)) (swp2 C rfl (by decide +kernel) (by decide +kernel) (by decide +kernel) rfl (fun _ _ z => nomatch z) (fun _ _ z => nomatch z) rfl rfl))
    (dss_cons (ds_if C (DW.t (dw_or C (dt_not (dt_val (DE.bo (de_fn C hE M_are_written (by decide) (by decide +kernel) a_are_written kp_are_written b_are_written_1 .nil (das_dat C (de_var C (i := 1) rfl (vis_by (by decide +kernel))) das_nil) rfl)))) (dw_or C (dt_not (dt_val (DE.bo (de_fn C hE M_are_written (by decide) (by decide +kernel) a_are_written kp_are_written b_are_written_1 .nil (das_dat C (de_var C (i := 2) rfl (vis_by (by decide +kernel))) das_nil) rfl)))) (dw_or1 (dt_cmp C dop_is (DE.bo (de_fn C hE M_parts_of_step (by decide) (by decide +kernel) a_parts_of_step kp_parts_of_step b_parts_of_step_1 .nil (das_dat C (de_var C (i := 2) rfl (vis_by (by decide +kernel))) das_nil) rfl)) (DE.bo de_non)))))) (dss_one (ds_ret C de_bl)) dss_nil)
    (dss_one (ds_ret C (de_cmp C (dop_eq C.units) (DE.bo (de_ix C dix (DE.bo (de_fn C hE M_quotient (by decide) (by decide +kernel) a_quotient kp_quotient b_quotient_2 .nil (das_dat C (de_var C (i := 1) rfl (vis_by (by decide +kernel))) (das_dat C (de_var C (i := 2) rfl (vis_by (by decide +kernel))) das_nil)) rfl)) (DE.bo de_int))) (DE.bo de_int)))))))
  exact ⟨_, by decide +kernel, d⟩
theorem sc_check_ticks : FnScope N_check_ticks ["ticks"] (defScope s_check_ticks) := ⟨rfl, rfl, rfl, by decide +kernel, rfl, by decide +kernel, by decide +kernel⟩
theorem ok_check_ticks {P : Program} {w : World} {K : PySem.W.Frag} {mg : Str → Option Value} {base : Heap} {f : Addr} {od an : Option Addr} {osl : Array (Option Value)} {oc dV kV doc pm cdv ct : Value}
    (lk : K.lookup f = some ⟨oc, od, .func (PySem.W.fnOf "check_ticks" "check_ticks" (defArgs s_check_ticks) (defBody s_check_ticks) (defScope s_check_ticks) dV kV doc pm an cdv ct), osl⟩) (cd : PySem.W.codeIn K cdv "check_ticks" = true)
    {f_is_ticks : Addr} {fd_is_ticks : FuncData} (M_is_ticks : FnD P w K mg base 4 f_is_ticks fd_is_ticks ["value"] F_is_ticks 0) (a_is_ticks : mg "is_ticks" = some (.ref f_is_ticks)) (kp_is_ticks : PySem.W.keepIn K (.ref f_is_ticks) = true)
    (b_is_ticks_1 : BindG K fd_is_ticks ["value"] 1 [] [])
    {fI : Addr} {fdI : FuncData} (FI : FnOk P w K mg base (L2.CX P w) 1 fI fdI ["self", "value"] (spI K C_PictureError)) (hbI : Binds K fdI ["self", "value"] []) (tI : PySem.W.typeIn K (.ref fI) = some (.type "function"))
    (IC_BadTicks : InitC K C_PictureError C_BadTicks) (EK_BadTicks : ExcK K C_BadTicks) (iC_BadTicks : PySem.W.findIn K (.ref C_BadTicks) "__init__" = some (some (.ref fI)))
    (mc_BadTicks : mg "BadTicks" = some (.ref C_BadTicks)) :
    FnD P w K mg base 5 f (PySem.W.fnOf "check_ticks" "check_ticks" (defArgs s_check_ticks) (defBody s_check_ticks) (defScope s_check_ticks) dV kV doc pm an cdv ct) ["ticks"] F_check_ticks 0 := by
  unfold F_check_ticks
  refine fnd_by lk cd sc_check_ticks (g := G_check_ticks) (by decide) (fun X W E hE h1 h2 h3 h4 h5 hfn C => ?_)
  subst h1 h2 h3 h4 h5
  have d : DSs X W (defBody s_check_ticks) (G_check_ticks E) _ := (dss_one (ds_if C (dt_not (dt_val (DE.bo (de_fn C hE M_is_ticks (by decide) (by decide +kernel) a_is_ticks kp_is_ticks b_is_ticks_1 .nil (das_dat C (de_var C (i := 0) rfl (vis_by (by decide +kernel))) das_nil) rfl)))) (dss_one (ds_raise C hE (by decide) IC_BadTicks EK_BadTicks iC_BadTicks tI FI hbI (by decide +kernel) mc_BadTicks (de_var C (i := 0) rfl (vis_by (by decide +kernel))))) dss_nil))
  exact ⟨_, by decide +kernel, d⟩
theorem sc_is_less : FnScope N_is_less ["one", "other"] (defScope s_is_less) := ⟨rfl, rfl, rfl, by decide +kernel, rfl, by decide +kernel, by decide +kernel⟩
theorem ok_is_less {P : Program} {w : World} {K : PySem.W.Frag} {mg : Str → Option Value} {base : Heap} {f : Addr} {od an : Option Addr} {osl : Array (Option Value)} {oc dV kV doc pm cdv ct : Value}
    (lk : K.lookup f = some ⟨oc, od, .func (PySem.W.fnOf "is_less" "is_less" (defArgs s_is_less) (defBody s_is_less) (defScope s_is_less) dV kV doc pm an cdv ct), osl⟩) (cd : PySem.W.codeIn K cdv "is_less" = true)
     :
    FnD P w K mg base 1 f (PySem.W.fnOf "is_less" "is_less" (defArgs s_is_less) (defBody s_is_less) (defScope s_is_less) dV kV doc pm an cdv ct) ["one", "other"] F_is_less 0 := by
  unfold F_is_less
  refine fnd_by lk cd sc_is_less (g := G_is_less) (by decide) (fun X W E hE h1 h2 h3 h4 h5 hfn C => ?_)
  subst h1 h2 h3 h4 h5
  have d : DSs X W (defBody s_is_less) (G_is_less E) _ := (dss_one (ds_ret C (de_cmp C dop_lt (DE.bo (de_bin C dop_mul (DE.bo (de_ix C dix (DE.bo (de_var C (i := 0) rfl (vis_by (by decide +kernel)))) (DE.bo de_int))) (DE.bo (de_ix C dix (DE.bo (de_var C (i := 1) rfl (vis_by (by decide +kernel)))) (DE.bo de_int))))) (DE.bo (de_bin C dop_mul (DE.bo (de_ix C dix (DE.bo (de_var C (i := 1) rfl (vis_by (by decide +kernel)))) (DE.bo de_int))) (DE.bo (de_ix C dix (DE.bo (de_var C (i := 0) rfl (vis_by (by decide +kernel)))) (DE.bo de_int))))))))
  exact ⟨_, by decide +kernel, d⟩
theorem sc_is_told_fraction : FnScope N_is_told_fraction ["value"] (defScope s_is_told_fraction) := ⟨rfl, rfl, rfl, by decide +kernel, rfl, by decide +kernel, by decide +kernel⟩
theorem ok_is_told_fraction {P : Program} {w : World} {K : PySem.W.Frag} {mg : Str → Option Value} {base : Heap} {f : Addr} {od an : Option Addr} {osl : Array (Option Value)} {oc dV kV doc pm cdv ct : Value}
    (lk : K.lookup f = some ⟨oc, od, .func (PySem.W.fnOf "is_told_fraction" "is_told_fraction" (defArgs s_is_told_fraction) (defBody s_is_told_fraction) (defScope s_is_told_fraction) dV kV doc pm an cdv ct), osl⟩) (cd : PySem.W.codeIn K cdv "is_told_fraction" = true)
    {f_is_fraction : Addr} {fd_is_fraction : FuncData} (M_is_fraction : FnD P w K mg base 2 f_is_fraction fd_is_fraction ["value"] F_is_fraction 0) (a_is_fraction : mg "is_fraction" = some (.ref f_is_fraction)) (kp_is_fraction : PySem.W.keepIn K (.ref f_is_fraction) = true)
    (b_is_fraction_1 : BindG K fd_is_fraction ["value"] 1 [] [])
    {u_BEYOND : Value} (m_BEYOND : mg "BEYOND" = some u_BEYOND) (r_BEYOND : KRep K u_BEYOND d_BEYOND)
    (m_abs : mg "abs" = none) :
    FnD P w K mg base 3 f (PySem.W.fnOf "is_told_fraction" "is_told_fraction" (defArgs s_is_told_fraction) (defBody s_is_told_fraction) (defScope s_is_told_fraction) dV kV doc pm an cdv ct) ["value"] F_is_told_fraction 0 := by
  unfold F_is_told_fraction
  refine fnd_by lk cd sc_is_told_fraction (g := G_is_told_fraction) (by decide) (fun X W E hE h1 h2 h3 h4 h5 hfn C => ?_)
  subst h1 h2 h3 h4 h5
  have d : DSs X W (defBody s_is_told_fraction) (G_is_told_fraction E) _ := (dss_one (ds_ret C (de_and C (de_fn C hE M_is_fraction (by decide) (by decide +kernel) a_is_fraction kp_is_fraction b_is_fraction_1 .nil (das_dat C (de_var C (i := 0) rfl (vis_by (by decide +kernel))) das_nil) rfl) (de_and C (de_cmp C dop_lt (DE.bo (de_callB C dc_abs (by decide +kernel) m_abs boot_abs (db_cons C (DE.bo (de_ix C dix (DE.bo (de_var C (i := 0) rfl (vis_by (by decide +kernel)))) (DE.bo de_int))) db_nil))) (DE.bo (de_glob C (by decide +kernel) m_BEYOND r_BEYOND))) (de_one (de_cmp C dop_lt (DE.bo (de_ix C dix (DE.bo (de_var C (i := 0) rfl (vis_by (by decide +kernel)))) (DE.bo de_int))) (DE.bo (de_glob C (by decide +kernel) m_BEYOND r_BEYOND))))))))
  exact ⟨_, by decide +kernel, d⟩
theorem sc_check_ends : FnScope N_check_ends ["ends"] (defScope s_check_ends) := ⟨rfl, rfl, rfl, by decide +kernel, rfl, by decide +kernel, by decide +kernel⟩
theorem ok_check_ends {P : Program} {w : World} {K : PySem.W.Frag} {mg : Str → Option Value} {base : Heap} {f : Addr} {od an : Option Addr} {osl : Array (Option Value)} {oc dV kV doc pm cdv ct : Value}
    (lk : K.lookup f = some ⟨oc, od, .func (PySem.W.fnOf "check_ends" "check_ends" (defArgs s_check_ends) (defBody s_check_ends) (defScope s_check_ends) dV kV doc pm an cdv ct), osl⟩) (cd : PySem.W.codeIn K cdv "check_ends" = true)
    {f_is_told_fraction : Addr} {fd_is_told_fraction : FuncData} (M_is_told_fraction : FnD P w K mg base 3 f_is_told_fraction fd_is_told_fraction ["value"] F_is_told_fraction 0) (a_is_told_fraction : mg "is_told_fraction" = some (.ref f_is_told_fraction)) (kp_is_told_fraction : PySem.W.keepIn K (.ref f_is_told_fraction) = true)
    {f_is_less : Addr} {fd_is_less : FuncData} (M_is_less : FnD P w K mg base 1 f_is_less fd_is_less ["one", "other"] F_is_less 0) (a_is_less : mg "is_less" = some (.ref f_is_less)) (kp_is_less : PySem.W.keepIn K (.ref f_is_less) = true)
    (b_is_told_fraction_1 : BindG K fd_is_told_fraction ["value"] 1 [] [])
    (b_is_less_2 : BindG K fd_is_less ["one", "other"] 2 [] [])
    (m_all : mg "all" = none)
    (m_len : mg "len" = none)
    (m_isinstance : mg "isinstance" = none)
    (m_tuple : mg "tuple" = none)
    {fI : Addr} {fdI : FuncData} (FI : FnOk P w K mg base (L2.CX P w) 1 fI fdI ["self", "value"] (spI K C_PictureError)) (hbI : Binds K fdI ["self", "value"] []) (tI : PySem.W.typeIn K (.ref fI) = some (.type "function"))
    (IC_BadRange : InitC K C_PictureError C_BadRange) (EK_BadRange : ExcK K C_BadRange) (iC_BadRange : PySem.W.findIn K (.ref C_BadRange) "__init__" = some (some (.ref fI)))
    (mc_BadRange : mg "BadRange" = some (.ref C_BadRange)) :
    FnD P w K mg base 4 f (PySem.W.fnOf "check_ends" "check_ends" (defArgs s_check_ends) (defBody s_check_ends) (defScope s_check_ends) dV kV doc pm an cdv ct) ["ends"] F_check_ends 0 := by
  unfold F_check_ends
  refine fnd_by lk cd sc_check_ends (g := G_check_ends) (by decide) (fun X W E hE h1 h2 h3 h4 h5 hfn C => ?_)
  subst h1 h2 h3 h4 h5
  have d : DSs X W (defBody s_check_ends) (G_check_ends E) _ := (dss_cons (ds_if C (DW.t (dw_or C (dt_not (dt_val (DE.bo (de_isi C isi_tuple (by decide +kernel) m_isinstance (by decide +kernel) m_tuple boot_tuple (DE.bo (de_var C (i := 0) rfl (vis_by (by decide +kernel)))))))) (dw_or C (dt_cmp C (dop_ne C.units) (DE.bo (de_callB C dc_len (by decide +kernel) m_len PySem.boot_len (db_cons C (DE.bo (de_var C (i := 0) rfl (vis_by (by decide +kernel)))) db_nil))) (DE.bo de_int)) (dw_or1 (dt_not (dt_val (DE.bo (de_callB C (dc_all C.calm) (by decide +kernel) m_all boot_all (db_cons C (DE.bo (DF.da C (df_lc (own := [("one", 1)]) C 0 (DI.bo (di_seq C (de_var C (i := 0) rfl (vis_by (by decide +kernel))))) (blkOk_by (own := [("one", 1)]) (by decide +kernel)) (blk_use C fun _ _ _ _ _ _ C1 => (dg_name C1 (i := 1) rfl (loc_by (by decide +kernel)) (.inr (by decide +kernel)))) (blk_use C fun _ _ _ _ _ _ C1 => PTsD.le (c := 0) dts_nil (by decide +kernel)) (blk_use C fun _ _ _ _ _ _ C1 => DE.le (c := 0) (de_fn C1 rfl M_is_told_fraction (by decide) (by decide +kernel) a_is_told_fraction kp_is_told_fraction b_is_told_fraction_1 .nil (das_dat C1 (de_var C1 (i := 1) rfl (vis_by (by decide +kernel))) das_nil) rfl) (by decide +kernel)) (by decide)))) db_nil))))))))) (dss_one (ds_raise C hE (by decide) IC_BadRange EK_BadRange iC_BadRange tI FI hbI (by decide +kernel) mc_BadRange (de_var C (i := 0) rfl (vis_by (by decide +kernel))))) dss_nil)
    (dss_one (ds_if C (dt_val (DE.bo (de_fn C hE M_is_less (by decide) (by decide +kernel) a_is_less kp_is_less b_is_less_2 .nil (das_dat C (de_ix C dix (DE.bo (de_var C (i := 0) rfl (vis_by (by decide +kernel)))) (DE.bo de_int)) (das_dat C (de_ix C dix (DE.bo (de_var C (i := 0) rfl (vis_by (by decide +kernel)))) (DE.bo de_int)) das_nil)) rfl))) (dss_one (ds_raise C hE (by decide) IC_BadRange EK_BadRange iC_BadRange tI FI hbI (by decide +kernel) mc_BadRange (de_var C (i := 0) rfl (vis_by (by decide +kernel))))) dss_nil)))
  exact ⟨_, by decide +kernel, d⟩
theorem sc_are_wishes : FnScope N_are_wishes ["value"] (defScope s_are_wishes) := ⟨rfl, rfl, rfl, by decide +kernel, rfl, by decide +kernel, by decide +kernel⟩
theorem ok_are_wishes {P : Program} {w : World} {K : PySem.W.Frag} {mg : Str → Option Value} {base : Heap} {f : Addr} {od an : Option Addr} {osl : Array (Option Value)} {oc dV kV doc pm cdv ct : Value}
    (lk : K.lookup f = some ⟨oc, od, .func (PySem.W.fnOf "are_wishes" "are_wishes" (defArgs s_are_wishes) (defBody s_are_wishes) (defScope s_are_wishes) dV kV doc pm an cdv ct), osl⟩) (cd : PySem.W.codeIn K cdv "are_wishes" = true)
    {f_is_between : Addr} {fd_is_between : FuncData} (M_is_between : FnD P w K mg base 2 f_is_between fd_is_between ["value", "low", "high"] F_is_between 0) (a_is_between : mg "is_between" = some (.ref f_is_between)) (kp_is_between : PySem.W.keepIn K (.ref f_is_between) = true)
    (b_is_between_3 : BindG K fd_is_between ["value", "low", "high"] 3 [] [])
    {u_LEAST_WISH : Value} (m_LEAST_WISH : mg "LEAST_WISH" = some u_LEAST_WISH) (r_LEAST_WISH : KRep K u_LEAST_WISH d_LEAST_WISH)
    {u_MOST_WISH : Value} (m_MOST_WISH : mg "MOST_WISH" = some u_MOST_WISH) (r_MOST_WISH : KRep K u_MOST_WISH d_MOST_WISH)
    {u_MOST_WEIGHT : Value} (m_MOST_WEIGHT : mg "MOST_WEIGHT" = some u_MOST_WEIGHT) (r_MOST_WEIGHT : KRep K u_MOST_WEIGHT d_MOST_WEIGHT)
    (m_len : mg "len" = none)
    (m_isinstance : mg "isinstance" = none)
    (m_tuple : mg "tuple" = none)
    (m_all : mg "all" = none) :
    FnD P w K mg base 3 f (PySem.W.fnOf "are_wishes" "are_wishes" (defArgs s_are_wishes) (defBody s_are_wishes) (defScope s_are_wishes) dV kV doc pm an cdv ct) ["value"] F_are_wishes 0 := by
  unfold F_are_wishes
  refine fnd_by lk cd sc_are_wishes (g := G_are_wishes) (by decide) (fun X W E hE h1 h2 h3 h4 h5 hfn C => ?_)
  subst h1 h2 h3 h4 h5
  have d : DSs X W (defBody s_are_wishes) (G_are_wishes E) _ := (dss_cons (ds_if C (DW.t (dw_or C (dt_not (dt_val (DE.bo (de_isi C isi_tuple (by decide +kernel) m_isinstance (by decide +kernel) m_tuple boot_tuple (DE.bo (de_var C (i := 0) rfl (vis_by (by decide +kernel)))))))) (dw_or C (dt_cmp C (dop_ne C.units) (DE.bo (de_callB C dc_len (by decide +kernel) m_len PySem.boot_len (db_cons C (DE.bo (de_var C (i := 0) rfl (vis_by (by decide +kernel)))) db_nil))) (DE.bo de_int)) (dw_or1 (dt_not (dt_val (DE.bo (de_fn C hE M_is_between (by decide) (by decide +kernel) a_is_between kp_is_between b_is_between_3 .nil (das_dat C (de_ix C dix (DE.bo (de_var C (i := 0) rfl (vis_by (by decide +kernel)))) (DE.bo de_int)) (das_dat C (de_glob C (by decide +kernel) m_LEAST_WISH r_LEAST_WISH) (das_dat C (de_glob C (by decide +kernel) m_MOST_WISH r_MOST_WISH) das_nil))) rfl)))))))) (dss_one (ds_ret C de_bl)) dss_nil)
    (dss_one (ds_ret C (de_and C (de_callB C (dc_all C.calm) (by decide +kernel) m_all boot_all (db_cons C (DE.bo (DF.da C (df_lc (own := [("one", 1)]) C 0 (DI.bo (di_seq C (de_sl C dsl (DE.bo (de_var C (i := 0) rfl (vis_by (by decide +kernel)))) (dp_some (DE.bo de_int)) dp_none))) (blkOk_by (own := [("one", 1)]) (by decide +kernel)) (blk_use C fun _ _ _ _ _ _ C1 => (dg_name C1 (i := 1) rfl (loc_by (by decide +kernel)) (.inr (by decide +kernel)))) (blk_use C fun _ _ _ _ _ _ C1 => PTsD.le (c := 0) dts_nil (by decide +kernel)) (blk_use C fun _ _ _ _ _ _ C1 => DE.le (c := 0) (de_fn C1 rfl M_is_between (by decide) (by decide +kernel) a_is_between kp_is_between b_is_between_3 .nil (das_dat C1 (de_var C1 (i := 1) rfl (vis_by (by decide +kernel))) (das_dat C1 de_int (das_dat C1 (de_glob C1 (by decide +kernel) m_MOST_WEIGHT r_MOST_WEIGHT) das_nil))) rfl) (by decide +kernel)) (by decide)))) db_nil)) (de_one (de_cmp C dop_gt (DE.bo (de_ix C dix (DE.bo (de_var C (i := 0) rfl (vis_by (by decide +kernel)))) (DE.bo de_int))) (DE.bo de_int)))))))
  exact ⟨_, by decide +kernel, d⟩
theorem sc_check_wishes : FnScope N_check_wishes ["wishes"] (defScope s_check_wishes) := ⟨rfl, rfl, rfl, by decide +kernel, rfl, by decide +kernel, by decide +kernel⟩
theorem ok_check_wishes {P : Program} {w : World} {K : PySem.W.Frag} {mg : Str → Option Value} {base : Heap} {f : Addr} {od an : Option Addr} {osl : Array (Option Value)} {oc dV kV doc pm cdv ct : Value}
    (lk : K.lookup f = some ⟨oc, od, .func (PySem.W.fnOf "check_wishes" "check_wishes" (defArgs s_check_wishes) (defBody s_check_wishes) (defScope s_check_wishes) dV kV doc pm an cdv ct), osl⟩) (cd : PySem.W.codeIn K cdv "check_wishes" = true)
    {f_are_wishes : Addr} {fd_are_wishes : FuncData} (M_are_wishes : FnD P w K mg base 3 f_are_wishes fd_are_wishes ["value"] F_are_wishes 0) (a_are_wishes : mg "are_wishes" = some (.ref f_are_wishes)) (kp_are_wishes : PySem.W.keepIn K (.ref f_are_wishes) = true)
    (b_are_wishes_1 : BindG K fd_are_wishes ["value"] 1 [] [])
    {fI : Addr} {fdI : FuncData} (FI : FnOk P w K mg base (L2.CX P w) 1 fI fdI ["self", "value"] (spI K C_PictureError)) (hbI : Binds K fdI ["self", "value"] []) (tI : PySem.W.typeIn K (.ref fI) = some (.type "function"))
    (IC_BadWishes : InitC K C_PictureError C_BadWishes) (EK_BadWishes : ExcK K C_BadWishes) (iC_BadWishes : PySem.W.findIn K (.ref C_BadWishes) "__init__" = some (some (.ref fI)))
    (mc_BadWishes : mg "BadWishes" = some (.ref C_BadWishes)) :
    FnD P w K mg base 4 f (PySem.W.fnOf "check_wishes" "check_wishes" (defArgs s_check_wishes) (defBody s_check_wishes) (defScope s_check_wishes) dV kV doc pm an cdv ct) ["wishes"] F_check_wishes 0 := by
  unfold F_check_wishes
  refine fnd_by lk cd sc_check_wishes (g := G_check_wishes) (by decide) (fun X W E hE h1 h2 h3 h4 h5 hfn C => ?_)
  subst h1 h2 h3 h4 h5
  have d : DSs X W (defBody s_check_wishes) (G_check_wishes E) _ := (dss_one (ds_if C (dt_not (dt_val (DE.bo (de_fn C hE M_are_wishes (by decide) (by decide +kernel) a_are_wishes kp_are_wishes b_are_wishes_1 .nil (das_dat C (de_var C (i := 0) rfl (vis_by (by decide +kernel))) das_nil) rfl)))) (dss_one (ds_raise C hE (by decide) IC_BadWishes EK_BadWishes iC_BadWishes tI FI hbI (by decide +kernel) mc_BadWishes (de_var C (i := 0) rfl (vis_by (by decide +kernel))))) dss_nil))
  exact ⟨_, by decide +kernel, d⟩
theorem sc_added : FnScope N_added ["one", "other"] (defScope s_added) := ⟨rfl, rfl, rfl, by decide +kernel, rfl, by decide +kernel, by decide +kernel⟩
theorem ok_added {P : Program} {w : World} {K : PySem.W.Frag} {mg : Str → Option Value} {base : Heap} {f : Addr} {od an : Option Addr} {osl : Array (Option Value)} {oc dV kV doc pm cdv ct : Value}
    (lk : K.lookup f = some ⟨oc, od, .func (PySem.W.fnOf "added" "added" (defArgs s_added) (defBody s_added) (defScope s_added) dV kV doc pm an cdv ct), osl⟩) (cd : PySem.W.codeIn K cdv "added" = true)
    {f_reduced : Addr} {fd_reduced : FuncData} (M_reduced : FnD P w K mg base 2 f_reduced fd_reduced ["top", "low"] F_reduced 0) (a_reduced : mg "reduced" = some (.ref f_reduced)) (kp_reduced : PySem.W.keepIn K (.ref f_reduced) = true)
    (b_reduced_2 : BindG K fd_reduced ["top", "low"] 2 [] []) :
    FnD P w K mg base 3 f (PySem.W.fnOf "added" "added" (defArgs s_added) (defBody s_added) (defScope s_added) dV kV doc pm an cdv ct) ["one", "other"] F_added 0 := by
  unfold F_added
  refine fnd_by lk cd sc_added (g := G_added) (by decide) (fun X W E hE h1 h2 h3 h4 h5 hfn C => ?_)
  subst h1 h2 h3 h4 h5
  have d : DSs X W (defBody s_added) (G_added E) _ := (dss_one (ds_ret C (de_fn C hE M_reduced (by decide) (by decide +kernel) a_reduced kp_reduced b_reduced_2 .nil (das_dat C (de_bin C dop_add (DE.bo (de_bin C dop_mul (DE.bo (de_ix C dix (DE.bo (de_var C (i := 0) rfl (vis_by (by decide +kernel)))) (DE.bo de_int))) (DE.bo (de_ix C dix (DE.bo (de_var C (i := 1) rfl (vis_by (by decide +kernel)))) (DE.bo de_int))))) (DE.bo (de_bin C dop_mul (DE.bo (de_ix C dix (DE.bo (de_var C (i := 1) rfl (vis_by (by decide +kernel)))) (DE.bo de_int))) (DE.bo (de_ix C dix (DE.bo (de_var C (i := 0) rfl (vis_by (by decide +kernel)))) (DE.bo de_int)))))) (das_dat C (de_bin C dop_mul (DE.bo (de_ix C dix (DE.bo (de_var C (i := 0) rfl (vis_by (by decide +kernel)))) (DE.bo de_int))) (DE.bo (de_ix C dix (DE.bo (de_var C (i := 1) rfl (vis_by (by decide +kernel)))) (DE.bo de_int)))) das_nil)) rfl)))
  exact ⟨_, by decide +kernel, d⟩
theorem sc_product_of : FnScope N_product_of ["one", "other"] (defScope s_product_of) := ⟨rfl, rfl, rfl, by decide +kernel, rfl, by decide +kernel, by decide +kernel⟩
theorem ok_product_of {P : Program} {w : World} {K : PySem.W.Frag} {mg : Str → Option Value} {base : Heap} {f : Addr} {od an : Option Addr} {osl : Array (Option Value)} {oc dV kV doc pm cdv ct : Value}
    (lk : K.lookup f = some ⟨oc, od, .func (PySem.W.fnOf "product_of" "product_of" (defArgs s_product_of) (defBody s_product_of) (defScope s_product_of) dV kV doc pm an cdv ct), osl⟩) (cd : PySem.W.codeIn K cdv "product_of" = true)
    {f_reduced : Addr} {fd_reduced : FuncData} (M_reduced : FnD P w K mg base 2 f_reduced fd_reduced ["top", "low"] F_reduced 0) (a_reduced : mg "reduced" = some (.ref f_reduced)) (kp_reduced : PySem.W.keepIn K (.ref f_reduced) = true)
    (b_reduced_2 : BindG K fd_reduced ["top", "low"] 2 [] []) :
    FnD P w K mg base 3 f (PySem.W.fnOf "product_of" "product_of" (defArgs s_product_of) (defBody s_product_of) (defScope s_product_of) dV kV doc pm an cdv ct) ["one", "other"] F_product_of 0 := by
  unfold F_product_of
  refine fnd_by lk cd sc_product_of (g := G_product_of) (by decide) (fun X W E hE h1 h2 h3 h4 h5 hfn C => ?_)
  subst h1 h2 h3 h4 h5
  have d : DSs X W (defBody s_product_of) (G_product_of E) _ := (dss_one (ds_ret C (de_fn C hE M_reduced (by decide) (by decide +kernel) a_reduced kp_reduced b_reduced_2 .nil (das_dat C (de_bin C dop_mul (DE.bo (de_ix C dix (DE.bo (de_var C (i := 0) rfl (vis_by (by decide +kernel)))) (DE.bo de_int))) (DE.bo (de_ix C dix (DE.bo (de_var C (i := 1) rfl (vis_by (by decide +kernel)))) (DE.bo de_int)))) (das_dat C (de_bin C dop_mul (DE.bo (de_ix C dix (DE.bo (de_var C (i := 0) rfl (vis_by (by decide +kernel)))) (DE.bo de_int))) (DE.bo (de_ix C dix (DE.bo (de_var C (i := 1) rfl (vis_by (by decide +kernel)))) (DE.bo de_int)))) das_nil)) rfl)))
  exact ⟨_, by decide +kernel, d⟩
theorem sc_last_of : FnScope N_last_of ["ticks"] (defScope s_last_of) := ⟨rfl, rfl, rfl, by decide +kernel, rfl, by decide +kernel, by decide +kernel⟩
theorem ok_last_of {P : Program} {w : World} {K : PySem.W.Frag} {mg : Str → Option Value} {base : Heap} {f : Addr} {od an : Option Addr} {osl : Array (Option Value)} {oc dV kV doc pm cdv ct : Value}
    (lk : K.lookup f = some ⟨oc, od, .func (PySem.W.fnOf "last_of" "last_of" (defArgs s_last_of) (defBody s_last_of) (defScope s_last_of) dV kV doc pm an cdv ct), osl⟩) (cd : PySem.W.codeIn K cdv "last_of" = true)
    {f_added : Addr} {fd_added : FuncData} (M_added : FnD P w K mg base 3 f_added fd_added ["one", "other"] F_added 0) (a_added : mg "added" = some (.ref f_added)) (kp_added : PySem.W.keepIn K (.ref f_added) = true)
    {f_product_of : Addr} {fd_product_of : FuncData} (M_product_of : FnD P w K mg base 3 f_product_of fd_product_of ["one", "other"] F_product_of 0) (a_product_of : mg "product_of" = some (.ref f_product_of)) (kp_product_of : PySem.W.keepIn K (.ref f_product_of) = true)
    (b_added_2 : BindG K fd_added ["one", "other"] 2 [] [])
    (b_product_of_2 : BindG K fd_product_of ["one", "other"] 2 [] []) :
    FnD P w K mg base 4 f (PySem.W.fnOf "last_of" "last_of" (defArgs s_last_of) (defBody s_last_of) (defScope s_last_of) dV kV doc pm an cdv ct) ["ticks"] F_last_of 0 := by
  unfold F_last_of
  refine fnd_by lk cd sc_last_of (g := G_last_of) (by decide) (fun X W E hE h1 h2 h3 h4 h5 hfn C => ?_)
  subst h1 h2 h3 h4 h5
  have d : DSs X W (defBody s_last_of) (G_last_of E) _ := (dss_one (ds_ret C (de_fn C hE M_added (by decide) (by decide +kernel) a_added kp_added b_added_2 .nil (das_dat C (de_ix C dix (DE.bo (de_var C (i := 0) rfl (vis_by (by decide +kernel)))) (DE.bo de_int)) (das_dat C (de_fn C hE M_product_of (by decide) (by decide +kernel) a_product_of kp_product_of b_product_of_2 .nil (das_dat C (de_tup C (da_cons C (de_bin C dop_sub (DE.bo (de_ix C dix (DE.bo (de_var C (i := 0) rfl (vis_by (by decide +kernel)))) (DE.bo de_int))) (DE.bo de_int)) (da_cons C de_int da_nil))) (das_dat C (de_ix C dix (DE.bo (de_var C (i := 0) rfl (vis_by (by decide +kernel)))) (DE.bo de_int)) das_nil)) rfl) das_nil)) rfl)))
  exact ⟨_, by decide +kernel, d⟩
theorem sc_do_cover : FnScope N_do_cover ["ticks", "least", "most"] (defScope s_do_cover) := ⟨rfl, rfl, rfl, by decide +kernel, rfl, by decide +kernel, by decide +kernel⟩
theorem ok_do_cover {P : Program} {w : World} {K : PySem.W.Frag} {mg : Str → Option Value} {base : Heap} {f : Addr} {od an : Option Addr} {osl : Array (Option Value)} {oc dV kV doc pm cdv ct : Value}
    (lk : K.lookup f = some ⟨oc, od, .func (PySem.W.fnOf "do_cover" "do_cover" (defArgs s_do_cover) (defBody s_do_cover) (defScope s_do_cover) dV kV doc pm an cdv ct), osl⟩) (cd : PySem.W.codeIn K cdv "do_cover" = true)
    {f_is_less : Addr} {fd_is_less : FuncData} (M_is_less : FnD P w K mg base 1 f_is_less fd_is_less ["one", "other"] F_is_less 0) (a_is_less : mg "is_less" = some (.ref f_is_less)) (kp_is_less : PySem.W.keepIn K (.ref f_is_less) = true)
    {f_last_of : Addr} {fd_last_of : FuncData} (M_last_of : FnD P w K mg base 4 f_last_of fd_last_of ["ticks"] F_last_of 0) (a_last_of : mg "last_of" = some (.ref f_last_of)) (kp_last_of : PySem.W.keepIn K (.ref f_last_of) = true)
    (b_is_less_2 : BindG K fd_is_less ["one", "other"] 2 [] [])
    (b_last_of_1 : BindG K fd_last_of ["ticks"] 1 [] []) :
    FnD P w K mg base 5 f (PySem.W.fnOf "do_cover" "do_cover" (defArgs s_do_cover) (defBody s_do_cover) (defScope s_do_cover) dV kV doc pm an cdv ct) ["ticks", "least", "most"] F_do_cover 0 := by
  unfold F_do_cover
  refine fnd_by lk cd sc_do_cover (g := G_do_cover) (by decide) (fun X W E hE h1 h2 h3 h4 h5 hfn C => ?_)
  subst h1 h2 h3 h4 h5
  have d : DSs X W (defBody s_do_cover) (G_do_cover E) _ := (dss_one (ds_ret C (de_and C (de_not (de_fn C hE M_is_less (by decide) (by decide +kernel) a_is_less kp_is_less b_is_less_2 .nil (das_dat C (de_var C (i := 1) rfl (vis_by (by decide +kernel))) (das_dat C (de_ix C dix (DE.bo (de_var C (i := 0) rfl (vis_by (by decide +kernel)))) (DE.bo de_int)) das_nil)) rfl)) (de_one (de_not (de_fn C hE M_is_less (by decide) (by decide +kernel) a_is_less kp_is_less b_is_less_2 .nil (das_dat C (de_fn C hE M_last_of (by decide) (by decide +kernel) a_last_of kp_last_of b_last_of_1 .nil (das_dat C (de_var C (i := 0) rfl (vis_by (by decide +kernel))) das_nil) rfl) (das_dat C (de_var C (i := 2) rfl (vis_by (by decide +kernel))) das_nil)) rfl))))))
  exact ⟨_, by decide +kernel, d⟩
theorem sc_plain_cost : FnScope N_plain_cost ["digit", "many", "vain", "wishes"] (defScope s_plain_cost) := ⟨rfl, rfl, rfl, by decide +kernel, rfl, by decide +kernel, by decide +kernel⟩
theorem ok_plain_cost {P : Program} {w : World} {K : PySem.W.Frag} {mg : Str → Option Value} {base : Heap} {f : Addr} {od an : Option Addr} {osl : Array (Option Value)} {oc dV kV doc pm cdv ct : Value}
    (lk : K.lookup f = some ⟨oc, od, .func (PySem.W.fnOf "plain_cost" "plain_cost" (defArgs s_plain_cost) (defBody s_plain_cost) (defScope s_plain_cost) dV kV doc pm an cdv ct), osl⟩) (cd : PySem.W.codeIn K cdv "plain_cost" = true)
    {u_DIGITS : Value} (m_DIGITS : mg "DIGITS" = some u_DIGITS) (r_DIGITS : KRep K u_DIGITS d_DIGITS)
    (x_DIGITS : KIdx K u_DIGITS [1, 2, 5])
    (m_abs : mg "abs" = none) :
    FnD P w K mg base 1 f (PySem.W.fnOf "plain_cost" "plain_cost" (defArgs s_plain_cost) (defBody s_plain_cost) (defScope s_plain_cost) dV kV doc pm an cdv ct) ["digit", "many", "vain", "wishes"] F_plain_cost 0 := by
  unfold F_plain_cost
  refine fnd_by lk cd sc_plain_cost (g := G_plain_cost) (by decide) (fun X W E hE h1 h2 h3 h4 h5 hfn C => ?_)
  subst h1 h2 h3 h4 h5
  have d : DSs X W (defBody s_plain_cost) (G_plain_cost E) _ := (dss_one (ds_ret C (de_bin C dop_add (DE.bo (de_bin C dop_add (DE.bo (de_bin C dop_mul (DE.bo (de_ix C dix (DE.bo (de_var C (i := 3) rfl (vis_by (by decide +kernel)))) (DE.bo de_int))) (DE.bo (de_kidx C (by decide +kernel) m_DIGITS x_DIGITS (DE.bo (de_var C (i := 0) rfl (vis_by (by decide +kernel)))))))) (DE.bo (de_bin C dop_mul (DE.bo (de_ix C dix (DE.bo (de_var C (i := 3) rfl (vis_by (by decide +kernel)))) (DE.bo de_int))) (DE.bo (de_callB C dc_abs (by decide +kernel) m_abs boot_abs (db_cons C (DE.bo (de_bin C dop_sub (DE.bo (de_var C (i := 1) rfl (vis_by (by decide +kernel)))) (DE.bo (de_ix C dix (DE.bo (de_var C (i := 3) rfl (vis_by (by decide +kernel)))) (DE.bo de_int))))) db_nil))))))) (DE.bo (de_bin C dop_mul (DE.bo (de_ix C dix (DE.bo (de_var C (i := 3) rfl (vis_by (by decide +kernel)))) (DE.bo de_int))) (DE.bo (de_var C (i := 2) rfl (vis_by (by decide +kernel)))))))))
  exact ⟨_, by decide +kernel, d⟩
theorem sc_floor_of : FnScope N_floor_of ["one"] (defScope s_floor_of) := ⟨rfl, rfl, rfl, by decide +kernel, rfl, by decide +kernel, by decide +kernel⟩
theorem ok_floor_of {P : Program} {w : World} {K : PySem.W.Frag} {mg : Str → Option Value} {base : Heap} {f : Addr} {od an : Option Addr} {osl : Array (Option Value)} {oc dV kV doc pm cdv ct : Value}
    (lk : K.lookup f = some ⟨oc, od, .func (PySem.W.fnOf "floor_of" "floor_of" (defArgs s_floor_of) (defBody s_floor_of) (defScope s_floor_of) dV kV doc pm an cdv ct), osl⟩) (cd : PySem.W.codeIn K cdv "floor_of" = true)
     :
    FnD P w K mg base 1 f (PySem.W.fnOf "floor_of" "floor_of" (defArgs s_floor_of) (defBody s_floor_of) (defScope s_floor_of) dV kV doc pm an cdv ct) ["one"] F_floor_of 0 := by
  unfold F_floor_of
  refine fnd_by lk cd sc_floor_of (g := G_floor_of) (by decide) (fun X W E hE h1 h2 h3 h4 h5 hfn C => ?_)
  subst h1 h2 h3 h4 h5
  have d : DSs X W (defBody s_floor_of) (G_floor_of E) _ := (dss_one (ds_ret C (de_bin C dop_fdiv (DE.bo (de_ix C dix (DE.bo (de_var C (i := 0) rfl (vis_by (by decide +kernel)))) (DE.bo de_int))) (DE.bo (de_ix C dix (DE.bo (de_var C (i := 0) rfl (vis_by (by decide +kernel)))) (DE.bo de_int))))))
  exact ⟨_, by decide +kernel, d⟩
theorem sc_ceiling_of : FnScope N_ceiling_of ["one"] (defScope s_ceiling_of) := ⟨rfl, rfl, rfl, by decide +kernel, rfl, by decide +kernel, by decide +kernel⟩
theorem ok_ceiling_of {P : Program} {w : World} {K : PySem.W.Frag} {mg : Str → Option Value} {base : Heap} {f : Addr} {od an : Option Addr} {osl : Array (Option Value)} {oc dV kV doc pm cdv ct : Value}
    (lk : K.lookup f = some ⟨oc, od, .func (PySem.W.fnOf "ceiling_of" "ceiling_of" (defArgs s_ceiling_of) (defBody s_ceiling_of) (defScope s_ceiling_of) dV kV doc pm an cdv ct), osl⟩) (cd : PySem.W.codeIn K cdv "ceiling_of" = true)
    {f_floor_of : Addr} {fd_floor_of : FuncData} (M_floor_of : FnD P w K mg base 1 f_floor_of fd_floor_of ["one"] F_floor_of 0) (a_floor_of : mg "floor_of" = some (.ref f_floor_of)) (kp_floor_of : PySem.W.keepIn K (.ref f_floor_of) = true)
    (b_floor_of_1 : BindG K fd_floor_of ["one"] 1 [] []) :
    FnD P w K mg base 2 f (PySem.W.fnOf "ceiling_of" "ceiling_of" (defArgs s_ceiling_of) (defBody s_ceiling_of) (defScope s_ceiling_of) dV kV doc pm an cdv ct) ["one"] F_ceiling_of 0 := by
  unfold F_ceiling_of
  refine fnd_by lk cd sc_ceiling_of (g := G_ceiling_of) (by decide) (fun X W E hE h1 h2 h3 h4 h5 hfn C => ?_)
  subst h1 h2 h3 h4 h5
  have d : DSs X W (defBody s_ceiling_of) (G_ceiling_of E) _ := (dss_one (ds_ret C (de_bin C dop_sub (DE.bo de_int) (DE.bo (de_fn C hE M_floor_of (by decide) (by decide +kernel) a_floor_of kp_floor_of b_floor_of_1 .nil (das_dat C (de_tup C (da_cons C (de_bin C dop_sub (DE.bo de_int) (DE.bo (de_ix C dix (DE.bo (de_var C (i := 0) rfl (vis_by (by decide +kernel)))) (DE.bo de_int)))) (da_cons C (de_ix C dix (DE.bo (de_var C (i := 0) rfl (vis_by (by decide +kernel)))) (DE.bo de_int)) da_nil))) das_nil) rfl)))))
  exact ⟨_, by decide +kernel, d⟩
theorem sc_steps_around : FnScope N_steps_around ["step", "ends"] (defScope s_steps_around) := ⟨rfl, rfl, rfl, by decide +kernel, rfl, by decide +kernel, by decide +kernel⟩
theorem ok_steps_around {P : Program} {w : World} {K : PySem.W.Frag} {mg : Str → Option Value} {base : Heap} {f : Addr} {od an : Option Addr} {osl : Array (Option Value)} {oc dV kV doc pm cdv ct : Value}
    (lk : K.lookup f = some ⟨oc, od, .func (PySem.W.fnOf "steps_around" "steps_around" (defArgs s_steps_around) (defBody s_steps_around) (defScope s_steps_around) dV kV doc pm an cdv ct), osl⟩) (cd : PySem.W.codeIn K cdv "steps_around" = true)
    {f_floor_of : Addr} {fd_floor_of : FuncData} (M_floor_of : FnD P w K mg base 1 f_floor_of fd_floor_of ["one"] F_floor_of 0) (a_floor_of : mg "floor_of" = some (.ref f_floor_of)) (kp_floor_of : PySem.W.keepIn K (.ref f_floor_of) = true)
    {f_quotient : Addr} {fd_quotient : FuncData} (M_quotient : FnD P w K mg base 3 f_quotient fd_quotient ["one", "other"] F_quotient 0) (a_quotient : mg "quotient" = some (.ref f_quotient)) (kp_quotient : PySem.W.keepIn K (.ref f_quotient) = true)
    {f_ceiling_of : Addr} {fd_ceiling_of : FuncData} (M_ceiling_of : FnD P w K mg base 2 f_ceiling_of fd_ceiling_of ["one"] F_ceiling_of 0) (a_ceiling_of : mg "ceiling_of" = some (.ref f_ceiling_of)) (kp_ceiling_of : PySem.W.keepIn K (.ref f_ceiling_of) = true)
    (b_floor_of_1 : BindG K fd_floor_of ["one"] 1 [] [])
    (b_quotient_2 : BindG K fd_quotient ["one", "other"] 2 [] [])
    (b_ceiling_of_1 : BindG K fd_ceiling_of ["one"] 1 [] []) :
    FnD P w K mg base 4 f (PySem.W.fnOf "steps_around" "steps_around" (defArgs s_steps_around) (defBody s_steps_around) (defScope s_steps_around) dV kV doc pm an cdv ct) ["step", "ends"] F_steps_around 0 := by
  unfold F_steps_around
  refine fnd_by lk cd sc_steps_around (g := G_steps_around) (by decide) (fun X W E hE h1 h2 h3 h4 h5 hfn C => ?_)
  subst h1 h2 h3 h4 h5
  have d : DSs X W (defBody s_steps_around) (G_steps_around E) _ := (dss_one (ds_ret C (de_tup C (da_cons C (de_fn C hE M_floor_of (by decide) (by decide +kernel) a_floor_of kp_floor_of b_floor_of_1 .nil (das_dat C (de_fn C hE M_quotient (by decide) (by decide +kernel) a_quotient kp_quotient b_quotient_2 .nil (das_dat C (de_ix C dix (DE.bo (de_var C (i := 1) rfl (vis_by (by decide +kernel)))) (DE.bo de_int)) (das_dat C (de_var C (i := 0) rfl (vis_by (by decide +kernel))) das_nil)) rfl) das_nil) rfl) (da_cons C (de_fn C hE M_ceiling_of (by decide) (by decide +kernel) a_ceiling_of kp_ceiling_of b_ceiling_of_1 .nil (das_dat C (de_fn C hE M_quotient (by decide) (by decide +kernel) a_quotient kp_quotient b_quotient_2 .nil (das_dat C (de_ix C dix (DE.bo (de_var C (i := 1) rfl (vis_by (by decide +kernel)))) (DE.bo de_int)) (das_dat C (de_var C (i := 0) rfl (vis_by (by decide +kernel))) das_nil)) rfl) das_nil) rfl) da_nil)))))
  exact ⟨_, by decide +kernel, d⟩
theorem sc_steps_in_vain : FnScope N_steps_in_vain ["ticks", "ends"] (defScope s_steps_in_vain) := ⟨rfl, rfl, rfl, by decide +kernel, rfl, by decide +kernel, by decide +kernel⟩
theorem ok_steps_in_vain {P : Program} {w : World} {K : PySem.W.Frag} {mg : Str → Option Value} {base : Heap} {f : Addr} {od an : Option Addr} {osl : Array (Option Value)} {oc dV kV doc pm cdv ct : Value}
    (lk : K.lookup f = some ⟨oc, od, .func (PySem.W.fnOf "steps_in_vain" "steps_in_vain" (defArgs s_steps_in_vain) (defBody s_steps_in_vain) (defScope s_steps_in_vain) dV kV doc pm an cdv ct), osl⟩) (cd : PySem.W.codeIn K cdv "steps_in_vain" = true)
    {f_steps_around : Addr} {fd_steps_around : FuncData} (M_steps_around : FnD P w K mg base 4 f_steps_around fd_steps_around ["step", "ends"] F_steps_around 0) (a_steps_around : mg "steps_around" = some (.ref f_steps_around)) (kp_steps_around : PySem.W.keepIn K (.ref f_steps_around) = true)
    (b_steps_around_2 : BindG K fd_steps_around ["step", "ends"] 2 [] []) :
    FnD P w K mg base 5 f (PySem.W.fnOf "steps_in_vain" "steps_in_vain" (defArgs s_steps_in_vain) (defBody s_steps_in_vain) (defScope s_steps_in_vain) dV kV doc pm an cdv ct) ["ticks", "ends"] F_steps_in_vain 0 := by
  unfold F_steps_in_vain
  refine fnd_by lk cd sc_steps_in_vain (g := G_steps_in_vain) (by decide) (fun X W E hE h1 h2 h3 h4 h5 hfn C => ?_)
  subst h1 h2 h3 h4 h5
  have d : DSs X W (defBody s_steps_in_vain) (G_steps_in_vain E) _ := (dss_cons (ds_asg C (de_fn C hE M_steps_around (by decide) (by decide +kernel) a_steps_around kp_steps_around b_steps_around_2 .nil (das_dat C (de_ix C dix (DE.bo (de_var C (i := 0) rfl (vis_by (by decide +kernel)))) (DE.bo de_int)) (das_dat C (de_var C (i := 1) rfl (vis_by (by decide +kernel))) das_nil)) rfl) (dg_tup C (dgs_cons (dg_name C (i := 2) rfl (loc_by (by decide +kernel)) (.inl (hfn _))) (dgs_cons (dg_name C (i := 3) rfl (loc_by (by decide +kernel)) (.inl (hfn _))) dgs_nil))))
    (dss_one (ds_ret C (de_bin C dop_sub (DE.bo (de_bin C dop_sub (DE.bo (de_ix C dix (DE.bo (de_var C (i := 0) rfl (vis_by (by decide +kernel)))) (DE.bo de_int))) (DE.bo de_int))) (DE.bo (de_bin C dop_sub (DE.bo (de_var C (i := 3) rfl (vis_by (by decide +kernel)))) (DE.bo (de_var C (i := 2) rfl (vis_by (by decide +kernel))))))))))
  exact ⟨_, by decide +kernel, d⟩
theorem sc_fraction_text : FnScope N_fraction_text ["one"] (defScope s_fraction_text) := ⟨rfl, rfl, rfl, by decide +kernel, rfl, by decide +kernel, by decide +kernel⟩
theorem ok_fraction_text {P : Program} {w : World} {K : PySem.W.Frag} {mg : Str → Option Value} {base : Heap} {f : Addr} {od an : Option Addr} {osl : Array (Option Value)} {oc dV kV doc pm cdv ct : Value}
    (lk : K.lookup f = some ⟨oc, od, .func (PySem.W.fnOf "fraction_text" "fraction_text" (defArgs s_fraction_text) (defBody s_fraction_text) (defScope s_fraction_text) dV kV doc pm an cdv ct), osl⟩) (cd : PySem.W.codeIn K cdv "fraction_text" = true)
    {u_STROKE : Value} (m_STROKE : mg "STROKE" = some u_STROKE) (r_STROKE : KRep K u_STROKE d_STROKE)
    (m_str : mg "str" = none) :
    FnD P w K mg base 1 f (PySem.W.fnOf "fraction_text" "fraction_text" (defArgs s_fraction_text) (defBody s_fraction_text) (defScope s_fraction_text) dV kV doc pm an cdv ct) ["one"] F_fraction_text 0 := by
  unfold F_fraction_text
  refine fnd_by lk cd sc_fraction_text (g := G_fraction_text) (by decide) (fun X W E hE h1 h2 h3 h4 h5 hfn C => ?_)
  subst h1 h2 h3 h4 h5
  have d : DSs X W (defBody s_fraction_text) (G_fraction_text E) _ := (dss_one (ds_ret C (de_if C (dt_cmp C (dop_eq C.units) (DE.bo (de_ix C dix (DE.bo (de_var C (i := 0) rfl (vis_by (by decide +kernel)))) (DE.bo de_int))) (DE.bo de_int)) (de_callT C dc_str (by decide +kernel) m_str boot_str (db_cons C (DE.bo (de_ix C dix (DE.bo (de_var C (i := 0) rfl (vis_by (by decide +kernel)))) (DE.bo de_int))) db_nil)) (de_bin C dop_add (DE.bo (de_bin C dop_add (DE.bo (de_callT C dc_str (by decide +kernel) m_str boot_str (db_cons C (DE.bo (de_ix C dix (DE.bo (de_var C (i := 0) rfl (vis_by (by decide +kernel)))) (DE.bo de_int))) db_nil))) (DE.bo (de_glob C (by decide +kernel) m_STROKE r_STROKE)))) (DE.bo (de_callT C dc_str (by decide +kernel) m_str boot_str (db_cons C (DE.bo (de_ix C dix (DE.bo (de_var C (i := 0) rfl (vis_by (by decide +kernel)))) (DE.bo de_int))) db_nil)))))))
  exact ⟨_, by decide +kernel, d⟩
theorem sc_values_of : FnScope N_values_of ["ticks"] (defScope s_values_of) := ⟨rfl, rfl, rfl, by decide +kernel, rfl, by decide +kernel, by decide +kernel⟩
theorem ok_values_of {P : Program} {w : World} {K : PySem.W.Frag} {mg : Str → Option Value} {base : Heap} {f : Addr} {od an : Option Addr} {osl : Array (Option Value)} {oc dV kV doc pm cdv ct : Value}
    (lk : K.lookup f = some ⟨oc, od, .func (PySem.W.fnOf "values_of" "values_of" (defArgs s_values_of) (defBody s_values_of) (defScope s_values_of) dV kV doc pm an cdv ct), osl⟩) (cd : PySem.W.codeIn K cdv "values_of" = true)
    {f_added : Addr} {fd_added : FuncData} (M_added : FnD P w K mg base 3 f_added fd_added ["one", "other"] F_added 0) (a_added : mg "added" = some (.ref f_added)) (kp_added : PySem.W.keepIn K (.ref f_added) = true)
    {f_product_of : Addr} {fd_product_of : FuncData} (M_product_of : FnD P w K mg base 3 f_product_of fd_product_of ["one", "other"] F_product_of 0) (a_product_of : mg "product_of" = some (.ref f_product_of)) (kp_product_of : PySem.W.keepIn K (.ref f_product_of) = true)
    (b_added_2 : BindG K fd_added ["one", "other"] 2 [] [])
    (b_product_of_2 : BindG K fd_product_of ["one", "other"] 2 [] [])
    (m_range : mg "range" = none) :
    FnD P w K mg base 4 f (PySem.W.fnOf "values_of" "values_of" (defArgs s_values_of) (defBody s_values_of) (defScope s_values_of) dV kV doc pm an cdv ct) ["ticks"] F_values_of 0 := by
  unfold F_values_of
  refine fnd_by lk cd sc_values_of (g := G_values_of) (by decide) (fun X W E hE h1 h2 h3 h4 h5 hfn C => ?_)
  subst h1 h2 h3 h4 h5
  have d : DSs X W (defBody s_values_of) (G_values_of E) _ := (dss_cons (ds_asg C (de_var C (i := 0) rfl (vis_by (by decide +kernel))) (dg_tup C (dgs_cons (dg_name C (i := 1) rfl (loc_by (by decide +kernel)) (.inl (hfn _))) (dgs_cons (dg_name C (i := 2) rfl (loc_by (by decide +kernel)) (.inl (hfn _))) (dgs_cons (dg_name C (i := 3) rfl (loc_by (by decide +kernel)) (.inl (hfn _))) dgs_nil)))))
    (dss_one (ds_ret C (DF.da C (df_lc (own := [("at", 4)]) C 0 (DI.bo (di_range1 C (by decide +kernel) m_range (DE.bo (de_var C (i := 3) rfl (vis_by (by decide +kernel)))))) (blkOk_by (own := [("at", 4)]) (by decide +kernel)) (blk_use C fun _ _ _ _ _ _ C1 => (dg_name C1 (i := 4) rfl (loc_by (by decide +kernel)) (.inr (by decide +kernel)))) (blk_use C fun _ _ _ _ _ _ C1 => PTsD.le (c := 0) dts_nil (by decide +kernel)) (blk_use C fun _ _ _ _ _ _ C1 => DE.le (c := 0) (de_fn C1 rfl M_added (by decide) (by decide +kernel) a_added kp_added b_added_2 .nil (das_dat C1 (de_var C1 (i := 1) rfl (vis_by (by decide +kernel))) (das_dat C1 (de_fn C1 rfl M_product_of (by decide) (by decide +kernel) a_product_of kp_product_of b_product_of_2 .nil (das_dat C1 (de_tup C1 (da_cons C1 (de_var C1 (i := 4) rfl (vis_by (by decide +kernel))) (da_cons C1 de_int da_nil))) (das_dat C1 (de_var C1 (i := 2) rfl (vis_by (by decide +kernel))) das_nil)) rfl) das_nil)) rfl) (by decide +kernel)) (by decide))))))
  exact ⟨_, by decide +kernel, d⟩
theorem sc_signs_of : FnScope N_signs_of ["ticks"] (defScope s_signs_of) := ⟨rfl, rfl, rfl, by decide +kernel, rfl, by decide +kernel, by decide +kernel⟩
theorem ok_signs_of {P : Program} {w : World} {K : PySem.W.Frag} {mg : Str → Option Value} {base : Heap} {f : Addr} {od an : Option Addr} {osl : Array (Option Value)} {oc dV kV doc pm cdv ct : Value}
    (lk : K.lookup f = some ⟨oc, od, .func (PySem.W.fnOf "signs_of" "signs_of" (defArgs s_signs_of) (defBody s_signs_of) (defScope s_signs_of) dV kV doc pm an cdv ct), osl⟩) (cd : PySem.W.codeIn K cdv "signs_of" = true)
    {f_values_of : Addr} {fd_values_of : FuncData} (M_values_of : FnD P w K mg base 4 f_values_of fd_values_of ["ticks"] F_values_of 0) (a_values_of : mg "values_of" = some (.ref f_values_of)) (kp_values_of : PySem.W.keepIn K (.ref f_values_of) = true)
    {f_fraction_text : Addr} {fd_fraction_text : FuncData} (M_fraction_text : FnD P w K mg base 1 f_fraction_text fd_fraction_text ["one"] F_fraction_text 0) (a_fraction_text : mg "fraction_text" = some (.ref f_fraction_text)) (kp_fraction_text : PySem.W.keepIn K (.ref f_fraction_text) = true)
    (b_values_of_1 : BindG K fd_values_of ["ticks"] 1 [] [])
    (b_fraction_text_1 : BindG K fd_fraction_text ["one"] 1 [] [])
    (m_max : mg "max" = none)
    (m_len : mg "len" = none) :
    FnD P w K mg base 5 f (PySem.W.fnOf "signs_of" "signs_of" (defArgs s_signs_of) (defBody s_signs_of) (defScope s_signs_of) dV kV doc pm an cdv ct) ["ticks"] F_signs_of 0 := by
  unfold F_signs_of
  refine fnd_by lk cd sc_signs_of (g := G_signs_of) (by decide) (fun X W E hE h1 h2 h3 h4 h5 hfn C => ?_)
  subst h1 h2 h3 h4 h5
  have d : DSs X W (defBody s_signs_of) (G_signs_of E) _ := (dss_one (ds_ret C (de_callB C (dc_max C.calm) (by decide +kernel) m_max boot_max (db_cons C (DE.bo (DF.da C (df_lc (own := [("one", 1)]) C 0 (DI.bo (di_seq C (de_fn C hE M_values_of (by decide) (by decide +kernel) a_values_of kp_values_of b_values_of_1 .nil (das_dat C (de_var C (i := 0) rfl (vis_by (by decide +kernel))) das_nil) rfl))) (blkOk_by (own := [("one", 1)]) (by decide +kernel)) (blk_use C fun _ _ _ _ _ _ C1 => (dg_name C1 (i := 1) rfl (loc_by (by decide +kernel)) (.inr (by decide +kernel)))) (blk_use C fun _ _ _ _ _ _ C1 => PTsD.le (c := 0) dts_nil (by decide +kernel)) (blk_use C fun _ _ _ _ _ _ C1 => DE.le (c := 0) (de_callB C1 dc_len (by decide +kernel) m_len PySem.boot_len (db_cons C1 (DE.bo (de_fn C1 rfl M_fraction_text (by decide) (by decide +kernel) a_fraction_text kp_fraction_text b_fraction_text_1 .nil (das_dat C1 (de_var C1 (i := 1) rfl (vis_by (by decide +kernel))) das_nil) rfl)) db_nil)) (by decide +kernel)) (by decide)))) db_nil))))
  exact ⟨_, by decide +kernel, d⟩
theorem sc_whole_cost : FnScope N_whole_cost ["ticks", "ends", "wishes"] (defScope s_whole_cost) := ⟨rfl, rfl, rfl, by decide +kernel, rfl, by decide +kernel, by decide +kernel⟩
theorem ok_whole_cost {P : Program} {w : World} {K : PySem.W.Frag} {mg : Str → Option Value} {base : Heap} {f : Addr} {od an : Option Addr} {osl : Array (Option Value)} {oc dV kV doc pm cdv ct : Value}
    (lk : K.lookup f = some ⟨oc, od, .func (PySem.W.fnOf "whole_cost" "whole_cost" (defArgs s_whole_cost) (defBody s_whole_cost) (defScope s_whole_cost) dV kV doc pm an cdv ct), osl⟩) (cd : PySem.W.codeIn K cdv "whole_cost" = true)
    {f_parts_of_step : Addr} {fd_parts_of_step : FuncData} (M_parts_of_step : FnD P w K mg base 2 f_parts_of_step fd_parts_of_step ["step"] F_parts_of_step 0) (a_parts_of_step : mg "parts_of_step" = some (.ref f_parts_of_step)) (kp_parts_of_step : PySem.W.keepIn K (.ref f_parts_of_step) = true)
    {f_plain_cost : Addr} {fd_plain_cost : FuncData} (M_plain_cost : FnD P w K mg base 1 f_plain_cost fd_plain_cost ["digit", "many", "vain", "wishes"] F_plain_cost 0) (a_plain_cost : mg "plain_cost" = some (.ref f_plain_cost)) (kp_plain_cost : PySem.W.keepIn K (.ref f_plain_cost) = true)
    {f_steps_in_vain : Addr} {fd_steps_in_vain : FuncData} (M_steps_in_vain : FnD P w K mg base 5 f_steps_in_vain fd_steps_in_vain ["ticks", "ends"] F_steps_in_vain 0) (a_steps_in_vain : mg "steps_in_vain" = some (.ref f_steps_in_vain)) (kp_steps_in_vain : PySem.W.keepIn K (.ref f_steps_in_vain) = true)
    {f_signs_of : Addr} {fd_signs_of : FuncData} (M_signs_of : FnD P w K mg base 5 f_signs_of fd_signs_of ["ticks"] F_signs_of 0) (a_signs_of : mg "signs_of" = some (.ref f_signs_of)) (kp_signs_of : PySem.W.keepIn K (.ref f_signs_of) = true)
    (b_parts_of_step_1 : BindG K fd_parts_of_step ["step"] 1 [] [])
    (b_plain_cost_4 : BindG K fd_plain_cost ["digit", "many", "vain", "wishes"] 4 [] [])
    (b_steps_in_vain_2 : BindG K fd_steps_in_vain ["ticks", "ends"] 2 [] [])
    (b_signs_of_1 : BindG K fd_signs_of ["ticks"] 1 [] []) :
    FnD P w K mg base 6 f (PySem.W.fnOf "whole_cost" "whole_cost" (defArgs s_whole_cost) (defBody s_whole_cost) (defScope s_whole_cost) dV kV doc pm an cdv ct) ["ticks", "ends", "wishes"] F_whole_cost 0 := by
  unfold F_whole_cost
  refine fnd_by lk cd sc_whole_cost (g := G_whole_cost) (by decide) (fun X W E hE h1 h2 h3 h4 h5 hfn C => ?_)
  subst h1 h2 h3 h4 h5
  have d : DSs X W (defBody s_whole_cost) (G_whole_cost E) _ := (dss_cons (ds_set C (i := 3) rfl (loc_by (by decide +kernel)) (.inl (hfn _)) (de_ix C dix (DE.bo (de_fn C hE M_parts_of_step (by decide) (by decide +kernel) a_parts_of_step kp_parts_of_step b_parts_of_step_1 .nil (das_dat C (de_ix C dix (DE.bo (de_var C (i := 0) rfl (vis_by (by decide +kernel)))) (DE.bo de_int)) das_nil) rfl)) (DE.bo de_int)))
    (dss_one (ds_ret C (de_bin C dop_add (DE.bo (de_fn C hE M_plain_cost (by decide) (by decide +kernel) a_plain_cost kp_plain_cost b_plain_cost_4 .nil (das_dat C (de_var C (i := 3) rfl (vis_by (by decide +kernel))) (das_dat C (de_ix C dix (DE.bo (de_var C (i := 0) rfl (vis_by (by decide +kernel)))) (DE.bo de_int)) (das_dat C (de_fn C hE M_steps_in_vain (by decide) (by decide +kernel) a_steps_in_vain kp_steps_in_vain b_steps_in_vain_2 .nil (das_dat C (de_var C (i := 0) rfl (vis_by (by decide +kernel))) (das_dat C (de_var C (i := 1) rfl (vis_by (by decide +kernel))) das_nil)) rfl) (das_dat C (de_var C (i := 2) rfl (vis_by (by decide +kernel))) das_nil)))) rfl)) (DE.bo (de_bin C dop_mul (DE.bo (de_ix C dix (DE.bo (de_var C (i := 2) rfl (vis_by (by decide +kernel)))) (DE.bo de_int))) (DE.bo (de_fn C hE M_signs_of (by decide) (by decide +kernel) a_signs_of kp_signs_of b_signs_of_1 .nil (das_dat C (de_var C (i := 0) rfl (vis_by (by decide +kernel))) das_nil) rfl))))))))
  exact ⟨_, by decide +kernel, d⟩
theorem sc_ticks_cost : FnScope N_ticks_cost ["ticks", "ends", "wishes"] (defScope s_ticks_cost) := ⟨rfl, rfl, rfl, by decide +kernel, rfl, by decide +kernel, by decide +kernel⟩
theorem ok_ticks_cost {P : Program} {w : World} {K : PySem.W.Frag} {mg : Str → Option Value} {base : Heap} {f : Addr} {od an : Option Addr} {osl : Array (Option Value)} {oc dV kV doc pm cdv ct : Value}
    (lk : K.lookup f = some ⟨oc, od, .func (PySem.W.fnOf "ticks_cost" "ticks_cost" (defArgs s_ticks_cost) (defBody s_ticks_cost) (defScope s_ticks_cost) dV kV doc pm an cdv ct), osl⟩) (cd : PySem.W.codeIn K cdv "ticks_cost" = true)
    {f_check_ticks : Addr} {fd_check_ticks : FuncData} (M_check_ticks : FnD P w K mg base 5 f_check_ticks fd_check_ticks ["ticks"] F_check_ticks 0) (a_check_ticks : mg "check_ticks" = some (.ref f_check_ticks)) (kp_check_ticks : PySem.W.keepIn K (.ref f_check_ticks) = true)
    {f_check_ends : Addr} {fd_check_ends : FuncData} (M_check_ends : FnD P w K mg base 4 f_check_ends fd_check_ends ["ends"] F_check_ends 0) (a_check_ends : mg "check_ends" = some (.ref f_check_ends)) (kp_check_ends : PySem.W.keepIn K (.ref f_check_ends) = true)
    {f_check_wishes : Addr} {fd_check_wishes : FuncData} (M_check_wishes : FnD P w K mg base 4 f_check_wishes fd_check_wishes ["wishes"] F_check_wishes 0) (a_check_wishes : mg "check_wishes" = some (.ref f_check_wishes)) (kp_check_wishes : PySem.W.keepIn K (.ref f_check_wishes) = true)
    {f_do_cover : Addr} {fd_do_cover : FuncData} (M_do_cover : FnD P w K mg base 5 f_do_cover fd_do_cover ["ticks", "least", "most"] F_do_cover 0) (a_do_cover : mg "do_cover" = some (.ref f_do_cover)) (kp_do_cover : PySem.W.keepIn K (.ref f_do_cover) = true)
    {f_whole_cost : Addr} {fd_whole_cost : FuncData} (M_whole_cost : FnD P w K mg base 6 f_whole_cost fd_whole_cost ["ticks", "ends", "wishes"] F_whole_cost 0) (a_whole_cost : mg "whole_cost" = some (.ref f_whole_cost)) (kp_whole_cost : PySem.W.keepIn K (.ref f_whole_cost) = true)
    (b_check_ticks_1 : BindG K fd_check_ticks ["ticks"] 1 [] [])
    (b_check_ends_1 : BindG K fd_check_ends ["ends"] 1 [] [])
    (b_check_wishes_1 : BindG K fd_check_wishes ["wishes"] 1 [] [])
    (b_do_cover_3 : BindG K fd_do_cover ["ticks", "least", "most"] 3 [] [])
    (b_whole_cost_3 : BindG K fd_whole_cost ["ticks", "ends", "wishes"] 3 [] []) :
    FnD P w K mg base 7 f (PySem.W.fnOf "ticks_cost" "ticks_cost" (defArgs s_ticks_cost) (defBody s_ticks_cost) (defScope s_ticks_cost) dV kV doc pm an cdv ct) ["ticks", "ends", "wishes"] F_ticks_cost 0 := by
  unfold F_ticks_cost
  refine fnd_by lk cd sc_ticks_cost (g := G_ticks_cost) (by decide) (fun X W E hE h1 h2 h3 h4 h5 hfn C => ?_)
  subst h1 h2 h3 h4 h5
  have d : DSs X W (defBody s_ticks_cost) (G_ticks_cost E) _ := (dss_cons (ds_expr C (DE.bo (de_fn C hE M_check_ticks (by decide) (by decide +kernel) a_check_ticks kp_check_ticks b_check_ticks_1 .nil (das_dat C (de_var C (i := 0) rfl (vis_by (by decide +kernel))) das_nil) rfl)))
    (dss_cons (ds_expr C (DE.bo (de_fn C hE M_check_ends (by decide) (by decide +kernel) a_check_ends kp_check_ends b_check_ends_1 .nil (das_dat C (de_var C (i := 1) rfl (vis_by (by decide +kernel))) das_nil) rfl)))
    (dss_cons (ds_expr C (DE.bo (de_fn C hE M_check_wishes (by decide) (by decide +kernel) a_check_wishes kp_check_wishes b_check_wishes_1 .nil (das_dat C (de_var C (i := 2) rfl (vis_by (by decide +kernel))) das_nil) rfl)))
    (dss_one (ds_ret C (de_if C (dt_val (DE.bo (de_fn C hE M_do_cover (by decide) (by decide +kernel) a_do_cover kp_do_cover b_do_cover_3 .nil (das_dat C (de_var C (i := 0) rfl (vis_by (by decide +kernel))) (das_dat C (de_ix C dix (DE.bo (de_var C (i := 1) rfl (vis_by (by decide +kernel)))) (DE.bo de_int)) (das_dat C (de_ix C dix (DE.bo (de_var C (i := 1) rfl (vis_by (by decide +kernel)))) (DE.bo de_int)) das_nil))) rfl))) (de_fn C hE M_whole_cost (by decide) (by decide +kernel) a_whole_cost kp_whole_cost b_whole_cost_3 .nil (das_dat C (de_var C (i := 0) rfl (vis_by (by decide +kernel))) (das_dat C (de_var C (i := 1) rfl (vis_by (by decide +kernel))) (das_dat C (de_var C (i := 2) rfl (vis_by (by decide +kernel))) das_nil))) rfl) de_non))))))
  exact ⟨_, by decide +kernel, d⟩
theorem sc__law_take : FnScope N__law_take ["pot", "upto"] (defScope s__law_take) := ⟨rfl, rfl, rfl, by decide +kernel, rfl, by decide +kernel, by decide +kernel⟩
theorem ok__law_take {P : Program} {w : World} {K : PySem.W.Frag} {mg : Str → Option Value} {base : Heap} {f : Addr} {od an : Option Addr} {osl : Array (Option Value)} {oc dV kV doc pm cdv ct : Value}
    (lk : K.lookup f = some ⟨oc, od, .func (PySem.W.fnOf "_law_take" "_law_take" (defArgs s__law_take) (defBody s__law_take) (defScope s__law_take) dV kV doc pm an cdv ct), osl⟩) (cd : PySem.W.codeIn K cdv "_law_take" = true)
    (m_int : mg "int" = none) :
    FnD P w K mg base 1 f (PySem.W.fnOf "_law_take" "_law_take" (defArgs s__law_take) (defBody s__law_take) (defScope s__law_take) dV kV doc pm an cdv ct) ["pot", "upto"] F__law_take 1 := by
  unfold F__law_take
  refine fnd_by lk cd sc__law_take (g := G__law_take) (by decide) (fun X W E hE h1 h2 h3 h4 h5 hfn C => ?_)
  subst h1 h2 h3 h4 h5
  have d : DSs X W (defBody s__law_take) (G__law_take E) _ := (dss_cons (ds_if C (dt_cmp C dop_gt (DE.bo (de_pix C (i := 0) rfl (vis_by (by decide +kernel)))) (DE.bo de_int)) (dss_cons (ds_set C (i := 2) rfl (loc_by (by decide +kernel)) (.inl (hfn _)) (de_bin C dop_mod (DE.bo (de_callT C dc_int (by decide +kernel) m_int boot_int (db_cons C (DE.bo (de_pix C (i := 0) rfl (vis_by (by decide +kernel)))) db_nil))) (DE.bo (de_var C (i := 1) rfl (vis_by (by decide +kernel))))))
    (dss_cons (ds_ps0 C (i := 0) rfl (vis_by (by decide +kernel)) (de_bin C dop_fdiv (DE.bo (de_pix C (i := 0) rfl (vis_by (by decide +kernel)))) (DE.bo (de_var C (i := 1) rfl (vis_by (by decide +kernel))))))
    (dss_one (ds_ret C (de_var C (i := 2) rfl (vis_by (by decide +kernel))))))) dss_nil)
    (dss_cons (ds_tick C (i := 0) rfl (vis_by (by decide +kernel)))
    (dss_cons (ds_set C (i := 3) rfl (loc_by (by decide +kernel)) (.inl (hfn _)) (de_ix C dix (DE.bo (DF.da C (df_lst C (da_cons C de_int (da_cons C de_int (da_cons C de_int (da_cons C de_int (da_cons C de_int da_nil)))))))) (DE.bo (de_bin C dop_mod (DE.bo (de_callT C dc_int (by decide +kernel) m_int boot_int (db_cons C (DE.bo (de_pix C (i := 0) rfl (vis_by (by decide +kernel)))) db_nil))) (DE.bo de_int)))))
    (dss_cons (ds_set C (i := 4) rfl (loc_by (by decide +kernel)) (.inl (hfn _)) (de_bin C dop_mod (DE.bo (de_callT C dc_int (by decide +kernel) m_int boot_int (db_cons C (DE.bo (de_bin C dop_pow (DE.bo (de_callT C dc_int (by decide +kernel) m_int boot_int (db_cons C (DE.bo (de_bin C dop_add (DE.bo (de_bin C dop_add (DE.bo (de_pix C (i := 0) rfl (vis_by (by decide +kernel)))) (DE.bo (de_bin C dop_mul (DE.bo (de_bin C dop_mul (DE.bo de_int) (DE.bo (de_pix C (i := 0) rfl (vis_by (by decide +kernel)))))) (DE.bo (de_pix C (i := 0) rfl (vis_by (by decide +kernel)))))))) (DE.bo de_int))) db_nil))) (DE.bo de_int))) db_nil))) (DE.bo (de_var C (i := 3) rfl (vis_by (by decide +kernel))))))
    (dss_cons (ds_set C (i := 4) rfl (loc_by (by decide +kernel)) (.inl (hfn _)) (de_bin C dop_mod (DE.bo (de_callT C dc_int (by decide +kernel) m_int boot_int (db_cons C (DE.bo (de_bin C dop_mul (DE.bo (de_var C (i := 4) rfl (vis_by (by decide +kernel)))) (DE.bo (de_bin C dop_add (DE.bo (de_bin C dop_mod (DE.bo (de_callT C dc_int (by decide +kernel) m_int boot_int (db_cons C (DE.bo (de_var C (i := 4) rfl (vis_by (by decide +kernel)))) db_nil))) (DE.bo de_int))) (DE.bo (de_bin C dop_mul (DE.bo de_int) (DE.bo (de_pix C (i := 0) rfl (vis_by (by decide +kernel)))))))))) db_nil))) (DE.bo de_int)))
    (dss_one (ds_ret C (de_bin C dop_mod (DE.bo (de_callT C dc_int (by decide +kernel) m_int boot_int (db_cons C (DE.bo (de_bin C dop_fdiv (DE.bo (de_var C (i := 4) rfl (vis_by (by decide +kernel)))) (DE.bo de_int))) db_nil))) (DE.bo (de_var C (i := 1) rfl (vis_by (by decide +kernel))))))))))))
  exact ⟨_, by decide +kernel, d⟩
theorem sc__law_of : FnScope N__law_of ["pot", "some"] (defScope s__law_of) := ⟨rfl, rfl, rfl, by decide +kernel, rfl, by decide +kernel, by decide +kernel⟩
theorem ok__law_of {P : Program} {w : World} {K : PySem.W.Frag} {mg : Str → Option Value} {base : Heap} {f : Addr} {od an : Option Addr} {osl : Array (Option Value)} {oc dV kV doc pm cdv ct : Value}
    (lk : K.lookup f = some ⟨oc, od, .func (PySem.W.fnOf "_law_of" "_law_of" (defArgs s__law_of) (defBody s__law_of) (defScope s__law_of) dV kV doc pm an cdv ct), osl⟩) (cd : PySem.W.codeIn K cdv "_law_of" = true)
    {f__law_take : Addr} {fd__law_take : FuncData} (M__law_take : FnD P w K mg base 1 f__law_take fd__law_take ["pot", "upto"] F__law_take 1) (a__law_take : mg "_law_take" = some (.ref f__law_take)) (kp__law_take : PySem.W.keepIn K (.ref f__law_take) = true)
    (b__law_take_2 : BindG K fd__law_take ["pot", "upto"] 2 [] [])
    (m_len : mg "len" = none) :
    FnD P w K mg base 2 f (PySem.W.fnOf "_law_of" "_law_of" (defArgs s__law_of) (defBody s__law_of) (defScope s__law_of) dV kV doc pm an cdv ct) ["pot", "some"] F__law_of 1 := by
  unfold F__law_of
  refine fnd_by lk cd sc__law_of (g := G__law_of) (by decide) (fun X W E hE h1 h2 h3 h4 h5 hfn C => ?_)
  subst h1 h2 h3 h4 h5
  have d : DSs X W (defBody s__law_of) (G__law_of E) _ := (dss_one (ds_ret C (de_ix C dix (DE.bo (de_var C (i := 1) rfl (vis_by (by decide +kernel)))) (DE.bo (de_fn C hE M__law_take (by decide) (by decide +kernel) a__law_take kp__law_take b__law_take_2 .nil (das_pot C (i := 0) rfl (vis_by (by decide +kernel)) (das_dat C (de_callB C dc_len (by decide +kernel) m_len PySem.boot_len (db_cons C (DE.bo (de_var C (i := 1) rfl (vis_by (by decide +kernel)))) db_nil)) das_nil)) rfl)))))
  exact ⟨_, by decide +kernel, d⟩
theorem sc__law_odd : FnScope N__law_odd ["pot", "ticks"] (defScope s__law_odd) := ⟨rfl, rfl, rfl, by decide +kernel, rfl, by decide +kernel, by decide +kernel⟩
theorem ok__law_odd {P : Program} {w : World} {K : PySem.W.Frag} {mg : Str → Option Value} {base : Heap} {f : Addr} {od an : Option Addr} {osl : Array (Option Value)} {oc dV kV doc pm cdv ct : Value}
    (lk : K.lookup f = some ⟨oc, od, .func (PySem.W.fnOf "_law_odd" "_law_odd" (defArgs s__law_odd) (defBody s__law_odd) (defScope s__law_odd) dV kV doc pm an cdv ct), osl⟩) (cd : PySem.W.codeIn K cdv "_law_odd" = true)
    {f__law_plus : Addr} {fd__law_plus : FuncData} (M__law_plus : FnD P w K mg base 3 f__law_plus fd__law_plus ["one", "other"] F__law_plus 0) (a__law_plus : mg "_law_plus" = some (.ref f__law_plus)) (kp__law_plus : PySem.W.keepIn K (.ref f__law_plus) = true)
    {f__law_times : Addr} {fd__law_times : FuncData} (M__law_times : FnD P w K mg base 3 f__law_times fd__law_times ["one", "other"] F__law_times 0) (a__law_times : mg "_law_times" = some (.ref f__law_times)) (kp__law_times : PySem.W.keepIn K (.ref f__law_times) = true)
    {f__law_of : Addr} {fd__law_of : FuncData} (M__law_of : FnD P w K mg base 2 f__law_of fd__law_of ["pot", "some"] F__law_of 1) (a__law_of : mg "_law_of" = some (.ref f__law_of)) (kp__law_of : PySem.W.keepIn K (.ref f__law_of) = true)
    (b__law_plus_2 : BindG K fd__law_plus ["one", "other"] 2 [] [])
    (b__law_times_2 : BindG K fd__law_times ["one", "other"] 2 [] [])
    (b__law_of_2 : BindG K fd__law_of ["pot", "some"] 2 [] [])
    (m_list : mg "list" = none)
    (m_str : mg "str" = none) :
    FnD P w K mg base 4 f (PySem.W.fnOf "_law_odd" "_law_odd" (defArgs s__law_odd) (defBody s__law_odd) (defScope s__law_odd) dV kV doc pm an cdv ct) ["pot", "ticks"] F__law_odd 1 := by
  unfold F__law_odd
  refine fnd_by lk cd sc__law_odd (g := G__law_odd) (by decide) (fun X W E hE h1 h2 h3 h4 h5 hfn C => ?_)
  subst h1 h2 h3 h4 h5
  have d : DSs X W (defBody s__law_odd) (G__law_odd E) _ := (dss_cons (ds_asg C (de_var C (i := 1) rfl (vis_by (by decide +kernel))) (dg_tup C (dgs_cons (dg_name C (i := 2) rfl (loc_by (by decide +kernel)) (.inl (hfn _))) (dgs_cons (dg_name C (i := 3) rfl (loc_by (by decide +kernel)) (.inl (hfn _))) (dgs_cons (dg_name C (i := 4) rfl (loc_by (by decide +kernel)) (.inl (hfn _))) dgs_nil)))))
    (dss_cons (ds_set C (i := 5) rfl (loc_by (by decide +kernel)) (.inl (hfn _)) (de_fn C hE M__law_plus (by decide) (by decide +kernel) a__law_plus kp__law_plus b__law_plus_2 .nil (das_dat C (de_var C (i := 2) rfl (vis_by (by decide +kernel))) (das_dat C (de_fn C hE M__law_times (by decide) (by decide +kernel) a__law_times kp__law_times b__law_times_2 .nil (das_dat C (de_var C (i := 3) rfl (vis_by (by decide +kernel))) (das_dat C (de_tup C (da_cons C de_int (da_cons C de_int da_nil))) das_nil)) rfl) das_nil)) rfl))
    (dss_cons (ds_setF C (i := 6) rfl (loc_by (by decide +kernel)) (.inl (hfn _)) (df_lst C (da_cons C de_non (da_cons C (de_tup C da_nil) (da_cons C (DF.da C (df_lst C (da_cons C (de_var C (i := 2) rfl (vis_by (by decide +kernel))) (da_cons C (de_var C (i := 3) rfl (vis_by (by decide +kernel))) (da_cons C (de_var C (i := 4) rfl (vis_by (by decide +kernel))) da_nil))))) (da_cons C (de_tup C (da_cons C (de_var C (i := 2) rfl (vis_by (by decide +kernel))) (da_cons C (de_var C (i := 3) rfl (vis_by (by decide +kernel))) da_nil))) (da_cons C (de_tup C (da_cons C (de_var C (i := 2) rfl (vis_by (by decide +kernel))) (da_cons C (de_var C (i := 3) rfl (vis_by (by decide +kernel))) (da_cons C (de_var C (i := 4) rfl (vis_by (by decide +kernel))) (da_cons C de_int da_nil))))) (da_cons C (de_tup C (da_cons C (de_var C (i := 5) rfl (vis_by (by decide +kernel))) (da_cons C (de_var C (i := 3) rfl (vis_by (by decide +kernel))) (da_cons C (de_var C (i := 4) rfl (vis_by (by decide +kernel))) da_nil)))) da_nil))))))))
    (dss_cons (ds_ext C (i := 6) rfl (vis_by (by decide +kernel)) (DE.bo (DF.da C (df_lst C (da_cons C (de_tup C (da_cons C (de_var C (i := 2) rfl (vis_by (by decide +kernel))) (da_cons C (de_fn C hE M__law_times (by decide) (by decide +kernel) a__law_times kp__law_times b__law_times_2 .nil (das_dat C (de_var C (i := 3) rfl (vis_by (by decide +kernel))) (das_dat C (de_tup C (da_cons C de_int (da_cons C de_int da_nil))) das_nil)) rfl) (da_cons C (de_var C (i := 4) rfl (vis_by (by decide +kernel))) da_nil)))) da_nil)))))
    (dss_cons (ds_ext C (i := 6) rfl (vis_by (by decide +kernel)) (DE.bo (DF.da C (df_lst C (da_cons C (de_tup C (da_cons C (de_var C (i := 2) rfl (vis_by (by decide +kernel))) (da_cons C (de_var C (i := 3) rfl (vis_by (by decide +kernel))) (da_cons C de_int da_nil)))) (da_cons C (de_tup C (da_cons C (de_var C (i := 2) rfl (vis_by (by decide +kernel))) (da_cons C (de_var C (i := 3) rfl (vis_by (by decide +kernel))) (da_cons C de_int da_nil)))) (da_cons C (de_tup C (da_cons C (de_var C (i := 2) rfl (vis_by (by decide +kernel))) (da_cons C (de_var C (i := 3) rfl (vis_by (by decide +kernel))) (da_cons C de_bl da_nil)))) (da_cons C (de_tup C (da_cons C (de_var C (i := 2) rfl (vis_by (by decide +kernel))) (da_cons C (de_tup C (da_cons C de_int (da_cons C de_int da_nil))) (da_cons C (de_var C (i := 4) rfl (vis_by (by decide +kernel))) da_nil)))) da_nil))))))))
    (dss_cons (ds_ext C (i := 6) rfl (vis_by (by decide +kernel)) (DE.bo (DF.da C (df_lst C (da_cons C (de_tup C (da_cons C (de_var C (i := 2) rfl (vis_by (by decide +kernel))) (da_cons C (de_tup C (da_cons C de_int (da_cons C de_int da_nil))) (da_cons C (de_var C (i := 4) rfl (vis_by (by decide +kernel))) da_nil)))) da_nil)))))
    (dss_cons (ds_ext C (i := 6) rfl (vis_by (by decide +kernel)) (DE.bo (DF.da C (df_lst C (da_cons C (de_tup C (da_cons C (de_tup C (da_cons C (de_bin C dop_mul (DE.bo de_int) (DE.bo (de_ix C dix (DE.bo (de_var C (i := 2) rfl (vis_by (by decide +kernel)))) (DE.bo de_int)))) (da_cons C (de_bin C dop_mul (DE.bo de_int) (DE.bo (de_ix C dix (DE.bo (de_var C (i := 2) rfl (vis_by (by decide +kernel)))) (DE.bo de_int)))) da_nil))) (da_cons C (de_var C (i := 3) rfl (vis_by (by decide +kernel))) (da_cons C (de_var C (i := 4) rfl (vis_by (by decide +kernel))) da_nil)))) (da_cons C (de_tup C (da_cons C (de_var C (i := 2) rfl (vis_by (by decide +kernel))) (da_cons C (de_tup C (da_cons C (de_bin C dop_sub (DE.bo de_int) (DE.bo (de_ix C dix (DE.bo (de_var C (i := 3) rfl (vis_by (by decide +kernel)))) (DE.bo de_int)))) (da_cons C (de_ix C dix (DE.bo (de_var C (i := 3) rfl (vis_by (by decide +kernel)))) (DE.bo de_int)) da_nil))) (da_cons C (de_var C (i := 4) rfl (vis_by (by decide +kernel))) da_nil)))) da_nil))))))
    (dss_cons (ds_ext C (i := 6) rfl (vis_by (by decide +kernel)) (DE.bo (DF.da C (df_lst C (da_cons C (de_tup C (da_cons C (de_ix C dix (DE.bo (de_var C (i := 2) rfl (vis_by (by decide +kernel)))) (DE.bo de_int)) (da_cons C (de_var C (i := 3) rfl (vis_by (by decide +kernel))) (da_cons C (de_var C (i := 4) rfl (vis_by (by decide +kernel))) da_nil)))) (da_cons C (de_tup C (da_cons C (DF.da C (df_callT C dcf_list (by decide +kernel) m_list boot_list (db_cons C (DE.bo (de_var C (i := 2) rfl (vis_by (by decide +kernel)))) db_nil))) (da_cons C (de_var C (i := 3) rfl (vis_by (by decide +kernel))) (da_cons C (de_var C (i := 4) rfl (vis_by (by decide +kernel))) da_nil)))) (da_cons C (de_tup C (da_cons C (de_var C (i := 2) rfl (vis_by (by decide +kernel))) (da_cons C (de_sl C dsl (DE.bo (de_var C (i := 3) rfl (vis_by (by decide +kernel)))) dp_none (dp_some (DE.bo de_int))) (da_cons C (de_var C (i := 4) rfl (vis_by (by decide +kernel))) da_nil)))) da_nil)))))))
    (dss_cons (ds_ext C (i := 6) rfl (vis_by (by decide +kernel)) (DE.bo (DF.da C (df_lst C (da_cons C (de_tup C (da_cons C (de_tup C (da_cons C de_int (da_cons C de_int da_nil))) (da_cons C (de_var C (i := 3) rfl (vis_by (by decide +kernel))) (da_cons C (de_var C (i := 4) rfl (vis_by (by decide +kernel))) da_nil)))) (da_cons C (de_tup C (da_cons C (de_var C (i := 2) rfl (vis_by (by decide +kernel))) (da_cons C (de_var C (i := 3) rfl (vis_by (by decide +kernel))) (da_cons C (de_callT C dc_str (by decide +kernel) m_str boot_str (db_cons C (DE.bo (de_var C (i := 4) rfl (vis_by (by decide +kernel)))) db_nil)) da_nil)))) da_nil))))))
    (dss_one (ds_frz 6 (ds_ret C (de_fn C hE M__law_of (by decide) (by decide +kernel) a__law_of kp__law_of b__law_of_2 .nil (das_pot C (i := 0) rfl (vis_by (by decide +kernel)) (das_dat C (de_var C (i := 6) rfl (vis_by (by decide +kernel))) das_nil)) rfl)))))))))))))
  exact ⟨_, by decide +kernel, d⟩
theorem sc__law_is_int : FnScope N__law_is_int ["value"] (defScope s__law_is_int) := ⟨rfl, rfl, rfl, by decide +kernel, rfl, by decide +kernel, by decide +kernel⟩
theorem ok__law_is_int {P : Program} {w : World} {K : PySem.W.Frag} {mg : Str → Option Value} {base : Heap} {f : Addr} {od an : Option Addr} {osl : Array (Option Value)} {oc dV kV doc pm cdv ct : Value}
    (lk : K.lookup f = some ⟨oc, od, .func (PySem.W.fnOf "_law_is_int" "_law_is_int" (defArgs s__law_is_int) (defBody s__law_is_int) (defScope s__law_is_int) dV kV doc pm an cdv ct), osl⟩) (cd : PySem.W.codeIn K cdv "_law_is_int" = true)
    (m_isinstance : mg "isinstance" = none)
    (m_bool : mg "bool" = none)
    (m_int : mg "int" = none) :
    FnD P w K mg base 1 f (PySem.W.fnOf "_law_is_int" "_law_is_int" (defArgs s__law_is_int) (defBody s__law_is_int) (defScope s__law_is_int) dV kV doc pm an cdv ct) ["value"] F__law_is_int 0 := by
  unfold F__law_is_int
  refine fnd_by lk cd sc__law_is_int (g := G__law_is_int) (by decide) (fun X W E hE h1 h2 h3 h4 h5 hfn C => ?_)
  subst h1 h2 h3 h4 h5
  have d : DSs X W (defBody s__law_is_int) (G__law_is_int E) _ := (dss_one (ds_ret C (de_and C (de_isi C isi_int (by decide +kernel) m_isinstance (by decide +kernel) m_int boot_int (DE.bo (de_var C (i := 0) rfl (vis_by (by decide +kernel))))) (de_one (de_not (de_isi C isi_bool (by decide +kernel) m_isinstance (by decide +kernel) m_bool boot_bool (DE.bo (de_var C (i := 0) rfl (vis_by (by decide +kernel))))))))))
  exact ⟨_, by decide +kernel, d⟩
theorem sc__law_is_fraction : FnScope N__law_is_fraction ["value"] (defScope s__law_is_fraction) := ⟨rfl, rfl, rfl, by decide +kernel, rfl, by decide +kernel, by decide +kernel⟩
theorem ok__law_is_fraction {P : Program} {w : World} {K : PySem.W.Frag} {mg : Str → Option Value} {base : Heap} {f : Addr} {od an : Option Addr} {osl : Array (Option Value)} {oc dV kV doc pm cdv ct : Value}
    (lk : K.lookup f = some ⟨oc, od, .func (PySem.W.fnOf "_law_is_fraction" "_law_is_fraction" (defArgs s__law_is_fraction) (defBody s__law_is_fraction) (defScope s__law_is_fraction) dV kV doc pm an cdv ct), osl⟩) (cd : PySem.W.codeIn K cdv "_law_is_fraction" = true)
    {f__law_is_int : Addr} {fd__law_is_int : FuncData} (M__law_is_int : FnD P w K mg base 1 f__law_is_int fd__law_is_int ["value"] F__law_is_int 0) (a__law_is_int : mg "_law_is_int" = some (.ref f__law_is_int)) (kp__law_is_int : PySem.W.keepIn K (.ref f__law_is_int) = true)
    {f__law_common : Addr} {fd__law_common : FuncData} (M__law_common : FnD P w K mg base 1 f__law_common fd__law_common ["one", "other"] F__law_common 0) (a__law_common : mg "_law_common" = some (.ref f__law_common)) (kp__law_common : PySem.W.keepIn K (.ref f__law_common) = true)
    (b__law_is_int_1 : BindG K fd__law_is_int ["value"] 1 [] [])
    (b__law_common_2 : BindG K fd__law_common ["one", "other"] 2 [] [])
    (m_all : mg "all" = none)
    (m_len : mg "len" = none)
    (m_isinstance : mg "isinstance" = none)
    (m_tuple : mg "tuple" = none) :
    FnD P w K mg base 2 f (PySem.W.fnOf "_law_is_fraction" "_law_is_fraction" (defArgs s__law_is_fraction) (defBody s__law_is_fraction) (defScope s__law_is_fraction) dV kV doc pm an cdv ct) ["value"] F__law_is_fraction 0 := by
  unfold F__law_is_fraction
  refine fnd_by lk cd sc__law_is_fraction (g := G__law_is_fraction) (by decide) (fun X W E hE h1 h2 h3 h4 h5 hfn C => ?_)
  subst h1 h2 h3 h4 h5
  have d : DSs X W (defBody s__law_is_fraction) (G__law_is_fraction E) _ := (dss_cons (ds_if C (DW.t (dw_or C (dt_not (dt_val (DE.bo (de_isi C isi_tuple (by decide +kernel) m_isinstance (by decide +kernel) m_tuple boot_tuple (DE.bo (de_var C (i := 0) rfl (vis_by (by decide +kernel)))))))) (dw_or C (dt_cmp C (dop_ne C.units) (DE.bo (de_callB C dc_len (by decide +kernel) m_len PySem.boot_len (db_cons C (DE.bo (de_var C (i := 0) rfl (vis_by (by decide +kernel)))) db_nil))) (DE.bo de_int)) (dw_or1 (dt_not (dt_val (DE.bo (de_callB C (dc_all C.calm) (by decide +kernel) m_all boot_all (db_cons C (DE.bo (DF.da C (df_lc (own := [("part", 1)]) C 0 (DI.bo (di_seq C (de_var C (i := 0) rfl (vis_by (by decide +kernel))))) (blkOk_by (own := [("part", 1)]) (by decide +kernel)) (blk_use C fun _ _ _ _ _ _ C1 => (dg_name C1 (i := 1) rfl (loc_by (by decide +kernel)) (.inr (by decide +kernel)))) (blk_use C fun _ _ _ _ _ _ C1 => PTsD.le (c := 0) dts_nil (by decide +kernel)) (blk_use C fun _ _ _ _ _ _ C1 => DE.le (c := 0) (de_fn C1 rfl M__law_is_int (by decide) (by decide +kernel) a__law_is_int kp__law_is_int b__law_is_int_1 .nil (das_dat C1 (de_var C1 (i := 1) rfl (vis_by (by decide +kernel))) das_nil) rfl) (by decide +kernel)) (by decide)))) db_nil))))))))) (dss_one (ds_ret C de_bl)) dss_nil)
    (dss_one (ds_ret C (de_and C (de_cmp C dop_gt (DE.bo (de_ix C dix (DE.bo (de_var C (i := 0) rfl (vis_by (by decide +kernel)))) (DE.bo de_int))) (DE.bo de_int)) (de_one (de_cmp C (dop_eq C.units) (DE.bo (de_fn C hE M__law_common (by decide) (by decide +kernel) a__law_common kp__law_common b__law_common_2 .nil (das_dat C (de_ix C dix (DE.bo (de_var C (i := 0) rfl (vis_by (by decide +kernel)))) (DE.bo de_int)) (das_dat C (de_ix C dix (DE.bo (de_var C (i := 0) rfl (vis_by (by decide +kernel)))) (DE.bo de_int)) das_nil)) rfl)) (DE.bo de_int)))))))
  exact ⟨_, by decide +kernel, d⟩
theorem sc__law_are_ticks : FnScope N__law_are_ticks ["value"] (defScope s__law_are_ticks) := ⟨rfl, rfl, rfl, by decide +kernel, rfl, by decide +kernel, by decide +kernel⟩
theorem ok__law_are_ticks {P : Program} {w : World} {K : PySem.W.Frag} {mg : Str → Option Value} {base : Heap} {f : Addr} {od an : Option Addr} {osl : Array (Option Value)} {oc dV kV doc pm cdv ct : Value}
    (lk : K.lookup f = some ⟨oc, od, .func (PySem.W.fnOf "_law_are_ticks" "_law_are_ticks" (defArgs s__law_are_ticks) (defBody s__law_are_ticks) (defScope s__law_are_ticks) dV kV doc pm an cdv ct), osl⟩) (cd : PySem.W.codeIn K cdv "_law_are_ticks" = true)
    {f__law_is_int : Addr} {fd__law_is_int : FuncData} (M__law_is_int : FnD P w K mg base 1 f__law_is_int fd__law_is_int ["value"] F__law_is_int 0) (a__law_is_int : mg "_law_is_int" = some (.ref f__law_is_int)) (kp__law_is_int : PySem.W.keepIn K (.ref f__law_is_int) = true)
    {f__law_parts : Addr} {fd__law_parts : FuncData} (M__law_parts : FnD P w K mg base 4 f__law_parts fd__law_parts ["step"] F__law_parts 0) (a__law_parts : mg "_law_parts" = some (.ref f__law_parts)) (kp__law_parts : PySem.W.keepIn K (.ref f__law_parts) = true)
    {f__law_is_fraction : Addr} {fd__law_is_fraction : FuncData} (M__law_is_fraction : FnD P w K mg base 2 f__law_is_fraction fd__law_is_fraction ["value"] F__law_is_fraction 0) (a__law_is_fraction : mg "_law_is_fraction" = some (.ref f__law_is_fraction)) (kp__law_is_fraction : PySem.W.keepIn K (.ref f__law_is_fraction) = true)
    {f__law_times : Addr} {fd__law_times : FuncData} (M__law_times : FnD P w K mg base 3 f__law_times fd__law_times ["one", "other"] F__law_times 0) (a__law_times : mg "_law_times" = some (.ref f__law_times)) (kp__law_times : PySem.W.keepIn K (.ref f__law_times) = true)
    (b__law_is_int_1 : BindG K fd__law_is_int ["value"] 1 [] [])
    (b__law_parts_1 : BindG K fd__law_parts ["step"] 1 [] [])
    (b__law_is_fraction_1 : BindG K fd__law_is_fraction ["value"] 1 [] [])
    (b__law_times_2 : BindG K fd__law_times ["one", "other"] 2 [] [])
    (m_len : mg "len" = none)
    (m_isinstance : mg "isinstance" = none)
    (m_tuple : mg "tuple" = none) :
    FnD P w K mg base 5 f (PySem.W.fnOf "_law_are_ticks" "_law_are_ticks" (defArgs s__law_are_ticks) (defBody s__law_are_ticks) (defScope s__law_are_ticks) dV kV doc pm an cdv ct) ["value"] F__law_are_ticks 0 := by
  unfold F__law_are_ticks
  refine fnd_by lk cd sc__law_are_ticks (g := G__law_are_ticks) (by decide) (fun X W E hE h1 h2 h3 h4 h5 hfn C => ?_)
  subst h1 h2 h3 h4 h5
  have d : DSs X W (defBody s__law_are_ticks) (G__law_are_ticks E) _ := (dss_cons (ds_if C (DW.t (dw_or C (dt_not (dt_val (DE.bo (de_isi C isi_tuple (by decide +kernel) m_isinstance (by decide +kernel) m_tuple boot_tuple (DE.bo (de_var C (i := 0) rfl (vis_by (by decide +kernel)))))))) (dw_or C (dt_cmp C (dop_ne C.units) (DE.bo (de_callB C dc_len (by decide +kernel) m_len PySem.boot_len (db_cons C (DE.bo (de_var C (i := 0) rfl (vis_by (by decide +kernel)))) db_nil))) (DE.bo de_int)) (dw_or C (dt_not (dt_val (DE.bo (de_fn C hE M__law_is_int (by decide) (by decide +kernel) a__law_is_int kp__law_is_int b__law_is_int_1 .nil (das_dat C (de_ix C dix (DE.bo (de_var C (i := 0) rfl (vis_by (by decide +kernel)))) (DE.bo de_int)) das_nil) rfl)))) (dw_or1 (dt_not (dt_chain C dop_le dop_le (DE.bo de_int) (DE.bo (de_ix C dix (DE.bo (de_var C (i := 0) rfl (vis_by (by decide +kernel)))) (DE.bo de_int))) (DE.bo de_int)))))))) (dss_one (ds_ret C de_bl)) dss_nil)
    (dss_cons (ds_if C (DW.t (dw_or C (dt_not (dt_val (DE.bo (de_fn C hE M__law_is_fraction (by decide) (by decide +kernel) a__law_is_fraction kp__law_is_fraction b__law_is_fraction_1 .nil (das_dat C (de_ix C dix (DE.bo (de_var C (i := 0) rfl (vis_by (by decide +kernel)))) (DE.bo de_int)) das_nil) rfl)))) (dw_or C (dt_not (dt_val (DE.bo (de_fn C hE M__law_is_fraction (by decide) (by decide +kernel) a__law_is_fraction kp__law_is_fraction b__law_is_fraction_1 .nil (das_dat C (de_ix C dix (DE.bo (de_var C (i := 0) rfl (vis_by (by decide +kernel)))) (DE.bo de_int)) das_nil) rfl)))) (dw_or1 (dt_cmp C dop_is (DE.bo (de_fn C hE M__law_parts (by decide) (by decide +kernel) a__law_parts kp__law_parts b__law_parts_1 .nil (das_dat C (de_ix C dix (DE.bo (de_var C (i := 0) rfl (vis_by (by decide +kernel)))) (DE.bo de_int)) das_nil) rfl)) (DE.bo de_non)))))) (dss_one (ds_ret C de_bl)) dss_nil)
    (dss_one (ds_ret C (de_cmp C (dop_eq C.units) (DE.bo (de_ix C dix (DE.bo (de_fn C hE M__law_times (by decide) (by decide +kernel) a__law_times kp__law_times b__law_times_2 .nil (das_dat C (de_ix C dix (DE.bo (de_var C (i := 0) rfl (vis_by (by decide +kernel)))) (DE.bo de_int)) (das_dat C (de_tup C (da_cons C (de_ix C dix (DE.bo (de_ix C dix (DE.bo (de_var C (i := 0) rfl (vis_by (by decide +kernel)))) (DE.bo de_int))) (DE.bo de_int)) (da_cons C (de_ix C dix (DE.bo (de_ix C dix (DE.bo (de_var C (i := 0) rfl (vis_by (by decide +kernel)))) (DE.bo de_int))) (DE.bo de_int)) da_nil))) das_nil)) rfl)) (DE.bo de_int))) (DE.bo de_int))))))
  exact ⟨_, by decide +kernel, d⟩
theorem ok_lam_0 {P : Program} {w : World} {K : PySem.W.Frag} {mg : Str → Option Value} {base : Heap}
    {f_ticks_cost : Addr} {fd_ticks_cost : FuncData} (M_ticks_cost : FnD P w K mg base 7 f_ticks_cost fd_ticks_cost ["ticks", "ends", "wishes"] F_ticks_cost 0) (a_ticks_cost : mg "ticks_cost" = some (.ref f_ticks_cost)) (kp_ticks_cost : PySem.W.keepIn K (.ref f_ticks_cost) = true)
    (b_ticks_cost_3 : BindG K fd_ticks_cost ["ticks", "ends", "wishes"] 3 [] []) :
    LamD P w K mg base 8 0 (lamF G_lam_0) 0 := by
  refine lamd_of (L := lam_0) rfl (lamSc_by (by decide +kernel)) (fun _ _ _ _ _ => rfl) (cb := 0) (Nat.le_refl 0) fun X W E hE h1 h2 h3 h4 h5 C => ?_
  subst h1 h2 h3 h4 h5
  have d : DE X W lam_0.body (G_lam_0 E) _ := (de_fn C hE M_ticks_cost (by decide) (by decide +kernel) a_ticks_cost kp_ticks_cost b_ticks_cost_3 .nil (das_dat C (de_var C (i := 0) rfl (vis_by (by decide +kernel))) (das_dat C (de_var C (i := 1) rfl (vis_by (by decide +kernel))) (das_dat C (de_var C (i := 2) rfl (vis_by (by decide +kernel))) das_nil))) rfl)
  exact d
theorem ok_lam_1 {P : Program} {w : World} {K : PySem.W.Frag} {mg : Str → Option Value} {base : Heap}
    {f_ticks_cost : Addr} {fd_ticks_cost : FuncData} (M_ticks_cost : FnD P w K mg base 7 f_ticks_cost fd_ticks_cost ["ticks", "ends", "wishes"] F_ticks_cost 0) (a_ticks_cost : mg "ticks_cost" = some (.ref f_ticks_cost)) (kp_ticks_cost : PySem.W.keepIn K (.ref f_ticks_cost) = true)
    (b_ticks_cost_3 : BindG K fd_ticks_cost ["ticks", "ends", "wishes"] 3 [] []) :
    LamD P w K mg base 8 1 (lamF G_lam_1) 0 := by
  refine lamd_of (L := lam_1) rfl (lamSc_by (by decide +kernel)) (fun _ _ _ _ _ => rfl) (cb := 0) (Nat.le_refl 0) fun X W E hE h1 h2 h3 h4 h5 C => ?_
  subst h1 h2 h3 h4 h5
  have d : DE X W lam_1.body (G_lam_1 E) _ := (de_fn C hE M_ticks_cost (by decide) (by decide +kernel) a_ticks_cost kp_ticks_cost b_ticks_cost_3 .nil (das_dat C (de_var C (i := 0) rfl (vis_by (by decide +kernel))) (das_dat C (de_var C (i := 1) rfl (vis_by (by decide +kernel))) (das_dat C (de_var C (i := 2) rfl (vis_by (by decide +kernel))) das_nil))) rfl)
  exact d
theorem ok_lam_2 {P : Program} {w : World} {K : PySem.W.Frag} {mg : Str → Option Value} {base : Heap}
    {f_ticks_cost : Addr} {fd_ticks_cost : FuncData} (M_ticks_cost : FnD P w K mg base 7 f_ticks_cost fd_ticks_cost ["ticks", "ends", "wishes"] F_ticks_cost 0) (a_ticks_cost : mg "ticks_cost" = some (.ref f_ticks_cost)) (kp_ticks_cost : PySem.W.keepIn K (.ref f_ticks_cost) = true)
    (b_ticks_cost_3 : BindG K fd_ticks_cost ["ticks", "ends", "wishes"] 3 [] []) :
    LamD P w K mg base 8 2 (lamF G_lam_2) 0 := by
  refine lamd_of (L := lam_2) rfl (lamSc_by (by decide +kernel)) (fun _ _ _ _ _ => rfl) (cb := 0) (Nat.le_refl 0) fun X W E hE h1 h2 h3 h4 h5 C => ?_
  subst h1 h2 h3 h4 h5
  have d : DE X W lam_2.body (G_lam_2 E) _ := (de_fn C hE M_ticks_cost (by decide) (by decide +kernel) a_ticks_cost kp_ticks_cost b_ticks_cost_3 .nil (das_dat C (de_var C (i := 0) rfl (vis_by (by decide +kernel))) (das_dat C (de_var C (i := 1) rfl (vis_by (by decide +kernel))) (das_dat C (de_var C (i := 2) rfl (vis_by (by decide +kernel))) das_nil))) rfl)
  exact d
theorem sc__law_heard : FnScope N__law_heard ["look"] (defScope s__law_heard) := ⟨rfl, rfl, rfl, by decide +kernel, rfl, by decide +kernel, by decide +kernel⟩
theorem ok__law_heard {P : Program} {w : World} {K : PySem.W.Frag} {mg : Str → Option Value} {base : Heap} {f : Addr} {od an : Option Addr} {osl : Array (Option Value)} {oc dV kV doc pm cdv ct : Value}
    (lk : K.lookup f = some ⟨oc, od, .func (PySem.W.fnOf "_law_heard" "_law_heard" (defArgs s__law_heard) (defBody s__law_heard) (defScope s__law_heard) dV kV doc pm an cdv ct), osl⟩) (cd : PySem.W.codeIn K cdv "_law_heard" = true)
    (LD : ∀ n, LamD P w K mg base 8 n (B_law n) 0)
    (mc_PictureError : mg "PictureError" = some (.ref C_PictureError))
    (mx_PictureError : MOk K m_PictureError (.ref C_PictureError)) :
    FnD P w K mg base 9 f (PySem.W.fnOf "_law_heard" "_law_heard" (defArgs s__law_heard) (defBody s__law_heard) (defScope s__law_heard) dV kV doc pm an cdv ct) ["look"] F__law_heard 0 := by
  unfold F__law_heard
  refine fnd_byL lk cd sc__law_heard (g := G__law_heard) (by decide) (fun X W E hE h1 h2 h3 h4 h5 hfn DX C => ?_)
  subst h1 h2 h3 h4 h5
  have d : DSs X W (defBody s__law_heard) (G__law_heard X.env.cells E) _ := (dss_cons (ds_tryR C DX hE (il := 0) (ib := 1) (ie := 2) LD (by decide) mx_PictureError mc_PictureError (by decide +kernel) rfl (vis_by (by decide +kernel)) rfl (by decide +kernel) rfl (by decide +kernel))
    (dss_one (ds_ret C (de_tup C (da_cons C de_non (da_cons C (de_var C (i := 1) rfl (vis_by (by decide +kernel))) da_nil))))))
  exact ⟨_, by decide +kernel, d⟩
theorem sc__law_are_refused : FnScope N__law_are_refused ["pot", "ticks", "ends", "wishes"] (defScope s__law_are_refused) := ⟨rfl, rfl, rfl, by decide +kernel, rfl, by decide +kernel, by decide +kernel⟩
theorem ok__law_are_refused {P : Program} {w : World} {K : PySem.W.Frag} {mg : Str → Option Value} {base : Heap} {f : Addr} {od an : Option Addr} {osl : Array (Option Value)} {oc dV kV doc pm cdv ct : Value}
    (lk : K.lookup f = some ⟨oc, od, .func (PySem.W.fnOf "_law_are_refused" "_law_are_refused" (defArgs s__law_are_refused) (defBody s__law_are_refused) (defScope s__law_are_refused) dV kV doc pm an cdv ct), osl⟩) (cd : PySem.W.codeIn K cdv "_law_are_refused" = true)
    {f__law_odd : Addr} {fd__law_odd : FuncData} (M__law_odd : FnD P w K mg base 4 f__law_odd fd__law_odd ["pot", "ticks"] F__law_odd 1) (a__law_odd : mg "_law_odd" = some (.ref f__law_odd)) (kp__law_odd : PySem.W.keepIn K (.ref f__law_odd) = true)
    {f__law_are_ticks : Addr} {fd__law_are_ticks : FuncData} (M__law_are_ticks : FnD P w K mg base 5 f__law_are_ticks fd__law_are_ticks ["value"] F__law_are_ticks 0) (a__law_are_ticks : mg "_law_are_ticks" = some (.ref f__law_are_ticks)) (kp__law_are_ticks : PySem.W.keepIn K (.ref f__law_are_ticks) = true)
    {f__law_of : Addr} {fd__law_of : FuncData} (M__law_of : FnD P w K mg base 2 f__law_of fd__law_of ["pot", "some"] F__law_of 1) (a__law_of : mg "_law_of" = some (.ref f__law_of)) (kp__law_of : PySem.W.keepIn K (.ref f__law_of) = true)
    {f__law_heard : Addr} {fd__law_heard : FuncData} (M__law_heard : FnD P w K mg base 9 f__law_heard fd__law_heard ["look"] F__law_heard 0) (a__law_heard : mg "_law_heard" = some (.ref f__law_heard)) (kp__law_heard : PySem.W.keepIn K (.ref f__law_heard) = true)
    (b__law_odd_2 : BindG K fd__law_odd ["pot", "ticks"] 2 [] [])
    (b__law_are_ticks_1 : BindG K fd__law_are_ticks ["value"] 1 [] [])
    (b__law_of_2 : BindG K fd__law_of ["pot", "some"] 2 [] [])
    (b__law_heard_1 : BindG K fd__law_heard ["look"] 1 [] [])
    (m_list : mg "list" = none)
    (m_isinstance : mg "isinstance" = none)
    (m_repr : mg "repr" = none)
    (m_range : mg "range" = none)
    (hcd0 : cdv = .ref 447) (TB : LamX.TabB base mg 447 445)
    (mc_BadRange : mg "BadRange" = some (.ref C_BadRange))
    (mc_BadTicks : mg "BadTicks" = some (.ref C_BadTicks))
    (mc_BadWishes : mg "BadWishes" = some (.ref C_BadWishes))
    (mis_BadTicks : MIs K mi_BadTicks (.ref C_BadTicks))
    (mis_BadRange : MIs K mi_BadRange (.ref C_BadRange))
    (mis_BadWishes : MIs K mi_BadWishes (.ref C_BadWishes)) :
    FnD P w K mg base 10 f (PySem.W.fnOf "_law_are_refused" "_law_are_refused" (defArgs s__law_are_refused) (defBody s__law_are_refused) (defScope s__law_are_refused) dV kV doc pm an cdv ct) ["pot", "ticks", "ends", "wishes"] F__law_are_refused 3 := by
  unfold F__law_are_refused
  refine fnd_byL lk cd sc__law_are_refused (g := G__law_are_refused) (by decide) (fun X W E hE h1 h2 h3 h4 h5 hfn DX C => ?_)
  subst h1 h2 h3 h4 h5
  have hcode : X.env.code = .ref 447 := DX.code.trans hcd0
  have hqual : X.env.qual ++ "<lambda>" = "_law_are_refused.<locals>.<lambda>" := by
    rw [DX.qual]
    decide +kernel
  have lamsok : LamsOk (fun n => ([0, 1, 2] : List Nat).contains n) N__law_are_refused ["bad", "far", "late", "ticks", "ends"] := lamsOk_by (by decide +kernel)
  have d : DSs X W (defBody s__law_are_refused) (G__law_are_refused X.env.cells E) _ := (dss_cons (ds_set C (i := 4) rfl (loc_by (by decide +kernel)) (.inl (hfn _)) (de_fn C hE M__law_odd (by decide) (by decide +kernel) a__law_odd kp__law_odd b__law_odd_2 .nil (das_pot C (i := 0) rfl (vis_by (by decide +kernel)) (das_dat C (de_var C (i := 1) rfl (vis_by (by decide +kernel))) das_nil)) rfl))
    (dss_cons (ds_set C (i := 4) rfl (loc_by (by decide +kernel)) (.inl (hfn _)) (de_if C (dt_val (DE.bo (de_fn C hE M__law_are_ticks (by decide) (by decide +kernel) a__law_are_ticks kp__law_are_ticks b__law_are_ticks_1 .nil (das_dat C (de_var C (i := 4) rfl (vis_by (by decide +kernel))) das_nil) rfl))) de_non (de_var C (i := 4) rfl (vis_by (by decide +kernel)))))
    (dss_cons (ds_set C (i := 5) rfl (loc_by (by decide +kernel)) (.inl (hfn _)) (DF.da C (df_lst C (da_cons C de_non (da_cons C (de_sl C dsl (DE.bo (de_var C (i := 2) rfl (vis_by (by decide +kernel)))) dp_none (dp_some (DE.bo de_int))) (da_cons C (DF.da C (df_callT C dcf_list (by decide +kernel) m_list boot_list (db_cons C (DE.bo (de_var C (i := 2) rfl (vis_by (by decide +kernel)))) db_nil))) (da_cons C (de_tup C (da_cons C (de_tup C (da_cons C de_int (da_cons C de_int da_nil))) (da_cons C (de_tup C (da_cons C de_int (da_cons C de_int da_nil))) da_nil))) (da_cons C (de_tup C (da_cons C (de_tup C (da_cons C de_int (da_cons C de_int da_nil))) (da_cons C (de_tup C (da_cons C de_int (da_cons C de_int da_nil))) da_nil))) (da_cons C (de_tup C (da_cons C de_int (da_cons C de_int da_nil))) (da_cons C (de_bin C dop_add (DE.bo (de_var C (i := 2) rfl (vis_by (by decide +kernel)))) (DE.bo (de_var C (i := 2) rfl (vis_by (by decide +kernel))))) (da_cons C (de_tup C (da_cons C (de_tup C (da_cons C de_int (da_cons C de_int da_nil))) (da_cons C (de_tup C (da_cons C de_int (da_cons C de_int da_nil))) da_nil))) da_nil)))))))))))
    (dss_cons (ds_set C (i := 5) rfl (loc_by (by decide +kernel)) (.inl (hfn _)) (de_fn C hE M__law_of (by decide) (by decide +kernel) a__law_of kp__law_of b__law_of_2 .nil (das_pot C (i := 0) rfl (vis_by (by decide +kernel)) (das_dat C (de_var C (i := 5) rfl (vis_by (by decide +kernel))) das_nil)) rfl))
    (dss_cons (ds_setF C (i := 6) rfl (loc_by (by decide +kernel)) (.inl (hfn _)) (df_lst C (da_cons C de_non (da_cons C (de_sl C dsl (DE.bo (de_var C (i := 3) rfl (vis_by (by decide +kernel)))) dp_none (dp_some (DE.bo de_int))) (da_cons C (DF.da C (df_callT C dcf_list (by decide +kernel) m_list boot_list (db_cons C (DE.bo (de_var C (i := 3) rfl (vis_by (by decide +kernel)))) db_nil))) (da_cons C (de_bin C dop_add (DE.bo (de_tup C (da_cons C de_int da_nil))) (DE.bo (de_sl C dsl (DE.bo (de_var C (i := 3) rfl (vis_by (by decide +kernel)))) (dp_some (DE.bo de_int)) dp_none))) (da_cons C (de_bin C dop_add (DE.bo (de_tup C (da_cons C de_int da_nil))) (DE.bo (de_sl C dsl (DE.bo (de_var C (i := 3) rfl (vis_by (by decide +kernel)))) (dp_some (DE.bo de_int)) dp_none))) (da_cons C (de_bin C dop_add (DE.bo (de_sl C dsl (DE.bo (de_var C (i := 3) rfl (vis_by (by decide +kernel)))) dp_none (dp_some (DE.bo de_int)))) (DE.bo (de_tup C (da_cons C de_int da_nil)))) da_nil))))))))
    (dss_cons (ds_ext C (i := 6) rfl (vis_by (by decide +kernel)) (DE.bo (DF.da C (df_lst C (da_cons C (de_bin C dop_add (DE.bo (de_sl C dsl (DE.bo (de_var C (i := 3) rfl (vis_by (by decide +kernel)))) dp_none (dp_some (DE.bo de_int)))) (DE.bo (de_tup C (da_cons C (de_bin C dop_add (DE.bo (de_bin C dop_pow (DE.bo de_int) (DE.bo de_int))) (DE.bo de_int)) da_nil)))) (da_cons C (de_bin C dop_add (DE.bo (de_tup C (da_cons C de_bl da_nil))) (DE.bo (de_sl C dsl (DE.bo (de_var C (i := 3) rfl (vis_by (by decide +kernel)))) (dp_some (DE.bo de_int)) dp_none))) (da_cons C (de_bin C dop_add (DE.bo (de_bin C dop_add (DE.bo (de_sl C dsl (DE.bo (de_var C (i := 3) rfl (vis_by (by decide +kernel)))) dp_none (dp_some (DE.bo de_int)))) (DE.bo (de_tup C (da_cons C (de_neg (DE.bo de_int)) da_nil))))) (DE.bo (de_sl C dsl (DE.bo (de_var C (i := 3) rfl (vis_by (by decide +kernel)))) (dp_some (DE.bo de_int)) dp_none))) da_nil)))))))
    (dss_cons (ds_ext C (i := 6) rfl (vis_by (by decide +kernel)) (DE.bo (DF.da C (df_lst C (da_cons C (de_bin C dop_add (DE.bo (de_bin C dop_add (DE.bo (de_sl C dsl (DE.bo (de_var C (i := 3) rfl (vis_by (by decide +kernel)))) dp_none (dp_some (DE.bo de_int)))) (DE.bo (de_tup C (da_cons C (de_bin C dop_add (DE.bo (de_bin C dop_pow (DE.bo de_int) (DE.bo de_int))) (DE.bo de_int)) da_nil))))) (DE.bo (de_sl C dsl (DE.bo (de_var C (i := 3) rfl (vis_by (by decide +kernel)))) (dp_some (DE.bo de_int)) dp_none))) (da_cons C (de_bin C dop_add (DE.bo (de_var C (i := 3) rfl (vis_by (by decide +kernel)))) (DE.bo (de_tup C (da_cons C de_int da_nil)))) da_nil))))))
    (dss_cons (ds_frz 6 (ds_set C (i := 6) rfl (loc_by (by decide +kernel)) (.inl (hfn _)) (de_fn C hE M__law_of (by decide) (by decide +kernel) a__law_of kp__law_of b__law_of_2 .nil (das_pot C (i := 0) rfl (vis_by (by decide +kernel)) (das_dat C (de_var C (i := 6) rfl (vis_by (by decide +kernel))) das_nil)) rfl)))
    (dss_cons (ds_setF C (i := 7) rfl (loc_by (by decide +kernel)) (.inl (hfn _)) (df_lst C (da_cons C (de_tup C (da_cons C (de_lam C (L := lam_0) (n := 0) rfl ⟨rfl, rfl, rfl⟩ TB hcode hqual (by decide +kernel) rfl (by decide +kernel)) (da_cons C de_int (da_cons C (de_var C (i := 4) rfl (vis_by (by decide +kernel))) da_nil)))) da_nil)))
    (dss_cons (ds_app C (i := 7) rfl (vis_by (by decide +kernel)) (de_tup C (da_cons C (de_lam C (L := lam_1) (n := 1) rfl ⟨rfl, rfl, rfl⟩ TB hcode hqual (by decide +kernel) rfl (by decide +kernel)) (da_cons C de_int (da_cons C (de_var C (i := 5) rfl (vis_by (by decide +kernel))) da_nil)))))
    (dss_cons (ds_app C (i := 7) rfl (vis_by (by decide +kernel)) (de_tup C (da_cons C (de_lam C (L := lam_2) (n := 2) rfl ⟨rfl, rfl, rfl⟩ TB hcode hqual (by decide +kernel) rfl (by decide +kernel)) (da_cons C de_int (da_cons C (de_var C (i := 6) rfl (vis_by (by decide +kernel))) da_nil)))))
    (dss_cons (ds_frz 7 (ds_for C 0 (di_seq C (de_var C (i := 7) rfl (vis_by (by decide +kernel)))) (dg_tup C (dgs_cons (dg_name C (i := 8) rfl (loc_by (by decide +kernel)) (.inl (hfn _))) (dgs_cons (dg_name C (i := 9) rfl (loc_by (by decide +kernel)) (.inl (hfn _))) (dgs_cons (dg_name C (i := 10) rfl (loc_by (by decide +kernel)) (.inl (hfn _))) dgs_nil)))) (DSs.le (c := 0) (dss_cons (ds_set C (i := 11) rfl (loc_by (by decide +kernel)) (.inl (hfn _)) (de_ix C dix (DE.bo (de_fnF C DX lamsok (by decide) M__law_heard (by decide) (by decide +kernel) a__law_heard kp__law_heard b__law_heard_1 .nil (das_dat C (de_var C (i := 8) rfl (vis_by (by decide +kernel))) das_nil) rfl)) (DE.bo de_int)))
    (dss_cons (ds_set C (i := 12) rfl (loc_by (by decide +kernel)) (.inl (hfn _)) (DF.da C (df_lst C (da_cons C (de_isE C mis_BadTicks (by decide +kernel) m_isinstance (by decide +kernel) mc_BadTicks (de_var C (i := 11) rfl (vis_by (by decide +kernel)))) (da_cons C (de_isE C mis_BadRange (by decide +kernel) m_isinstance (by decide +kernel) mc_BadRange (de_var C (i := 11) rfl (vis_by (by decide +kernel)))) (da_cons C (de_isE C mis_BadWishes (by decide +kernel) m_isinstance (by decide +kernel) mc_BadWishes (de_var C (i := 11) rfl (vis_by (by decide +kernel)))) da_nil))))))
    (dss_one (ds_if C (DW.t (dw_or C (dt_cmp C (dop_ne C.units) (DE.bo (de_var C (i := 12) rfl (vis_by (by decide +kernel)))) (DE.bo (DF.da C (df_lc (own := [("to", 13)]) C 0 (DI.bo (di_range1 C (by decide +kernel) m_range (DE.bo de_int))) (blkOk_by (own := [("to", 13)]) (by decide +kernel)) (blk_use C fun _ _ _ _ _ _ C1 => (dg_name C1 (i := 13) rfl (loc_by (by decide +kernel)) (.inr (by decide +kernel)))) (blk_use C fun _ _ _ _ _ _ C1 => PTsD.le (c := 0) dts_nil (by decide +kernel)) (blk_use C fun _ _ _ _ _ _ C1 => DE.le (c := 0) (de_cmp C1 (dop_eq C1.units) (DE.bo (de_var C1 (i := 9) rfl (vis_by (by decide +kernel)))) (DE.bo (de_var C1 (i := 13) rfl (vis_by (by decide +kernel))))) (by decide +kernel)) (by decide))))) (dw_or1 (dt_cmp C (dop_ne C.units) (DE.bo (de_callB C (dc_repr C.gd C.units) (by decide +kernel) m_repr boot_repr (db_cons C (DE.bo (de_val C (de_var C (i := 11) rfl (vis_by (by decide +kernel))))) db_nil))) (DE.bo (de_callB C (dc_repr C.gd C.units) (by decide +kernel) m_repr boot_repr (db_cons C (DE.bo (de_var C (i := 10) rfl (vis_by (by decide +kernel)))) db_nil))))))) (dss_one (ds_ret C de_bl)) dss_nil)))) (by decide +kernel))))
    (dss_one (ds_ret C de_bl))))))))))))))
  exact ⟨_, by decide +kernel, d⟩
theorem sc__law_ticks : FnScope N__law_ticks ["pot"] (defScope s__law_ticks) := ⟨rfl, rfl, rfl, by decide +kernel, rfl, by decide +kernel, by decide +kernel⟩
theorem ok__law_ticks {P : Program} {w : World} {K : PySem.W.Frag} {mg : Str → Option Value} {base : Heap} {f : Addr} {od an : Option Addr} {osl : Array (Option Value)} {oc dV kV doc pm cdv ct : Value}
    (lk : K.lookup f = some ⟨oc, od, .func (PySem.W.fnOf "_law_ticks" "_law_ticks" (defArgs s__law_ticks) (defBody s__law_ticks) (defScope s__law_ticks) dV kV doc pm an cdv ct), osl⟩) (cd : PySem.W.codeIn K cdv "_law_ticks" = true)
    {f__law_times : Addr} {fd__law_times : FuncData} (M__law_times : FnD P w K mg base 3 f__law_times fd__law_times ["one", "other"] F__law_times 0) (a__law_times : mg "_law_times" = some (.ref f__law_times)) (kp__law_times : PySem.W.keepIn K (.ref f__law_times) = true)
    {f__law_of : Addr} {fd__law_of : FuncData} (M__law_of : FnD P w K mg base 2 f__law_of fd__law_of ["pot", "some"] F__law_of 1) (a__law_of : mg "_law_of" = some (.ref f__law_of)) (kp__law_of : PySem.W.keepIn K (.ref f__law_of) = true)
    {f__law_power : Addr} {fd__law_power : FuncData} (M__law_power : FnD P w K mg base 1 f__law_power fd__law_power ["power"] F__law_power 0) (a__law_power : mg "_law_power" = some (.ref f__law_power)) (kp__law_power : PySem.W.keepIn K (.ref f__law_power) = true)
    {f__law_take : Addr} {fd__law_take : FuncData} (M__law_take : FnD P w K mg base 1 f__law_take fd__law_take ["pot", "upto"] F__law_take 1) (a__law_take : mg "_law_take" = some (.ref f__law_take)) (kp__law_take : PySem.W.keepIn K (.ref f__law_take) = true)
    (b__law_times_2 : BindG K fd__law_times ["one", "other"] 2 [] [])
    (b__law_of_2 : BindG K fd__law_of ["pot", "some"] 2 [] [])
    (b__law_power_1 : BindG K fd__law_power ["power"] 1 [] [])
    (b__law_take_2 : BindG K fd__law_take ["pot", "upto"] 2 [] [])
    (m_int : mg "int" = none) :
    FnD P w K mg base 4 f (PySem.W.fnOf "_law_ticks" "_law_ticks" (defArgs s__law_ticks) (defBody s__law_ticks) (defScope s__law_ticks) dV kV doc pm an cdv ct) ["pot"] F__law_ticks 4 := by
  unfold F__law_ticks
  refine fnd_by lk cd sc__law_ticks (g := G__law_ticks) (by decide) (fun X W E hE h1 h2 h3 h4 h5 hfn C => ?_)
  subst h1 h2 h3 h4 h5
  have d : DSs X W (defBody s__law_ticks) (G__law_ticks E) _ := (dss_cons (ds_set C (i := 1) rfl (loc_by (by decide +kernel)) (.inl (hfn _)) (de_fn C hE M__law_times (by decide) (by decide +kernel) a__law_times kp__law_times b__law_times_2 .nil (das_dat C (de_tup C (da_cons C (de_fn C hE M__law_of (by decide) (by decide +kernel) a__law_of kp__law_of b__law_of_2 .nil (das_pot C (i := 0) rfl (vis_by (by decide +kernel)) (das_dat C (DF.da C (df_lst C (da_cons C de_int (da_cons C de_int (da_cons C de_int da_nil))))) das_nil)) rfl) (da_cons C de_int da_nil))) (das_dat C (de_fn C hE M__law_power (by decide) (by decide +kernel) a__law_power kp__law_power b__law_power_1 .nil (das_dat C (de_bin C dop_sub (DE.bo (de_fn C hE M__law_take (by decide) (by decide +kernel) a__law_take kp__law_take b__law_take_2 .nil (das_pot C (i := 0) rfl (vis_by (by decide +kernel)) (das_dat C de_int das_nil)) rfl)) (DE.bo de_int)) das_nil) rfl) das_nil)) rfl))
    (dss_one (ds_ret C (de_tup C (da_cons C (de_fn C hE M__law_times (by decide) (by decide +kernel) a__law_times kp__law_times b__law_times_2 .nil (das_dat C (de_tup C (da_cons C (de_bin C dop_sub (DE.bo (de_fn C hE M__law_take (by decide) (by decide +kernel) a__law_take kp__law_take b__law_take_2 .nil (das_pot C (i := 0) rfl (vis_by (by decide +kernel)) (das_dat C de_int das_nil)) rfl)) (DE.bo de_int)) (da_cons C de_int da_nil))) (das_dat C (de_var C (i := 1) rfl (vis_by (by decide +kernel))) das_nil)) rfl) (da_cons C (de_var C (i := 1) rfl (vis_by (by decide +kernel))) (da_cons C (de_callT C dc_int (by decide +kernel) m_int boot_int (db_cons C (DE.bo (de_bin C dop_add (DE.bo de_int) (DE.bo (de_fn C hE M__law_take (by decide) (by decide +kernel) a__law_take kp__law_take b__law_take_2 .nil (das_pot C (i := 0) rfl (vis_by (by decide +kernel)) (das_dat C de_int das_nil)) rfl)))) db_nil)) da_nil)))))))
  exact ⟨_, by decide +kernel, d⟩
theorem sc__law_wishes : FnScope N__law_wishes ["pot"] (defScope s__law_wishes) := ⟨rfl, rfl, rfl, by decide +kernel, rfl, by decide +kernel, by decide +kernel⟩
theorem ok__law_wishes {P : Program} {w : World} {K : PySem.W.Frag} {mg : Str → Option Value} {base : Heap} {f : Addr} {od an : Option Addr} {osl : Array (Option Value)} {oc dV kV doc pm cdv ct : Value}
    (lk : K.lookup f = some ⟨oc, od, .func (PySem.W.fnOf "_law_wishes" "_law_wishes" (defArgs s__law_wishes) (defBody s__law_wishes) (defScope s__law_wishes) dV kV doc pm an cdv ct), osl⟩) (cd : PySem.W.codeIn K cdv "_law_wishes" = true)
    {f__law_take : Addr} {fd__law_take : FuncData} (M__law_take : FnD P w K mg base 1 f__law_take fd__law_take ["pot", "upto"] F__law_take 1) (a__law_take : mg "_law_take" = some (.ref f__law_take)) (kp__law_take : PySem.W.keepIn K (.ref f__law_take) = true)
    {f__law_of : Addr} {fd__law_of : FuncData} (M__law_of : FnD P w K mg base 2 f__law_of fd__law_of ["pot", "some"] F__law_of 1) (a__law_of : mg "_law_of" = some (.ref f__law_of)) (kp__law_of : PySem.W.keepIn K (.ref f__law_of) = true)
    (b__law_take_2 : BindG K fd__law_take ["pot", "upto"] 2 [] [])
    (b__law_of_2 : BindG K fd__law_of ["pot", "some"] 2 [] [])
    (m_range : mg "range" = none)
    (m_int : mg "int" = none)
    (m_tuple : mg "tuple" = none) :
    FnD P w K mg base 3 f (PySem.W.fnOf "_law_wishes" "_law_wishes" (defArgs s__law_wishes) (defBody s__law_wishes) (defScope s__law_wishes) dV kV doc pm an cdv ct) ["pot"] F__law_wishes 9 := by
  unfold F__law_wishes
  refine fnd_by lk cd sc__law_wishes (g := G__law_wishes) (by decide) (fun X W E hE h1 h2 h3 h4 h5 hfn C => ?_)
  subst h1 h2 h3 h4 h5
  have d : DSs X W (defBody s__law_wishes) (G__law_wishes E) _ := (dss_cons (ds_lc (own := [("lap", 2)]) C 6 (i := 1) rfl (by decide +kernel) rfl rfl (by decide +kernel) (DI.bo (di_range1 C (by decide +kernel) m_range (DE.bo de_int))) (blkOk_by (own := [("lap", 2)]) (by decide +kernel)) (blk_use C fun _ _ _ _ _ _ C1 => (dg_name C1 (i := 2) rfl (loc_by (by decide +kernel)) (.inr (by decide +kernel)))) (blk_use C fun _ _ _ _ _ _ C1 => PTsD.le (c := 0) dts_nil (by decide +kernel)) (blk_use C fun _ _ _ _ _ _ C1 => DE.le (c := 2) (de_callT C1 dc_int (by decide +kernel) m_int boot_int (db_cons C1 (DE.bo (de_fn C1 rfl M__law_take (by decide) (by decide +kernel) a__law_take kp__law_take b__law_take_2 .nil (das_pot C1 (i := 0) rfl (vis_by (by decide +kernel)) (das_dat C1 (de_fn C1 rfl M__law_of (by decide) (by decide +kernel) a__law_of kp__law_of b__law_of_2 .nil (das_pot C1 (i := 0) rfl (vis_by (by decide +kernel)) (das_dat C1 (DF.da C1 (df_lst C1 (da_cons C1 de_int (da_cons C1 de_int da_nil)))) das_nil)) rfl) das_nil)) rfl)) db_nil)) (by decide +kernel)) (by decide))
    (dss_one (ds_ret C (de_bin C dop_add (DE.bo (de_bin C dop_add (DE.bo (de_tup C (da_cons C (de_callT C dc_int (by decide +kernel) m_int boot_int (db_cons C (DE.bo (de_bin C dop_add (DE.bo de_int) (DE.bo (de_fn C hE M__law_take (by decide) (by decide +kernel) a__law_take kp__law_take b__law_take_2 .nil (das_pot C (i := 0) rfl (vis_by (by decide +kernel)) (das_dat C de_int das_nil)) rfl)))) db_nil)) da_nil))) (DE.bo (de_callT C dc_tuple (by decide +kernel) m_tuple boot_tuple (db_cons C (DE.bo (de_var C (i := 1) rfl (vis_by (by decide +kernel)))) db_nil))))) (DE.bo (de_tup C (da_cons C (de_callT C dc_int (by decide +kernel) m_int boot_int (db_cons C (DE.bo (de_bin C dop_add (DE.bo de_int) (DE.bo (de_fn C hE M__law_take (by decide) (by decide +kernel) a__law_take kp__law_take b__law_take_2 .nil (das_pot C (i := 0) rfl (vis_by (by decide +kernel)) (das_dat C (de_fn C hE M__law_of (by decide) (by decide +kernel) a__law_of kp__law_of b__law_of_2 .nil (das_pot C (i := 0) rfl (vis_by (by decide +kernel)) (das_dat C (DF.da C (df_lst C (da_cons C de_int (da_cons C de_int da_nil)))) das_nil)) rfl) das_nil)) rfl)))) db_nil)) da_nil)))))))
  exact ⟨_, by decide +kernel, d⟩
theorem sc__law_right : FnScope N__law_right ["pot"] (defScope s__law_right) := ⟨rfl, rfl, rfl, by decide +kernel, rfl, by decide +kernel, by decide +kernel⟩
theorem ok__law_right {P : Program} {w : World} {K : PySem.W.Frag} {mg : Str → Option Value} {base : Heap} {f : Addr} {od an : Option Addr} {osl : Array (Option Value)} {oc dV kV doc pm cdv ct : Value}
    (lk : K.lookup f = some ⟨oc, od, .func (PySem.W.fnOf "_law_right" "_law_right" (defArgs s__law_right) (defBody s__law_right) (defScope s__law_right) dV kV doc pm an cdv ct), osl⟩) (cd : PySem.W.codeIn K cdv "_law_right" = true)
    {f__law_ticks : Addr} {fd__law_ticks : FuncData} (M__law_ticks : FnD P w K mg base 4 f__law_ticks fd__law_ticks ["pot"] F__law_ticks 4) (a__law_ticks : mg "_law_ticks" = some (.ref f__law_ticks)) (kp__law_ticks : PySem.W.keepIn K (.ref f__law_ticks) = true)
    {f__law_wishes : Addr} {fd__law_wishes : FuncData} (M__law_wishes : FnD P w K mg base 3 f__law_wishes fd__law_wishes ["pot"] F__law_wishes 9) (a__law_wishes : mg "_law_wishes" = some (.ref f__law_wishes)) (kp__law_wishes : PySem.W.keepIn K (.ref f__law_wishes) = true)
    {f__law_values : Addr} {fd__law_values : FuncData} (M__law_values : FnD P w K mg base 4 f__law_values fd__law_values ["first", "step", "many"] F__law_values 0) (a__law_values : mg "_law_values" = some (.ref f__law_values)) (kp__law_values : PySem.W.keepIn K (.ref f__law_values) = true)
    {f__law_plus : Addr} {fd__law_plus : FuncData} (M__law_plus : FnD P w K mg base 3 f__law_plus fd__law_plus ["one", "other"] F__law_plus 0) (a__law_plus : mg "_law_plus" = some (.ref f__law_plus)) (kp__law_plus : PySem.W.keepIn K (.ref f__law_plus) = true)
    {f__law_times : Addr} {fd__law_times : FuncData} (M__law_times : FnD P w K mg base 3 f__law_times fd__law_times ["one", "other"] F__law_times 0) (a__law_times : mg "_law_times" = some (.ref f__law_times)) (kp__law_times : PySem.W.keepIn K (.ref f__law_times) = true)
    {f__law_take : Addr} {fd__law_take : FuncData} (M__law_take : FnD P w K mg base 1 f__law_take fd__law_take ["pot", "upto"] F__law_take 1) (a__law_take : mg "_law_take" = some (.ref f__law_take)) (kp__law_take : PySem.W.keepIn K (.ref f__law_take) = true)
    {f__law_of : Addr} {fd__law_of : FuncData} (M__law_of : FnD P w K mg base 2 f__law_of fd__law_of ["pot", "some"] F__law_of 1) (a__law_of : mg "_law_of" = some (.ref f__law_of)) (kp__law_of : PySem.W.keepIn K (.ref f__law_of) = true)
    {f__law_less : Addr} {fd__law_less : FuncData} (M__law_less : FnD P w K mg base 1 f__law_less fd__law_less ["one", "other"] F__law_less 0) (a__law_less : mg "_law_less" = some (.ref f__law_less)) (kp__law_less : PySem.W.keepIn K (.ref f__law_less) = true)
    {f__law_cost : Addr} {fd__law_cost : FuncData} (M__law_cost : FnD P w K mg base 5 f__law_cost fd__law_cost ["ticks", "ends", "wishes"] F__law_cost 0) (a__law_cost : mg "_law_cost" = some (.ref f__law_cost)) (kp__law_cost : PySem.W.keepIn K (.ref f__law_cost) = true)
    {f_ticks_cost : Addr} {fd_ticks_cost : FuncData} (M_ticks_cost : FnD P w K mg base 7 f_ticks_cost fd_ticks_cost ["ticks", "ends", "wishes"] F_ticks_cost 0) (a_ticks_cost : mg "ticks_cost" = some (.ref f_ticks_cost)) (kp_ticks_cost : PySem.W.keepIn K (.ref f_ticks_cost) = true)
    {f__law_are_refused : Addr} {fd__law_are_refused : FuncData} (M__law_are_refused : FnD P w K mg base 10 f__law_are_refused fd__law_are_refused ["pot", "ticks", "ends", "wishes"] F__law_are_refused 3) (a__law_are_refused : mg "_law_are_refused" = some (.ref f__law_are_refused)) (kp__law_are_refused : PySem.W.keepIn K (.ref f__law_are_refused) = true)
    (b__law_ticks_1 : BindG K fd__law_ticks ["pot"] 1 [] [])
    (b__law_wishes_1 : BindG K fd__law_wishes ["pot"] 1 [] [])
    (b__law_values_3 : BindG K fd__law_values ["first", "step", "many"] 3 [] [])
    (b__law_plus_2 : BindG K fd__law_plus ["one", "other"] 2 [] [])
    (b__law_times_2 : BindG K fd__law_times ["one", "other"] 2 [] [])
    (b__law_take_2 : BindG K fd__law_take ["pot", "upto"] 2 [] [])
    (b__law_of_2 : BindG K fd__law_of ["pot", "some"] 2 [] [])
    (b__law_less_2 : BindG K fd__law_less ["one", "other"] 2 [] [])
    (b__law_cost_3 : BindG K fd__law_cost ["ticks", "ends", "wishes"] 3 [] [])
    (b_ticks_cost_0_ticks_ends_wishes : BindG K fd_ticks_cost ["ticks", "ends", "wishes"] 0 ["ticks", "ends", "wishes"] [])
    (b_ticks_cost_3 : BindG K fd_ticks_cost ["ticks", "ends", "wishes"] 3 [] [])
    (b__law_are_refused_4 : BindG K fd__law_are_refused ["pot", "ticks", "ends", "wishes"] 4 [] [])
    (m_repr : mg "repr" = none) :
    FnD P w K mg base 11 f (PySem.W.fnOf "_law_right" "_law_right" (defArgs s__law_right) (defBody s__law_right) (defScope s__law_right) dV kV doc pm an cdv ct) ["pot"] F__law_right 30 := by
  unfold F__law_right
  refine fnd_by lk cd sc__law_right (g := G__law_right) (by decide) (fun X W E hE h1 h2 h3 h4 h5 hfn C => ?_)
  subst h1 h2 h3 h4 h5
  have d : DSs X W (defBody s__law_right) (G__law_right E) _ := (dss_cons (ds_asg C (de_tup C (da_cons C (de_fn C hE M__law_ticks (by decide) (by decide +kernel) a__law_ticks kp__law_ticks b__law_ticks_1 .nil (das_pot C (i := 0) rfl (vis_by (by decide +kernel)) das_nil) rfl) (da_cons C (de_fn C hE M__law_wishes (by decide) (by decide +kernel) a__law_wishes kp__law_wishes b__law_wishes_1 .nil (das_pot C (i := 0) rfl (vis_by (by decide +kernel)) das_nil) rfl) da_nil))) (dg_tup C (dgs_cons (dg_name C (i := 1) rfl (loc_by (by decide +kernel)) (.inl (hfn _))) (dgs_cons (dg_name C (i := 2) rfl (loc_by (by decide +kernel)) (.inl (hfn _))) dgs_nil))) (hw := swc2 C rfl (by decide +kernel)))
    (dss_cons (ds_set C (i := 3) rfl (loc_by (by decide +kernel)) (.inl (hfn _)) (de_fn C hE M__law_values (by decide) (by decide +kernel) a__law_values kp__law_values b__law_values_3 .nil (das_dat C (de_ix C dix (DE.bo (de_var C (i := 1) rfl (vis_by (by decide +kernel)))) (DE.bo de_int)) (das_dat C (de_ix C dix (DE.bo (de_var C (i := 1) rfl (vis_by (by decide +kernel)))) (DE.bo de_int)) (das_dat C (de_ix C dix (DE.bo (de_var C (i := 1) rfl (vis_by (by decide +kernel)))) (DE.bo de_int)) das_nil))) rfl))
    (dss_cons (ds_lc (own := [("one", 5)]) C 12 (i := 4) rfl (by decide +kernel) rfl rfl (by decide +kernel) (DI.bo (di_seq C (de_var C (i := 3) rfl (vis_by (by decide +kernel))))) (blkOk_by (own := [("one", 5)]) (by decide +kernel)) (blk_use C fun _ _ _ _ _ _ C1 => (dg_name C1 (i := 5) rfl (loc_by (by decide +kernel)) (.inr (by decide +kernel)))) (blk_use C fun _ _ _ _ _ _ C1 => PTsD.le (c := 0) dts_nil (by decide +kernel)) (blk_use C fun _ _ _ _ _ _ C1 => DE.le (c := 1) (de_fn C1 rfl M__law_plus (by decide) (by decide +kernel) a__law_plus kp__law_plus b__law_plus_2 .nil (das_dat C1 (de_var C1 (i := 5) rfl (vis_by (by decide +kernel))) (das_dat C1 (de_fn C1 rfl M__law_times (by decide) (by decide +kernel) a__law_times kp__law_times b__law_times_2 .nil (das_dat C1 (de_ix C1 dix (DE.bo (de_var C1 (i := 1) rfl (vis_by (by decide +kernel)))) (DE.bo de_int)) (das_dat C1 (de_tup C1 (da_cons C1 (de_bin C1 dop_sub (DE.bo (de_fn C1 rfl M__law_take (by decide) (by decide +kernel) a__law_take kp__law_take b__law_take_2 .nil (das_pot C1 (i := 0) rfl (vis_by (by decide +kernel)) (das_dat C1 de_int das_nil)) rfl)) (DE.bo de_int)) (da_cons C1 de_int da_nil))) das_nil)) rfl) das_nil)) rfl) (by decide +kernel)) (by decide))
    (dss_cons (ds_par C (i := 5) (j := 6) rfl rfl (by decide) (by decide +kernel) (by decide +kernel) (da_cons C (de_fn C hE M__law_of (by decide) (by decide +kernel) a__law_of kp__law_of b__law_of_2 .nil (das_pot C (i := 0) rfl (vis_by (by decide +kernel)) (das_dat C (de_bin C dop_add (DE.bo (de_var C (i := 4) rfl (vis_by (by decide +kernel)))) (DE.bo (de_var C (i := 3) rfl (vis_by (by decide +kernel))))) das_nil)) rfl) (da_cons C (de_fn C hE M__law_of (by decide) (by decide +kernel) a__law_of kp__law_of b__law_of_2 .nil (das_pot C (i := 0) rfl (vis_by (by decide +kernel)) (das_dat C (de_bin C dop_add (DE.bo (de_var C (i := 4) rfl (vis_by (by decide +kernel)))) (DE.bo (de_var C (i := 3) rfl (vis_by (by decide +kernel))))) das_nil)) rfl) da_nil)) (swp2 C rfl (by decide +kernel) (by decide +kernel) (by decide +kernel) rfl (fun _ _ z => nomatch z) (fun _ _ z => nomatch z) rfl rfl))
    (dss_cons (ds_set C (i := 7) rfl (loc_by (by decide +kernel)) (.inl (hfn _)) (de_if C (dt_val (DE.bo (de_fn C hE M__law_less (by decide) (by decide +kernel) a__law_less kp__law_less b__law_less_2 .nil (das_dat C (de_var C (i := 6) rfl (vis_by (by decide +kernel))) (das_dat C (de_var C (i := 5) rfl (vis_by (by decide +kernel))) das_nil)) rfl))) (de_tup C (da_cons C (de_var C (i := 6) rfl (vis_by (by decide +kernel))) (da_cons C (de_var C (i := 5) rfl (vis_by (by decide +kernel))) da_nil))) (de_tup C (da_cons C (de_var C (i := 5) rfl (vis_by (by decide +kernel))) (da_cons C (de_var C (i := 6) rfl (vis_by (by decide +kernel))) da_nil)))))
    (dss_cons (ds_set C (i := 8) rfl (loc_by (by decide +kernel)) (.inl (hfn _)) (de_fn C hE M__law_cost (by decide) (by decide +kernel) a__law_cost kp__law_cost b__law_cost_3 .nil (das_dat C (de_var C (i := 1) rfl (vis_by (by decide +kernel))) (das_dat C (de_var C (i := 7) rfl (vis_by (by decide +kernel))) (das_dat C (de_var C (i := 2) rfl (vis_by (by decide +kernel))) das_nil))) rfl))
    (dss_cons (ds_if C (dt_cmp C (dop_ne C.units) (DE.bo (de_callB C (dc_repr C.gd C.units) (by decide +kernel) m_repr boot_repr (db_cons C (DE.bo (de_fnk0 C hE M_ticks_cost (by decide) (by decide +kernel) a_ticks_cost kp_ticks_cost b_ticks_cost_0_ticks_ends_wishes .nil (dkw_dat C (de_var C (i := 1) rfl (vis_by (by decide +kernel))) (dkw_dat C (de_var C (i := 7) rfl (vis_by (by decide +kernel))) (dkw_dat C (de_var C (i := 2) rfl (vis_by (by decide +kernel))) dkw_nil))) rfl)) db_nil))) (DE.bo (de_callB C (dc_repr C.gd C.units) (by decide +kernel) m_repr boot_repr (db_cons C (DE.bo (de_var C (i := 8) rfl (vis_by (by decide +kernel)))) db_nil)))) (dss_one (ds_ret C de_bl)) dss_nil)
    (dss_cons (ds_set C (i := 9) rfl (loc_by (by decide +kernel)) (.inl (hfn _)) (de_fn C hE M_ticks_cost (by decide) (by decide +kernel) a_ticks_cost kp_ticks_cost b_ticks_cost_3 .nil (das_dat C (de_var C (i := 1) rfl (vis_by (by decide +kernel))) (das_dat C (de_tup C (da_cons C (de_ix C dix (DE.bo (de_var C (i := 3) rfl (vis_by (by decide +kernel)))) (DE.bo de_int)) (da_cons C (de_ix C dix (DE.bo (de_var C (i := 3) rfl (vis_by (by decide +kernel)))) (DE.bo (de_neg (DE.bo de_int)))) da_nil))) (das_dat C (de_var C (i := 2) rfl (vis_by (by decide +kernel))) das_nil))) rfl))
    (dss_cons (ds_if C (DW.t (dw_or C (dt_cmp C (dop_ne C.units) (DE.bo (de_callB C (dc_repr C.gd C.units) (by decide +kernel) m_repr boot_repr (db_cons C (DE.bo (de_var C (i := 9) rfl (vis_by (by decide +kernel)))) db_nil))) (DE.bo (de_callB C (dc_repr C.gd C.units) (by decide +kernel) m_repr boot_repr (db_cons C (DE.bo (de_fn C hE M__law_cost (by decide) (by decide +kernel) a__law_cost kp__law_cost b__law_cost_3 .nil (das_dat C (de_var C (i := 1) rfl (vis_by (by decide +kernel))) (das_dat C (de_tup C (da_cons C (de_ix C dix (DE.bo (de_var C (i := 3) rfl (vis_by (by decide +kernel)))) (DE.bo de_int)) (da_cons C (de_ix C dix (DE.bo (de_var C (i := 3) rfl (vis_by (by decide +kernel)))) (DE.bo (de_neg (DE.bo de_int)))) da_nil))) (das_dat C (de_var C (i := 2) rfl (vis_by (by decide +kernel))) das_nil))) rfl)) db_nil)))) (dw_or1 (DW.t (dw_and C (dt_cmp C dop_isnot (DE.bo (de_var C (i := 8) rfl (vis_by (by decide +kernel)))) (DE.bo de_non)) (dw_and1 (dt_cmp C dop_lt (DE.bo (de_var C (i := 8) rfl (vis_by (by decide +kernel)))) (DE.bo (de_var C (i := 9) rfl (vis_by (by decide +kernel))))))))))) (dss_one (ds_ret C de_bl)) dss_nil)
    (dss_one (ds_ret C (de_fn C hE M__law_are_refused (by decide) (by decide +kernel) a__law_are_refused kp__law_are_refused b__law_are_refused_4 .nil (das_pot C (i := 0) rfl (vis_by (by decide +kernel)) (das_dat C (de_var C (i := 1) rfl (vis_by (by decide +kernel))) (das_dat C (de_var C (i := 7) rfl (vis_by (by decide +kernel))) (das_dat C (de_var C (i := 2) rfl (vis_by (by decide +kernel))) das_nil)))) rfl))))))))))))
  exact ⟨_, by decide +kernel, d⟩
theorem sc_law : FnScope N_law ["script"] (defScope s_law) := ⟨rfl, rfl, rfl, by decide +kernel, rfl, by decide +kernel, by decide +kernel⟩
theorem ok_law {P : Program} {w : World} {K : PySem.W.Frag} {mg : Str → Option Value} {base : Heap} {f : Addr} {od an : Option Addr} {osl : Array (Option Value)} {oc dV kV doc pm cdv ct : Value}
    (lk : K.lookup f = some ⟨oc, od, .func (PySem.W.fnOf "law" "law" (defArgs s_law) (defBody s_law) (defScope s_law) dV kV doc pm an cdv ct), osl⟩) (cd : PySem.W.codeIn K cdv "law" = true)
    {f__law_cells : Addr} {fd__law_cells : FuncData} (M__law_cells : FnD P w K mg base 1 f__law_cells fd__law_cells ["script", "limit"] F__law_cells 0) (a__law_cells : mg "_law_cells" = some (.ref f__law_cells)) (kp__law_cells : PySem.W.keepIn K (.ref f__law_cells) = true)
    {f__law_pot : Addr} {fd__law_pot : FuncData} (M__law_pot : FnD P w K mg base 1 f__law_pot fd__law_pot ["script", "place"] F__law_pot 0) (a__law_pot : mg "_law_pot" = some (.ref f__law_pot)) (kp__law_pot : PySem.W.keepIn K (.ref f__law_pot) = true)
    {f__law_right : Addr} {fd__law_right : FuncData} (M__law_right : FnD P w K mg base 11 f__law_right fd__law_right ["pot"] F__law_right 30) (a__law_right : mg "_law_right" = some (.ref f__law_right)) (kp__law_right : PySem.W.keepIn K (.ref f__law_right) = true)
    (b__law_cells_2 : BindG K fd__law_cells ["script", "limit"] 2 [] [])
    (b__law_pot_2 : BindG K fd__law_pot ["script", "place"] 2 [] [])
    (b__law_right_1 : BindG K fd__law_right ["pot"] 1 [] [])
    (m_all : mg "all" = none)
    (m_range : mg "range" = none) :
    FnD P w K mg base 12 f (PySem.W.fnOf "law" "law" (defArgs s_law) (defBody s_law) (defScope s_law) dV kV doc pm an cdv ct) ["script"] F_law 0 := by
  unfold F_law
  refine fnd_by lk cd sc_law (g := G_law) (by decide) (fun X W E hE h1 h2 h3 h4 h5 hfn C => ?_)
  subst h1 h2 h3 h4 h5
  have d : DSs X W (defBody s_law) (G_law E) _ := (dss_cons (ds_for C 0 (di_seq C (de_fn C hE M__law_cells (by decide) (by decide +kernel) a__law_cells kp__law_cells b__law_cells_2 .nil (das_scr C (i := 0) rfl (vis_by (by decide +kernel)) (das_dat C de_int das_nil)) rfl)) (dg_name C (i := 1) rfl (loc_by (by decide +kernel)) (.inl (hfn _))) (DSs.le (c := 0) (dss_pot C hE M__law_pot (by decide) (by decide +kernel) a__law_pot kp__law_pot b__law_pot_2 rfl (i := 2) (l := 0) (m := 1) rfl (loc_by (by decide +kernel)) (.inl (hfn _)) rfl (vis_by (by decide +kernel)) rfl (vis_by (by decide +kernel)) (by decide) (fun _ hp Cp => (dss_one (ds_if Cp (dt_not (dt_val (DE.bo (de_callB Cp (dc_all Cp.calm) (by decide +kernel) m_all boot_all (db_cons Cp (DE.bo (DF.da Cp (df_lc (own := [("lap", 3)]) Cp 240 (DI.bo (di_range1 Cp (by decide +kernel) m_range (DE.bo de_int))) (blkOk_by (own := [("lap", 3)]) (by decide +kernel)) (blk_use Cp fun _ _ _ _ _ _ C1 => (dg_name C1 (i := 3) rfl (loc_by (by decide +kernel)) (.inr (by decide +kernel)))) (blk_use Cp fun _ _ _ _ _ _ C1 => PTsD.le (c := 0) dts_nil (by decide +kernel)) (blk_use Cp fun _ _ _ _ _ _ C1 => DE.le (c := 30) (de_fn C1 rfl M__law_right (by decide) (by decide +kernel) a__law_right kp__law_right b__law_right_1 .nil (das_pot C1 (i := 2) rfl (vis_by (by decide +kernel)) das_nil) rfl) (by decide +kernel)) (by decide)))) db_nil))))) (dss_one (ds_ret Cp de_bl)) dss_nil)))) (by decide +kernel)))
    (dss_one (ds_ret C de_bl)))
  exact ⟨_, by decide +kernel, d⟩
end K33
/-! K33: what the top has written; the end (printed by gen.py). -/
namespace K33
open PySem PySem.Spec PyProof.Rows L2 DL
theorem all_mk {l : PySem.W.OpenLaw} {w : World} {K : PySem.W.Frag} {h : Heap} {mg : Str → Option Value} {fa : Addr} (X : K.In h) (G : h.Ns mainGlobals mg) (hfa : mg "law" = some (.ref fa))
    {f__law_cells : Addr} {od__law_cells an__law_cells : Option Addr} {sl__law_cells : Array (Option Value)} {oc__law_cells kV__law_cells dc__law_cells pm__law_cells cd__law_cells ct__law_cells : Value}
    (a__law_cells : PySem.W.nsIn K mainGlobals "_law_cells" = some (some (.ref f__law_cells))) (l__law_cells : K.lookup f__law_cells = some ⟨oc__law_cells, od__law_cells, .func (PySem.W.fnOf "_law_cells" "_law_cells" (defArgs s__law_cells) (defBody s__law_cells) (defScope s__law_cells) .none kV__law_cells dc__law_cells pm__law_cells an__law_cells cd__law_cells ct__law_cells), sl__law_cells⟩) (c__law_cells : PySem.W.codeIn K cd__law_cells "_law_cells" = true) (k__law_cells : PySem.W.keepIn K (.ref f__law_cells) = true)
    {f__law_pot : Addr} {od__law_pot an__law_pot : Option Addr} {sl__law_pot : Array (Option Value)} {oc__law_pot kV__law_pot dc__law_pot pm__law_pot cd__law_pot ct__law_pot : Value}
    (a__law_pot : PySem.W.nsIn K mainGlobals "_law_pot" = some (some (.ref f__law_pot))) (l__law_pot : K.lookup f__law_pot = some ⟨oc__law_pot, od__law_pot, .func (PySem.W.fnOf "_law_pot" "_law_pot" (defArgs s__law_pot) (defBody s__law_pot) (defScope s__law_pot) .none kV__law_pot dc__law_pot pm__law_pot an__law_pot cd__law_pot ct__law_pot), sl__law_pot⟩) (c__law_pot : PySem.W.codeIn K cd__law_pot "_law_pot" = true) (k__law_pot : PySem.W.keepIn K (.ref f__law_pot) = true)
    {f__law_common : Addr} {od__law_common an__law_common : Option Addr} {sl__law_common : Array (Option Value)} {oc__law_common kV__law_common dc__law_common pm__law_common cd__law_common ct__law_common : Value}
    (a__law_common : PySem.W.nsIn K mainGlobals "_law_common" = some (some (.ref f__law_common))) (l__law_common : K.lookup f__law_common = some ⟨oc__law_common, od__law_common, .func (PySem.W.fnOf "_law_common" "_law_common" (defArgs s__law_common) (defBody s__law_common) (defScope s__law_common) .none kV__law_common dc__law_common pm__law_common an__law_common cd__law_common ct__law_common), sl__law_common⟩) (c__law_common : PySem.W.codeIn K cd__law_common "_law_common" = true) (k__law_common : PySem.W.keepIn K (.ref f__law_common) = true)
    {f__law_reduced : Addr} {od__law_reduced an__law_reduced : Option Addr} {sl__law_reduced : Array (Option Value)} {oc__law_reduced kV__law_reduced dc__law_reduced pm__law_reduced cd__law_reduced ct__law_reduced : Value}
    (a__law_reduced : PySem.W.nsIn K mainGlobals "_law_reduced" = some (some (.ref f__law_reduced))) (l__law_reduced : K.lookup f__law_reduced = some ⟨oc__law_reduced, od__law_reduced, .func (PySem.W.fnOf "_law_reduced" "_law_reduced" (defArgs s__law_reduced) (defBody s__law_reduced) (defScope s__law_reduced) .none kV__law_reduced dc__law_reduced pm__law_reduced an__law_reduced cd__law_reduced ct__law_reduced), sl__law_reduced⟩) (c__law_reduced : PySem.W.codeIn K cd__law_reduced "_law_reduced" = true) (k__law_reduced : PySem.W.keepIn K (.ref f__law_reduced) = true)
    {f__law_plus : Addr} {od__law_plus an__law_plus : Option Addr} {sl__law_plus : Array (Option Value)} {oc__law_plus kV__law_plus dc__law_plus pm__law_plus cd__law_plus ct__law_plus : Value}
    (a__law_plus : PySem.W.nsIn K mainGlobals "_law_plus" = some (some (.ref f__law_plus))) (l__law_plus : K.lookup f__law_plus = some ⟨oc__law_plus, od__law_plus, .func (PySem.W.fnOf "_law_plus" "_law_plus" (defArgs s__law_plus) (defBody s__law_plus) (defScope s__law_plus) .none kV__law_plus dc__law_plus pm__law_plus an__law_plus cd__law_plus ct__law_plus), sl__law_plus⟩) (c__law_plus : PySem.W.codeIn K cd__law_plus "_law_plus" = true) (k__law_plus : PySem.W.keepIn K (.ref f__law_plus) = true)
    {f__law_times : Addr} {od__law_times an__law_times : Option Addr} {sl__law_times : Array (Option Value)} {oc__law_times kV__law_times dc__law_times pm__law_times cd__law_times ct__law_times : Value}
    (a__law_times : PySem.W.nsIn K mainGlobals "_law_times" = some (some (.ref f__law_times))) (l__law_times : K.lookup f__law_times = some ⟨oc__law_times, od__law_times, .func (PySem.W.fnOf "_law_times" "_law_times" (defArgs s__law_times) (defBody s__law_times) (defScope s__law_times) .none kV__law_times dc__law_times pm__law_times an__law_times cd__law_times ct__law_times), sl__law_times⟩) (c__law_times : PySem.W.codeIn K cd__law_times "_law_times" = true) (k__law_times : PySem.W.keepIn K (.ref f__law_times) = true)
    {f__law_values : Addr} {od__law_values an__law_values : Option Addr} {sl__law_values : Array (Option Value)} {oc__law_values kV__law_values dc__law_values pm__law_values cd__law_values ct__law_values : Value}
    (a__law_values : PySem.W.nsIn K mainGlobals "_law_values" = some (some (.ref f__law_values))) (l__law_values : K.lookup f__law_values = some ⟨oc__law_values, od__law_values, .func (PySem.W.fnOf "_law_values" "_law_values" (defArgs s__law_values) (defBody s__law_values) (defScope s__law_values) .none kV__law_values dc__law_values pm__law_values an__law_values cd__law_values ct__law_values), sl__law_values⟩) (c__law_values : PySem.W.codeIn K cd__law_values "_law_values" = true) (k__law_values : PySem.W.keepIn K (.ref f__law_values) = true)
    {f__law_less : Addr} {od__law_less an__law_less : Option Addr} {sl__law_less : Array (Option Value)} {oc__law_less kV__law_less dc__law_less pm__law_less cd__law_less ct__law_less : Value}
    (a__law_less : PySem.W.nsIn K mainGlobals "_law_less" = some (some (.ref f__law_less))) (l__law_less : K.lookup f__law_less = some ⟨oc__law_less, od__law_less, .func (PySem.W.fnOf "_law_less" "_law_less" (defArgs s__law_less) (defBody s__law_less) (defScope s__law_less) .none kV__law_less dc__law_less pm__law_less an__law_less cd__law_less ct__law_less), sl__law_less⟩) (c__law_less : PySem.W.codeIn K cd__law_less "_law_less" = true) (k__law_less : PySem.W.keepIn K (.ref f__law_less) = true)
    {f__law_power : Addr} {od__law_power an__law_power : Option Addr} {sl__law_power : Array (Option Value)} {oc__law_power kV__law_power dc__law_power pm__law_power cd__law_power ct__law_power : Value}
    (a__law_power : PySem.W.nsIn K mainGlobals "_law_power" = some (some (.ref f__law_power))) (l__law_power : K.lookup f__law_power = some ⟨oc__law_power, od__law_power, .func (PySem.W.fnOf "_law_power" "_law_power" (defArgs s__law_power) (defBody s__law_power) (defScope s__law_power) .none kV__law_power dc__law_power pm__law_power an__law_power cd__law_power ct__law_power), sl__law_power⟩) (c__law_power : PySem.W.codeIn K cd__law_power "_law_power" = true) (k__law_power : PySem.W.keepIn K (.ref f__law_power) = true)
    {f__law_parts : Addr} {od__law_parts an__law_parts : Option Addr} {sl__law_parts : Array (Option Value)} {oc__law_parts kV__law_parts dc__law_parts pm__law_parts cd__law_parts ct__law_parts : Value}
    (a__law_parts : PySem.W.nsIn K mainGlobals "_law_parts" = some (some (.ref f__law_parts))) (l__law_parts : K.lookup f__law_parts = some ⟨oc__law_parts, od__law_parts, .func (PySem.W.fnOf "_law_parts" "_law_parts" (defArgs s__law_parts) (defBody s__law_parts) (defScope s__law_parts) .none kV__law_parts dc__law_parts pm__law_parts an__law_parts cd__law_parts ct__law_parts), sl__law_parts⟩) (c__law_parts : PySem.W.codeIn K cd__law_parts "_law_parts" = true) (k__law_parts : PySem.W.keepIn K (.ref f__law_parts) = true)
    {f__law_text : Addr} {od__law_text an__law_text : Option Addr} {sl__law_text : Array (Option Value)} {oc__law_text kV__law_text dc__law_text pm__law_text cd__law_text ct__law_text : Value}
    (a__law_text : PySem.W.nsIn K mainGlobals "_law_text" = some (some (.ref f__law_text))) (l__law_text : K.lookup f__law_text = some ⟨oc__law_text, od__law_text, .func (PySem.W.fnOf "_law_text" "_law_text" (defArgs s__law_text) (defBody s__law_text) (defScope s__law_text) .none kV__law_text dc__law_text pm__law_text an__law_text cd__law_text ct__law_text), sl__law_text⟩) (c__law_text : PySem.W.codeIn K cd__law_text "_law_text" = true) (k__law_text : PySem.W.keepIn K (.ref f__law_text) = true)
    {f__law_cost : Addr} {od__law_cost an__law_cost : Option Addr} {sl__law_cost : Array (Option Value)} {oc__law_cost kV__law_cost dc__law_cost pm__law_cost cd__law_cost ct__law_cost : Value}
    (a__law_cost : PySem.W.nsIn K mainGlobals "_law_cost" = some (some (.ref f__law_cost))) (l__law_cost : K.lookup f__law_cost = some ⟨oc__law_cost, od__law_cost, .func (PySem.W.fnOf "_law_cost" "_law_cost" (defArgs s__law_cost) (defBody s__law_cost) (defScope s__law_cost) .none kV__law_cost dc__law_cost pm__law_cost an__law_cost cd__law_cost ct__law_cost), sl__law_cost⟩) (c__law_cost : PySem.W.codeIn K cd__law_cost "_law_cost" = true) (k__law_cost : PySem.W.keepIn K (.ref f__law_cost) = true)
    {f_is_integer : Addr} {od_is_integer an_is_integer : Option Addr} {sl_is_integer : Array (Option Value)} {oc_is_integer kV_is_integer dc_is_integer pm_is_integer cd_is_integer ct_is_integer : Value}
    (a_is_integer : PySem.W.nsIn K mainGlobals "is_integer" = some (some (.ref f_is_integer))) (l_is_integer : K.lookup f_is_integer = some ⟨oc_is_integer, od_is_integer, .func (PySem.W.fnOf "is_integer" "is_integer" (defArgs s_is_integer) (defBody s_is_integer) (defScope s_is_integer) .none kV_is_integer dc_is_integer pm_is_integer an_is_integer cd_is_integer ct_is_integer), sl_is_integer⟩) (c_is_integer : PySem.W.codeIn K cd_is_integer "is_integer" = true) (k_is_integer : PySem.W.keepIn K (.ref f_is_integer) = true)
    {f_is_between : Addr} {od_is_between an_is_between : Option Addr} {sl_is_between : Array (Option Value)} {oc_is_between kV_is_between dc_is_between pm_is_between cd_is_between ct_is_between : Value}
    (a_is_between : PySem.W.nsIn K mainGlobals "is_between" = some (some (.ref f_is_between))) (l_is_between : K.lookup f_is_between = some ⟨oc_is_between, od_is_between, .func (PySem.W.fnOf "is_between" "is_between" (defArgs s_is_between) (defBody s_is_between) (defScope s_is_between) .none kV_is_between dc_is_between pm_is_between an_is_between cd_is_between ct_is_between), sl_is_between⟩) (c_is_between : PySem.W.codeIn K cd_is_between "is_between" = true) (k_is_between : PySem.W.keepIn K (.ref f_is_between) = true)
    {f_common : Addr} {od_common an_common : Option Addr} {sl_common : Array (Option Value)} {oc_common kV_common dc_common pm_common cd_common ct_common : Value}
    (a_common : PySem.W.nsIn K mainGlobals "common" = some (some (.ref f_common))) (l_common : K.lookup f_common = some ⟨oc_common, od_common, .func (PySem.W.fnOf "common" "common" (defArgs s_common) (defBody s_common) (defScope s_common) .none kV_common dc_common pm_common an_common cd_common ct_common), sl_common⟩) (c_common : PySem.W.codeIn K cd_common "common" = true) (k_common : PySem.W.keepIn K (.ref f_common) = true)
    {f_is_fraction : Addr} {od_is_fraction an_is_fraction : Option Addr} {sl_is_fraction : Array (Option Value)} {oc_is_fraction kV_is_fraction dc_is_fraction pm_is_fraction cd_is_fraction ct_is_fraction : Value}
    (a_is_fraction : PySem.W.nsIn K mainGlobals "is_fraction" = some (some (.ref f_is_fraction))) (l_is_fraction : K.lookup f_is_fraction = some ⟨oc_is_fraction, od_is_fraction, .func (PySem.W.fnOf "is_fraction" "is_fraction" (defArgs s_is_fraction) (defBody s_is_fraction) (defScope s_is_fraction) .none kV_is_fraction dc_is_fraction pm_is_fraction an_is_fraction cd_is_fraction ct_is_fraction), sl_is_fraction⟩) (c_is_fraction : PySem.W.codeIn K cd_is_fraction "is_fraction" = true) (k_is_fraction : PySem.W.keepIn K (.ref f_is_fraction) = true)
    {f_are_written : Addr} {od_are_written an_are_written : Option Addr} {sl_are_written : Array (Option Value)} {oc_are_written kV_are_written dc_are_written pm_are_written cd_are_written ct_are_written : Value}
    (a_are_written : PySem.W.nsIn K mainGlobals "are_written" = some (some (.ref f_are_written))) (l_are_written : K.lookup f_are_written = some ⟨oc_are_written, od_are_written, .func (PySem.W.fnOf "are_written" "are_written" (defArgs s_are_written) (defBody s_are_written) (defScope s_are_written) .none kV_are_written dc_are_written pm_are_written an_are_written cd_are_written ct_are_written), sl_are_written⟩) (c_are_written : PySem.W.codeIn K cd_are_written "are_written" = true) (k_are_written : PySem.W.keepIn K (.ref f_are_written) = true)
    {f_without_tens : Addr} {od_without_tens an_without_tens : Option Addr} {sl_without_tens : Array (Option Value)} {oc_without_tens kV_without_tens dc_without_tens pm_without_tens cd_without_tens ct_without_tens : Value}
    (a_without_tens : PySem.W.nsIn K mainGlobals "without_tens" = some (some (.ref f_without_tens))) (l_without_tens : K.lookup f_without_tens = some ⟨oc_without_tens, od_without_tens, .func (PySem.W.fnOf "without_tens" "without_tens" (defArgs s_without_tens) (defBody s_without_tens) (defScope s_without_tens) .none kV_without_tens dc_without_tens pm_without_tens an_without_tens cd_without_tens ct_without_tens), sl_without_tens⟩) (c_without_tens : PySem.W.codeIn K cd_without_tens "without_tens" = true) (k_without_tens : PySem.W.keepIn K (.ref f_without_tens) = true)
    {f_parts_of_step : Addr} {od_parts_of_step an_parts_of_step : Option Addr} {sl_parts_of_step : Array (Option Value)} {oc_parts_of_step kV_parts_of_step dc_parts_of_step pm_parts_of_step cd_parts_of_step ct_parts_of_step : Value}
    (a_parts_of_step : PySem.W.nsIn K mainGlobals "parts_of_step" = some (some (.ref f_parts_of_step))) (l_parts_of_step : K.lookup f_parts_of_step = some ⟨oc_parts_of_step, od_parts_of_step, .func (PySem.W.fnOf "parts_of_step" "parts_of_step" (defArgs s_parts_of_step) (defBody s_parts_of_step) (defScope s_parts_of_step) .none kV_parts_of_step dc_parts_of_step pm_parts_of_step an_parts_of_step cd_parts_of_step ct_parts_of_step), sl_parts_of_step⟩) (c_parts_of_step : PySem.W.codeIn K cd_parts_of_step "parts_of_step" = true) (k_parts_of_step : PySem.W.keepIn K (.ref f_parts_of_step) = true)
    {f_reduced : Addr} {od_reduced an_reduced : Option Addr} {sl_reduced : Array (Option Value)} {oc_reduced kV_reduced dc_reduced pm_reduced cd_reduced ct_reduced : Value}
    (a_reduced : PySem.W.nsIn K mainGlobals "reduced" = some (some (.ref f_reduced))) (l_reduced : K.lookup f_reduced = some ⟨oc_reduced, od_reduced, .func (PySem.W.fnOf "reduced" "reduced" (defArgs s_reduced) (defBody s_reduced) (defScope s_reduced) .none kV_reduced dc_reduced pm_reduced an_reduced cd_reduced ct_reduced), sl_reduced⟩) (c_reduced : PySem.W.codeIn K cd_reduced "reduced" = true) (k_reduced : PySem.W.keepIn K (.ref f_reduced) = true)
    {f_quotient : Addr} {od_quotient an_quotient : Option Addr} {sl_quotient : Array (Option Value)} {oc_quotient kV_quotient dc_quotient pm_quotient cd_quotient ct_quotient : Value}
    (a_quotient : PySem.W.nsIn K mainGlobals "quotient" = some (some (.ref f_quotient))) (l_quotient : K.lookup f_quotient = some ⟨oc_quotient, od_quotient, .func (PySem.W.fnOf "quotient" "quotient" (defArgs s_quotient) (defBody s_quotient) (defScope s_quotient) .none kV_quotient dc_quotient pm_quotient an_quotient cd_quotient ct_quotient), sl_quotient⟩) (c_quotient : PySem.W.codeIn K cd_quotient "quotient" = true) (k_quotient : PySem.W.keepIn K (.ref f_quotient) = true)
    {f_is_ticks : Addr} {od_is_ticks an_is_ticks : Option Addr} {sl_is_ticks : Array (Option Value)} {oc_is_ticks kV_is_ticks dc_is_ticks pm_is_ticks cd_is_ticks ct_is_ticks : Value}
    (a_is_ticks : PySem.W.nsIn K mainGlobals "is_ticks" = some (some (.ref f_is_ticks))) (l_is_ticks : K.lookup f_is_ticks = some ⟨oc_is_ticks, od_is_ticks, .func (PySem.W.fnOf "is_ticks" "is_ticks" (defArgs s_is_ticks) (defBody s_is_ticks) (defScope s_is_ticks) .none kV_is_ticks dc_is_ticks pm_is_ticks an_is_ticks cd_is_ticks ct_is_ticks), sl_is_ticks⟩) (c_is_ticks : PySem.W.codeIn K cd_is_ticks "is_ticks" = true) (k_is_ticks : PySem.W.keepIn K (.ref f_is_ticks) = true)
    {f_check_ticks : Addr} {od_check_ticks an_check_ticks : Option Addr} {sl_check_ticks : Array (Option Value)} {oc_check_ticks kV_check_ticks dc_check_ticks pm_check_ticks cd_check_ticks ct_check_ticks : Value}
    (a_check_ticks : PySem.W.nsIn K mainGlobals "check_ticks" = some (some (.ref f_check_ticks))) (l_check_ticks : K.lookup f_check_ticks = some ⟨oc_check_ticks, od_check_ticks, .func (PySem.W.fnOf "check_ticks" "check_ticks" (defArgs s_check_ticks) (defBody s_check_ticks) (defScope s_check_ticks) .none kV_check_ticks dc_check_ticks pm_check_ticks an_check_ticks cd_check_ticks ct_check_ticks), sl_check_ticks⟩) (c_check_ticks : PySem.W.codeIn K cd_check_ticks "check_ticks" = true) (k_check_ticks : PySem.W.keepIn K (.ref f_check_ticks) = true)
    {f_is_less : Addr} {od_is_less an_is_less : Option Addr} {sl_is_less : Array (Option Value)} {oc_is_less kV_is_less dc_is_less pm_is_less cd_is_less ct_is_less : Value}
    (a_is_less : PySem.W.nsIn K mainGlobals "is_less" = some (some (.ref f_is_less))) (l_is_less : K.lookup f_is_less = some ⟨oc_is_less, od_is_less, .func (PySem.W.fnOf "is_less" "is_less" (defArgs s_is_less) (defBody s_is_less) (defScope s_is_less) .none kV_is_less dc_is_less pm_is_less an_is_less cd_is_less ct_is_less), sl_is_less⟩) (c_is_less : PySem.W.codeIn K cd_is_less "is_less" = true) (k_is_less : PySem.W.keepIn K (.ref f_is_less) = true)
    {f_is_told_fraction : Addr} {od_is_told_fraction an_is_told_fraction : Option Addr} {sl_is_told_fraction : Array (Option Value)} {oc_is_told_fraction kV_is_told_fraction dc_is_told_fraction pm_is_told_fraction cd_is_told_fraction ct_is_told_fraction : Value}
    (a_is_told_fraction : PySem.W.nsIn K mainGlobals "is_told_fraction" = some (some (.ref f_is_told_fraction))) (l_is_told_fraction : K.lookup f_is_told_fraction = some ⟨oc_is_told_fraction, od_is_told_fraction, .func (PySem.W.fnOf "is_told_fraction" "is_told_fraction" (defArgs s_is_told_fraction) (defBody s_is_told_fraction) (defScope s_is_told_fraction) .none kV_is_told_fraction dc_is_told_fraction pm_is_told_fraction an_is_told_fraction cd_is_told_fraction ct_is_told_fraction), sl_is_told_fraction⟩) (c_is_told_fraction : PySem.W.codeIn K cd_is_told_fraction "is_told_fraction" = true) (k_is_told_fraction : PySem.W.keepIn K (.ref f_is_told_fraction) = true)
    {f_check_ends : Addr} {od_check_ends an_check_ends : Option Addr} {sl_check_ends : Array (Option Value)} {oc_check_ends kV_check_ends dc_check_ends pm_check_ends cd_check_ends ct_check_ends : Value}
    (a_check_ends : PySem.W.nsIn K mainGlobals "check_ends" = some (some (.ref f_check_ends))) (l_check_ends : K.lookup f_check_ends = some ⟨oc_check_ends, od_check_ends, .func (PySem.W.fnOf "check_ends" "check_ends" (defArgs s_check_ends) (defBody s_check_ends) (defScope s_check_ends) .none kV_check_ends dc_check_ends pm_check_ends an_check_ends cd_check_ends ct_check_ends), sl_check_ends⟩) (c_check_ends : PySem.W.codeIn K cd_check_ends "check_ends" = true) (k_check_ends : PySem.W.keepIn K (.ref f_check_ends) = true)
    {f_are_wishes : Addr} {od_are_wishes an_are_wishes : Option Addr} {sl_are_wishes : Array (Option Value)} {oc_are_wishes kV_are_wishes dc_are_wishes pm_are_wishes cd_are_wishes ct_are_wishes : Value}
    (a_are_wishes : PySem.W.nsIn K mainGlobals "are_wishes" = some (some (.ref f_are_wishes))) (l_are_wishes : K.lookup f_are_wishes = some ⟨oc_are_wishes, od_are_wishes, .func (PySem.W.fnOf "are_wishes" "are_wishes" (defArgs s_are_wishes) (defBody s_are_wishes) (defScope s_are_wishes) .none kV_are_wishes dc_are_wishes pm_are_wishes an_are_wishes cd_are_wishes ct_are_wishes), sl_are_wishes⟩) (c_are_wishes : PySem.W.codeIn K cd_are_wishes "are_wishes" = true) (k_are_wishes : PySem.W.keepIn K (.ref f_are_wishes) = true)
    {f_check_wishes : Addr} {od_check_wishes an_check_wishes : Option Addr} {sl_check_wishes : Array (Option Value)} {oc_check_wishes kV_check_wishes dc_check_wishes pm_check_wishes cd_check_wishes ct_check_wishes : Value}
    (a_check_wishes : PySem.W.nsIn K mainGlobals "check_wishes" = some (some (.ref f_check_wishes))) (l_check_wishes : K.lookup f_check_wishes = some ⟨oc_check_wishes, od_check_wishes, .func (PySem.W.fnOf "check_wishes" "check_wishes" (defArgs s_check_wishes) (defBody s_check_wishes) (defScope s_check_wishes) .none kV_check_wishes dc_check_wishes pm_check_wishes an_check_wishes cd_check_wishes ct_check_wishes), sl_check_wishes⟩) (c_check_wishes : PySem.W.codeIn K cd_check_wishes "check_wishes" = true) (k_check_wishes : PySem.W.keepIn K (.ref f_check_wishes) = true)
    {f_added : Addr} {od_added an_added : Option Addr} {sl_added : Array (Option Value)} {oc_added kV_added dc_added pm_added cd_added ct_added : Value}
    (a_added : PySem.W.nsIn K mainGlobals "added" = some (some (.ref f_added))) (l_added : K.lookup f_added = some ⟨oc_added, od_added, .func (PySem.W.fnOf "added" "added" (defArgs s_added) (defBody s_added) (defScope s_added) .none kV_added dc_added pm_added an_added cd_added ct_added), sl_added⟩) (c_added : PySem.W.codeIn K cd_added "added" = true) (k_added : PySem.W.keepIn K (.ref f_added) = true)
    {f_product_of : Addr} {od_product_of an_product_of : Option Addr} {sl_product_of : Array (Option Value)} {oc_product_of kV_product_of dc_product_of pm_product_of cd_product_of ct_product_of : Value}
    (a_product_of : PySem.W.nsIn K mainGlobals "product_of" = some (some (.ref f_product_of))) (l_product_of : K.lookup f_product_of = some ⟨oc_product_of, od_product_of, .func (PySem.W.fnOf "product_of" "product_of" (defArgs s_product_of) (defBody s_product_of) (defScope s_product_of) .none kV_product_of dc_product_of pm_product_of an_product_of cd_product_of ct_product_of), sl_product_of⟩) (c_product_of : PySem.W.codeIn K cd_product_of "product_of" = true) (k_product_of : PySem.W.keepIn K (.ref f_product_of) = true)
    {f_last_of : Addr} {od_last_of an_last_of : Option Addr} {sl_last_of : Array (Option Value)} {oc_last_of kV_last_of dc_last_of pm_last_of cd_last_of ct_last_of : Value}
    (a_last_of : PySem.W.nsIn K mainGlobals "last_of" = some (some (.ref f_last_of))) (l_last_of : K.lookup f_last_of = some ⟨oc_last_of, od_last_of, .func (PySem.W.fnOf "last_of" "last_of" (defArgs s_last_of) (defBody s_last_of) (defScope s_last_of) .none kV_last_of dc_last_of pm_last_of an_last_of cd_last_of ct_last_of), sl_last_of⟩) (c_last_of : PySem.W.codeIn K cd_last_of "last_of" = true) (k_last_of : PySem.W.keepIn K (.ref f_last_of) = true)
    {f_do_cover : Addr} {od_do_cover an_do_cover : Option Addr} {sl_do_cover : Array (Option Value)} {oc_do_cover kV_do_cover dc_do_cover pm_do_cover cd_do_cover ct_do_cover : Value}
    (a_do_cover : PySem.W.nsIn K mainGlobals "do_cover" = some (some (.ref f_do_cover))) (l_do_cover : K.lookup f_do_cover = some ⟨oc_do_cover, od_do_cover, .func (PySem.W.fnOf "do_cover" "do_cover" (defArgs s_do_cover) (defBody s_do_cover) (defScope s_do_cover) .none kV_do_cover dc_do_cover pm_do_cover an_do_cover cd_do_cover ct_do_cover), sl_do_cover⟩) (c_do_cover : PySem.W.codeIn K cd_do_cover "do_cover" = true) (k_do_cover : PySem.W.keepIn K (.ref f_do_cover) = true)
    {f_plain_cost : Addr} {od_plain_cost an_plain_cost : Option Addr} {sl_plain_cost : Array (Option Value)} {oc_plain_cost kV_plain_cost dc_plain_cost pm_plain_cost cd_plain_cost ct_plain_cost : Value}
    (a_plain_cost : PySem.W.nsIn K mainGlobals "plain_cost" = some (some (.ref f_plain_cost))) (l_plain_cost : K.lookup f_plain_cost = some ⟨oc_plain_cost, od_plain_cost, .func (PySem.W.fnOf "plain_cost" "plain_cost" (defArgs s_plain_cost) (defBody s_plain_cost) (defScope s_plain_cost) .none kV_plain_cost dc_plain_cost pm_plain_cost an_plain_cost cd_plain_cost ct_plain_cost), sl_plain_cost⟩) (c_plain_cost : PySem.W.codeIn K cd_plain_cost "plain_cost" = true) (k_plain_cost : PySem.W.keepIn K (.ref f_plain_cost) = true)
    {f_floor_of : Addr} {od_floor_of an_floor_of : Option Addr} {sl_floor_of : Array (Option Value)} {oc_floor_of kV_floor_of dc_floor_of pm_floor_of cd_floor_of ct_floor_of : Value}
    (a_floor_of : PySem.W.nsIn K mainGlobals "floor_of" = some (some (.ref f_floor_of))) (l_floor_of : K.lookup f_floor_of = some ⟨oc_floor_of, od_floor_of, .func (PySem.W.fnOf "floor_of" "floor_of" (defArgs s_floor_of) (defBody s_floor_of) (defScope s_floor_of) .none kV_floor_of dc_floor_of pm_floor_of an_floor_of cd_floor_of ct_floor_of), sl_floor_of⟩) (c_floor_of : PySem.W.codeIn K cd_floor_of "floor_of" = true) (k_floor_of : PySem.W.keepIn K (.ref f_floor_of) = true)
    {f_ceiling_of : Addr} {od_ceiling_of an_ceiling_of : Option Addr} {sl_ceiling_of : Array (Option Value)} {oc_ceiling_of kV_ceiling_of dc_ceiling_of pm_ceiling_of cd_ceiling_of ct_ceiling_of : Value}
    (a_ceiling_of : PySem.W.nsIn K mainGlobals "ceiling_of" = some (some (.ref f_ceiling_of))) (l_ceiling_of : K.lookup f_ceiling_of = some ⟨oc_ceiling_of, od_ceiling_of, .func (PySem.W.fnOf "ceiling_of" "ceiling_of" (defArgs s_ceiling_of) (defBody s_ceiling_of) (defScope s_ceiling_of) .none kV_ceiling_of dc_ceiling_of pm_ceiling_of an_ceiling_of cd_ceiling_of ct_ceiling_of), sl_ceiling_of⟩) (c_ceiling_of : PySem.W.codeIn K cd_ceiling_of "ceiling_of" = true) (k_ceiling_of : PySem.W.keepIn K (.ref f_ceiling_of) = true)
    {f_steps_around : Addr} {od_steps_around an_steps_around : Option Addr} {sl_steps_around : Array (Option Value)} {oc_steps_around kV_steps_around dc_steps_around pm_steps_around cd_steps_around ct_steps_around : Value}
    (a_steps_around : PySem.W.nsIn K mainGlobals "steps_around" = some (some (.ref f_steps_around))) (l_steps_around : K.lookup f_steps_around = some ⟨oc_steps_around, od_steps_around, .func (PySem.W.fnOf "steps_around" "steps_around" (defArgs s_steps_around) (defBody s_steps_around) (defScope s_steps_around) .none kV_steps_around dc_steps_around pm_steps_around an_steps_around cd_steps_around ct_steps_around), sl_steps_around⟩) (c_steps_around : PySem.W.codeIn K cd_steps_around "steps_around" = true) (k_steps_around : PySem.W.keepIn K (.ref f_steps_around) = true)
    {f_steps_in_vain : Addr} {od_steps_in_vain an_steps_in_vain : Option Addr} {sl_steps_in_vain : Array (Option Value)} {oc_steps_in_vain kV_steps_in_vain dc_steps_in_vain pm_steps_in_vain cd_steps_in_vain ct_steps_in_vain : Value}
    (a_steps_in_vain : PySem.W.nsIn K mainGlobals "steps_in_vain" = some (some (.ref f_steps_in_vain))) (l_steps_in_vain : K.lookup f_steps_in_vain = some ⟨oc_steps_in_vain, od_steps_in_vain, .func (PySem.W.fnOf "steps_in_vain" "steps_in_vain" (defArgs s_steps_in_vain) (defBody s_steps_in_vain) (defScope s_steps_in_vain) .none kV_steps_in_vain dc_steps_in_vain pm_steps_in_vain an_steps_in_vain cd_steps_in_vain ct_steps_in_vain), sl_steps_in_vain⟩) (c_steps_in_vain : PySem.W.codeIn K cd_steps_in_vain "steps_in_vain" = true) (k_steps_in_vain : PySem.W.keepIn K (.ref f_steps_in_vain) = true)
    {f_fraction_text : Addr} {od_fraction_text an_fraction_text : Option Addr} {sl_fraction_text : Array (Option Value)} {oc_fraction_text kV_fraction_text dc_fraction_text pm_fraction_text cd_fraction_text ct_fraction_text : Value}
    (a_fraction_text : PySem.W.nsIn K mainGlobals "fraction_text" = some (some (.ref f_fraction_text))) (l_fraction_text : K.lookup f_fraction_text = some ⟨oc_fraction_text, od_fraction_text, .func (PySem.W.fnOf "fraction_text" "fraction_text" (defArgs s_fraction_text) (defBody s_fraction_text) (defScope s_fraction_text) .none kV_fraction_text dc_fraction_text pm_fraction_text an_fraction_text cd_fraction_text ct_fraction_text), sl_fraction_text⟩) (c_fraction_text : PySem.W.codeIn K cd_fraction_text "fraction_text" = true) (k_fraction_text : PySem.W.keepIn K (.ref f_fraction_text) = true)
    {f_values_of : Addr} {od_values_of an_values_of : Option Addr} {sl_values_of : Array (Option Value)} {oc_values_of kV_values_of dc_values_of pm_values_of cd_values_of ct_values_of : Value}
    (a_values_of : PySem.W.nsIn K mainGlobals "values_of" = some (some (.ref f_values_of))) (l_values_of : K.lookup f_values_of = some ⟨oc_values_of, od_values_of, .func (PySem.W.fnOf "values_of" "values_of" (defArgs s_values_of) (defBody s_values_of) (defScope s_values_of) .none kV_values_of dc_values_of pm_values_of an_values_of cd_values_of ct_values_of), sl_values_of⟩) (c_values_of : PySem.W.codeIn K cd_values_of "values_of" = true) (k_values_of : PySem.W.keepIn K (.ref f_values_of) = true)
    {f_signs_of : Addr} {od_signs_of an_signs_of : Option Addr} {sl_signs_of : Array (Option Value)} {oc_signs_of kV_signs_of dc_signs_of pm_signs_of cd_signs_of ct_signs_of : Value}
    (a_signs_of : PySem.W.nsIn K mainGlobals "signs_of" = some (some (.ref f_signs_of))) (l_signs_of : K.lookup f_signs_of = some ⟨oc_signs_of, od_signs_of, .func (PySem.W.fnOf "signs_of" "signs_of" (defArgs s_signs_of) (defBody s_signs_of) (defScope s_signs_of) .none kV_signs_of dc_signs_of pm_signs_of an_signs_of cd_signs_of ct_signs_of), sl_signs_of⟩) (c_signs_of : PySem.W.codeIn K cd_signs_of "signs_of" = true) (k_signs_of : PySem.W.keepIn K (.ref f_signs_of) = true)
    {f_whole_cost : Addr} {od_whole_cost an_whole_cost : Option Addr} {sl_whole_cost : Array (Option Value)} {oc_whole_cost kV_whole_cost dc_whole_cost pm_whole_cost cd_whole_cost ct_whole_cost : Value}
    (a_whole_cost : PySem.W.nsIn K mainGlobals "whole_cost" = some (some (.ref f_whole_cost))) (l_whole_cost : K.lookup f_whole_cost = some ⟨oc_whole_cost, od_whole_cost, .func (PySem.W.fnOf "whole_cost" "whole_cost" (defArgs s_whole_cost) (defBody s_whole_cost) (defScope s_whole_cost) .none kV_whole_cost dc_whole_cost pm_whole_cost an_whole_cost cd_whole_cost ct_whole_cost), sl_whole_cost⟩) (c_whole_cost : PySem.W.codeIn K cd_whole_cost "whole_cost" = true) (k_whole_cost : PySem.W.keepIn K (.ref f_whole_cost) = true)
    {f_ticks_cost : Addr} {od_ticks_cost an_ticks_cost : Option Addr} {sl_ticks_cost : Array (Option Value)} {oc_ticks_cost kV_ticks_cost dc_ticks_cost pm_ticks_cost cd_ticks_cost ct_ticks_cost : Value}
    (a_ticks_cost : PySem.W.nsIn K mainGlobals "ticks_cost" = some (some (.ref f_ticks_cost))) (l_ticks_cost : K.lookup f_ticks_cost = some ⟨oc_ticks_cost, od_ticks_cost, .func (PySem.W.fnOf "ticks_cost" "ticks_cost" (defArgs s_ticks_cost) (defBody s_ticks_cost) (defScope s_ticks_cost) .none kV_ticks_cost dc_ticks_cost pm_ticks_cost an_ticks_cost cd_ticks_cost ct_ticks_cost), sl_ticks_cost⟩) (c_ticks_cost : PySem.W.codeIn K cd_ticks_cost "ticks_cost" = true) (k_ticks_cost : PySem.W.keepIn K (.ref f_ticks_cost) = true)
    {f__law_take : Addr} {od__law_take an__law_take : Option Addr} {sl__law_take : Array (Option Value)} {oc__law_take kV__law_take dc__law_take pm__law_take cd__law_take ct__law_take : Value}
    (a__law_take : PySem.W.nsIn K mainGlobals "_law_take" = some (some (.ref f__law_take))) (l__law_take : K.lookup f__law_take = some ⟨oc__law_take, od__law_take, .func (PySem.W.fnOf "_law_take" "_law_take" (defArgs s__law_take) (defBody s__law_take) (defScope s__law_take) .none kV__law_take dc__law_take pm__law_take an__law_take cd__law_take ct__law_take), sl__law_take⟩) (c__law_take : PySem.W.codeIn K cd__law_take "_law_take" = true) (k__law_take : PySem.W.keepIn K (.ref f__law_take) = true)
    {f__law_of : Addr} {od__law_of an__law_of : Option Addr} {sl__law_of : Array (Option Value)} {oc__law_of kV__law_of dc__law_of pm__law_of cd__law_of ct__law_of : Value}
    (a__law_of : PySem.W.nsIn K mainGlobals "_law_of" = some (some (.ref f__law_of))) (l__law_of : K.lookup f__law_of = some ⟨oc__law_of, od__law_of, .func (PySem.W.fnOf "_law_of" "_law_of" (defArgs s__law_of) (defBody s__law_of) (defScope s__law_of) .none kV__law_of dc__law_of pm__law_of an__law_of cd__law_of ct__law_of), sl__law_of⟩) (c__law_of : PySem.W.codeIn K cd__law_of "_law_of" = true) (k__law_of : PySem.W.keepIn K (.ref f__law_of) = true)
    {f__law_odd : Addr} {od__law_odd an__law_odd : Option Addr} {sl__law_odd : Array (Option Value)} {oc__law_odd kV__law_odd dc__law_odd pm__law_odd cd__law_odd ct__law_odd : Value}
    (a__law_odd : PySem.W.nsIn K mainGlobals "_law_odd" = some (some (.ref f__law_odd))) (l__law_odd : K.lookup f__law_odd = some ⟨oc__law_odd, od__law_odd, .func (PySem.W.fnOf "_law_odd" "_law_odd" (defArgs s__law_odd) (defBody s__law_odd) (defScope s__law_odd) .none kV__law_odd dc__law_odd pm__law_odd an__law_odd cd__law_odd ct__law_odd), sl__law_odd⟩) (c__law_odd : PySem.W.codeIn K cd__law_odd "_law_odd" = true) (k__law_odd : PySem.W.keepIn K (.ref f__law_odd) = true)
    {f__law_is_int : Addr} {od__law_is_int an__law_is_int : Option Addr} {sl__law_is_int : Array (Option Value)} {oc__law_is_int kV__law_is_int dc__law_is_int pm__law_is_int cd__law_is_int ct__law_is_int : Value}
    (a__law_is_int : PySem.W.nsIn K mainGlobals "_law_is_int" = some (some (.ref f__law_is_int))) (l__law_is_int : K.lookup f__law_is_int = some ⟨oc__law_is_int, od__law_is_int, .func (PySem.W.fnOf "_law_is_int" "_law_is_int" (defArgs s__law_is_int) (defBody s__law_is_int) (defScope s__law_is_int) .none kV__law_is_int dc__law_is_int pm__law_is_int an__law_is_int cd__law_is_int ct__law_is_int), sl__law_is_int⟩) (c__law_is_int : PySem.W.codeIn K cd__law_is_int "_law_is_int" = true) (k__law_is_int : PySem.W.keepIn K (.ref f__law_is_int) = true)
    {f__law_is_fraction : Addr} {od__law_is_fraction an__law_is_fraction : Option Addr} {sl__law_is_fraction : Array (Option Value)} {oc__law_is_fraction kV__law_is_fraction dc__law_is_fraction pm__law_is_fraction cd__law_is_fraction ct__law_is_fraction : Value}
    (a__law_is_fraction : PySem.W.nsIn K mainGlobals "_law_is_fraction" = some (some (.ref f__law_is_fraction))) (l__law_is_fraction : K.lookup f__law_is_fraction = some ⟨oc__law_is_fraction, od__law_is_fraction, .func (PySem.W.fnOf "_law_is_fraction" "_law_is_fraction" (defArgs s__law_is_fraction) (defBody s__law_is_fraction) (defScope s__law_is_fraction) .none kV__law_is_fraction dc__law_is_fraction pm__law_is_fraction an__law_is_fraction cd__law_is_fraction ct__law_is_fraction), sl__law_is_fraction⟩) (c__law_is_fraction : PySem.W.codeIn K cd__law_is_fraction "_law_is_fraction" = true) (k__law_is_fraction : PySem.W.keepIn K (.ref f__law_is_fraction) = true)
    {f__law_are_ticks : Addr} {od__law_are_ticks an__law_are_ticks : Option Addr} {sl__law_are_ticks : Array (Option Value)} {oc__law_are_ticks kV__law_are_ticks dc__law_are_ticks pm__law_are_ticks cd__law_are_ticks ct__law_are_ticks : Value}
    (a__law_are_ticks : PySem.W.nsIn K mainGlobals "_law_are_ticks" = some (some (.ref f__law_are_ticks))) (l__law_are_ticks : K.lookup f__law_are_ticks = some ⟨oc__law_are_ticks, od__law_are_ticks, .func (PySem.W.fnOf "_law_are_ticks" "_law_are_ticks" (defArgs s__law_are_ticks) (defBody s__law_are_ticks) (defScope s__law_are_ticks) .none kV__law_are_ticks dc__law_are_ticks pm__law_are_ticks an__law_are_ticks cd__law_are_ticks ct__law_are_ticks), sl__law_are_ticks⟩) (c__law_are_ticks : PySem.W.codeIn K cd__law_are_ticks "_law_are_ticks" = true) (k__law_are_ticks : PySem.W.keepIn K (.ref f__law_are_ticks) = true)
    {f__law_heard : Addr} {od__law_heard an__law_heard : Option Addr} {sl__law_heard : Array (Option Value)} {oc__law_heard kV__law_heard dc__law_heard pm__law_heard cd__law_heard ct__law_heard : Value}
    (a__law_heard : PySem.W.nsIn K mainGlobals "_law_heard" = some (some (.ref f__law_heard))) (l__law_heard : K.lookup f__law_heard = some ⟨oc__law_heard, od__law_heard, .func (PySem.W.fnOf "_law_heard" "_law_heard" (defArgs s__law_heard) (defBody s__law_heard) (defScope s__law_heard) .none kV__law_heard dc__law_heard pm__law_heard an__law_heard cd__law_heard ct__law_heard), sl__law_heard⟩) (c__law_heard : PySem.W.codeIn K cd__law_heard "_law_heard" = true) (k__law_heard : PySem.W.keepIn K (.ref f__law_heard) = true)
    {f__law_are_refused : Addr} {od__law_are_refused an__law_are_refused : Option Addr} {sl__law_are_refused : Array (Option Value)} {oc__law_are_refused kV__law_are_refused dc__law_are_refused pm__law_are_refused cd__law_are_refused ct__law_are_refused : Value}
    (a__law_are_refused : PySem.W.nsIn K mainGlobals "_law_are_refused" = some (some (.ref f__law_are_refused))) (l__law_are_refused : K.lookup f__law_are_refused = some ⟨oc__law_are_refused, od__law_are_refused, .func (PySem.W.fnOf "_law_are_refused" "_law_are_refused" (defArgs s__law_are_refused) (defBody s__law_are_refused) (defScope s__law_are_refused) .none kV__law_are_refused dc__law_are_refused pm__law_are_refused an__law_are_refused cd__law_are_refused ct__law_are_refused), sl__law_are_refused⟩) (c__law_are_refused : PySem.W.codeIn K cd__law_are_refused "_law_are_refused" = true) (k__law_are_refused : PySem.W.keepIn K (.ref f__law_are_refused) = true)
    (hc__law_are_refused : cd__law_are_refused = .ref 447)
    {f__law_ticks : Addr} {od__law_ticks an__law_ticks : Option Addr} {sl__law_ticks : Array (Option Value)} {oc__law_ticks kV__law_ticks dc__law_ticks pm__law_ticks cd__law_ticks ct__law_ticks : Value}
    (a__law_ticks : PySem.W.nsIn K mainGlobals "_law_ticks" = some (some (.ref f__law_ticks))) (l__law_ticks : K.lookup f__law_ticks = some ⟨oc__law_ticks, od__law_ticks, .func (PySem.W.fnOf "_law_ticks" "_law_ticks" (defArgs s__law_ticks) (defBody s__law_ticks) (defScope s__law_ticks) .none kV__law_ticks dc__law_ticks pm__law_ticks an__law_ticks cd__law_ticks ct__law_ticks), sl__law_ticks⟩) (c__law_ticks : PySem.W.codeIn K cd__law_ticks "_law_ticks" = true) (k__law_ticks : PySem.W.keepIn K (.ref f__law_ticks) = true)
    {f__law_wishes : Addr} {od__law_wishes an__law_wishes : Option Addr} {sl__law_wishes : Array (Option Value)} {oc__law_wishes kV__law_wishes dc__law_wishes pm__law_wishes cd__law_wishes ct__law_wishes : Value}
    (a__law_wishes : PySem.W.nsIn K mainGlobals "_law_wishes" = some (some (.ref f__law_wishes))) (l__law_wishes : K.lookup f__law_wishes = some ⟨oc__law_wishes, od__law_wishes, .func (PySem.W.fnOf "_law_wishes" "_law_wishes" (defArgs s__law_wishes) (defBody s__law_wishes) (defScope s__law_wishes) .none kV__law_wishes dc__law_wishes pm__law_wishes an__law_wishes cd__law_wishes ct__law_wishes), sl__law_wishes⟩) (c__law_wishes : PySem.W.codeIn K cd__law_wishes "_law_wishes" = true) (k__law_wishes : PySem.W.keepIn K (.ref f__law_wishes) = true)
    {f__law_right : Addr} {od__law_right an__law_right : Option Addr} {sl__law_right : Array (Option Value)} {oc__law_right kV__law_right dc__law_right pm__law_right cd__law_right ct__law_right : Value}
    (a__law_right : PySem.W.nsIn K mainGlobals "_law_right" = some (some (.ref f__law_right))) (l__law_right : K.lookup f__law_right = some ⟨oc__law_right, od__law_right, .func (PySem.W.fnOf "_law_right" "_law_right" (defArgs s__law_right) (defBody s__law_right) (defScope s__law_right) .none kV__law_right dc__law_right pm__law_right an__law_right cd__law_right ct__law_right), sl__law_right⟩) (c__law_right : PySem.W.codeIn K cd__law_right "_law_right" = true) (k__law_right : PySem.W.keepIn K (.ref f__law_right) = true)
    {f_law : Addr} {od_law an_law : Option Addr} {sl_law : Array (Option Value)} {oc_law kV_law dc_law pm_law cd_law ct_law : Value}
    (a_law : PySem.W.nsIn K mainGlobals "law" = some (some (.ref f_law))) (l_law : K.lookup f_law = some ⟨oc_law, od_law, .func (PySem.W.fnOf "law" "law" (defArgs s_law) (defBody s_law) (defScope s_law) .none kV_law dc_law pm_law an_law cd_law ct_law), sl_law⟩) (c_law : PySem.W.codeIn K cd_law "law" = true) (k_law : PySem.W.keepIn K (.ref f_law) = true)
    (z_max : PySem.W.nsIn K mainGlobals "max" = some none)
    (z_min : PySem.W.nsIn K mainGlobals "min" = some none)
    (z_len : PySem.W.nsIn K mainGlobals "len" = some none)
    (z_list : PySem.W.nsIn K mainGlobals "list" = some none)
    (z_range : PySem.W.nsIn K mainGlobals "range" = some none)
    (z_sum : PySem.W.nsIn K mainGlobals "sum" = some none)
    (z_int : PySem.W.nsIn K mainGlobals "int" = some none)
    (z_abs : PySem.W.nsIn K mainGlobals "abs" = some none)
    (z_str : PySem.W.nsIn K mainGlobals "str" = some none)
    (z_isinstance : PySem.W.nsIn K mainGlobals "isinstance" = some none)
    (z_bool : PySem.W.nsIn K mainGlobals "bool" = some none)
    (z_all : PySem.W.nsIn K mainGlobals "all" = some none)
    (z_tuple : PySem.W.nsIn K mainGlobals "tuple" = some none)
    (z_repr : PySem.W.nsIn K mainGlobals "repr" = some none)
    (z_super : PySem.W.nsIn K mainGlobals "super" = some none)
    (z_gcd : PySem.W.nsIn K mainGlobals "gcd" = some (some (.builtin "math.gcd")))
    {t_BEYOND_TICKS_1 : Tok}
    (z_BEYOND_TICKS : PySem.W.nsIn K mainGlobals "BEYOND_TICKS" = some (some (.int 100000000000000000000000000000000000000000000000000000000000000000000000000000000000000000000000000000000000000000000000000000000000000000000000000000000000000000000000000000000000000000000000000000000000000000000000000000000000000000000000000000000000000000000000000000000000000000000000000000000000000000000000000000000000000000000000000000000000000000000000000000000000000000000000000000000000000000000000000000000000000000000000000000000000000000000000000000000000000000000000000000000000000000000000000000000000000000000000000000000000000000000000000000000000000000000000000000000000000000000000000000000000000000000000000000000000000000000000000000000000000000000000000000000000000000000000000000000000000000000000000000000000000000000000000000000000000000000000000000000000000000000000000000000000000000000000000000000000000000000000000000000000000000000000000000000000000000000000000000000000000000000000000000000000000000000000000000000000000000000000000000000000000000000000000000000000000000000000000000000000000000000000000000000000000000000000000000000000000000000000000000000000000000000000000000000000000000000000000000000000000000000000000000000000000000000000000000000000000000000000000000000000000000000000000000000000000000000000000000000000000000000000000000000000000000000000000000000000000000000000000000000000000000000000000000000000000000000000000000000000000000000000000000000000000000000000000000000000000000000000000000000000000000000000000000000000000000000000000000000000000000000000000000000000000000000000000000000000000000000000000000000000000000000000000000000000000000000000000000000000000000000000000000000000000000000000000000000000000000000000000000000000000000000000000000000000000000000000000000000000000000000000000000000000000000000000000000000000000000000000000000000000000000000000000000000000000000000000000000000000000000000000000000000000000000000000000000000000000000000000000000000000000000000000000000000000000000000000000000000000000000000000000000000 t_BEYOND_TICKS_1)))
    {t_DIGITS_2 : Tok}
    {t_DIGITS_3 : Tok}
    {t_DIGITS_4 : Tok}
    {T_DIGITS_1 : Addr} {nT_DIGITS_1 : Nat} {sT_DIGITS_1 : Array (Option Value)} (lc_DIGITS_1 : K.lookup T_DIGITS_1 = some ⟨.type "tuple", none, .seq #[(.int 1 t_DIGITS_2), (.int 2 t_DIGITS_3), (.int 5 t_DIGITS_4)] nT_DIGITS_1, sT_DIGITS_1⟩)
    (z_DIGITS : PySem.W.nsIn K mainGlobals "DIGITS" = some (some (.ref T_DIGITS_1)))
    {t_FEWEST_1 : Tok}
    (z_FEWEST : PySem.W.nsIn K mainGlobals "FEWEST" = some (some (.int 2 t_FEWEST_1)))
    {t_MOST_TICKS_1 : Tok}
    (z_MOST_TICKS : PySem.W.nsIn K mainGlobals "MOST_TICKS" = some (some (.int 12 t_MOST_TICKS_1)))
    {t_BEYOND_1 : Tok}
    (z_BEYOND : PySem.W.nsIn K mainGlobals "BEYOND" = some (some (.int 1000000000000000000000000000000000000000000000000000000000000000000000000000000000000000000000000000000000000000000000000000000000000000000000000000000000000000000000000000000000000000000000000000000000000000000000000000000000000000000000000000000000000000000000000000000000000000000000000000000000000 t_BEYOND_1)))
    {t_LEAST_WISH_1 : Tok}
    (z_LEAST_WISH : PySem.W.nsIn K mainGlobals "LEAST_WISH" = some (some (.int 2 t_LEAST_WISH_1)))
    {t_MOST_WISH_1 : Tok}
    (z_MOST_WISH : PySem.W.nsIn K mainGlobals "MOST_WISH" = some (some (.int 10 t_MOST_WISH_1)))
    {t_MOST_WEIGHT_1 : Tok}
    (z_MOST_WEIGHT : PySem.W.nsIn K mainGlobals "MOST_WEIGHT" = some (some (.int 1000000 t_MOST_WEIGHT_1)))
    {t_STROKE_1 : Tok}
    (z_STROKE : PySem.W.nsIn K mainGlobals "STROKE" = some (some (.str "/" t_STROKE_1)))
    (z_PictureError : PySem.W.nsIn K mainGlobals "PictureError" = some (some (.ref 61)))
    (z_BadTicks : PySem.W.nsIn K mainGlobals "BadTicks" = some (some (.ref 86)))
    (z_BadRange : PySem.W.nsIn K mainGlobals "BadRange" = some (some (.ref 98)))
    (z_BadWishes : PySem.W.nsIn K mainGlobals "BadWishes" = some (some (.ref 74)))
    {fI cdaI ccI : Addr} {odI anI odC odL : Option Addr} {slI slC slL : Array (Option Value)} {ocI kVI dcI pmI ctI ocC ocL : Value} {quI : Str} {cvs : Array Value} {fileI : Str} {tfI : Tok} {cdR : ClassData}
    {nm_BadRange qq_BadRange : Str} {NN_BadRange : Addr} {bs_BadRange bm_BadRange sub_BadRange : List Value} {sn_BadRange : List Str} {ab_BadRange : Bool} {col_BadRange : Option Bool} {dd_BadRange : Option Addr} {k0_BadRange k1_BadRange k2_BadRange k3_BadRange k5_BadRange : Option Value}
    (iC_BadRange : PySem.W.findIn K (.ref 98) "__init__" = some (some (.ref fI)))
    (q1_BadRange : PySem.W.mroIn K 98 (.ref 61) = some true)
    (q2_BadRange : PySem.W.ks_superIn K 98 61 "__init__" = some (some (.builtin "ValueError.__init__")))
    (q3_BadRange : PySem.W.subIn K (.ref 98) (.type "ValueError") = some true)
    (q4_BadRange : PySem.W.findIn K (.ref 98) "value" = some none)
    (q5_BadRange : K.lookup 98 = some (excClassObj nm_BadRange qq_BadRange 98 NN_BadRange bs_BadRange bm_BadRange true sn_BadRange sub_BadRange ab_BadRange col_BadRange dd_BadRange k0_BadRange k1_BadRange k2_BadRange k3_BadRange k5_BadRange "ValueError.__new__"))
    (q6_BadRange : PySem.HandSPX.refsVE bm_BadRange = true)
    (q7_BadRange : PySem.W.findIn K (.ref 98) "__setattr__" = some (some (.builtin "object.__setattr__")))
    (q8_BadRange : PySem.W.subIn K (.ref 98) (.type "BaseException") = some true)
    (q9_BadRange : PySem.W.typeIn K (.ref 98) = some (.type "type"))
    (qa_BadRange : PySem.W.keepIn K (.ref 98) = true)
    (e1_BadRange : (PySem.W.clsIn K 98).isSome = true)
    (e2_BadRange : PySem.W.findIn K (.ref 98) "__getattribute__" = some (some (.builtin "BaseException.__getattribute__")))
    (e3_BadRange : PySem.W.findIn K (.ref 98) "__getattr__" = some none)
    (e4_BadRange : PySem.W.hasDictIn K 98 = true)
    (e5_BadRange : PySem.W.findIn K (.ref 98) "__class__" = some (some (.builtin "object.__class__")))
    (e6_BadRange : PySem.W.specialIn K (.builtin "object.__class__") "__get__" = some (some (.builtin "getset_descriptor.__get__")))
    (e7_BadRange : PySem.W.takesIn K (.builtin "object.__class__") = some true)
    (e8_BadRange : PySem.W.mroIn K 98 (.type "object") = some true)
    (t0_BadRange : PySem.W.kitOne K (.ref 98) (.type "NoneType") = some false)
    (t1_BadRange : PySem.W.kitOne K (.ref 98) (.type "bool") = some false)
    (t2_BadRange : PySem.W.kitOne K (.ref 98) (.type "int") = some false)
    (t3_BadRange : PySem.W.kitOne K (.ref 98) (.type "str") = some false)
    (t4_BadRange : PySem.W.kitOne K (.ref 98) (.type "list") = some false)
    (t5_BadRange : PySem.W.kitOne K (.ref 98) (.type "tuple") = some false)
    (t6_BadRange : PySem.W.kitOne K (.ref 98) (.type "dict") = some false)
    (x_PictureError_BadRange : PySem.W.exmOne K (.ref 98) (.ref 61) = some true)
    (y_BadRange_BadRange : PySem.W.kitOne K (.ref 98) (.ref 98) = some true)
    (y_BadTicks_BadRange : PySem.W.kitOne K (.ref 98) (.ref 86) = some false)
    (y_BadWishes_BadRange : PySem.W.kitOne K (.ref 98) (.ref 74) = some false)
    {nm_BadTicks qq_BadTicks : Str} {NN_BadTicks : Addr} {bs_BadTicks bm_BadTicks sub_BadTicks : List Value} {sn_BadTicks : List Str} {ab_BadTicks : Bool} {col_BadTicks : Option Bool} {dd_BadTicks : Option Addr} {k0_BadTicks k1_BadTicks k2_BadTicks k3_BadTicks k5_BadTicks : Option Value}
    (iC_BadTicks : PySem.W.findIn K (.ref 86) "__init__" = some (some (.ref fI)))
    (q1_BadTicks : PySem.W.mroIn K 86 (.ref 61) = some true)
    (q2_BadTicks : PySem.W.ks_superIn K 86 61 "__init__" = some (some (.builtin "ValueError.__init__")))
    (q3_BadTicks : PySem.W.subIn K (.ref 86) (.type "ValueError") = some true)
    (q4_BadTicks : PySem.W.findIn K (.ref 86) "value" = some none)
    (q5_BadTicks : K.lookup 86 = some (excClassObj nm_BadTicks qq_BadTicks 86 NN_BadTicks bs_BadTicks bm_BadTicks true sn_BadTicks sub_BadTicks ab_BadTicks col_BadTicks dd_BadTicks k0_BadTicks k1_BadTicks k2_BadTicks k3_BadTicks k5_BadTicks "ValueError.__new__"))
    (q6_BadTicks : PySem.HandSPX.refsVE bm_BadTicks = true)
    (q7_BadTicks : PySem.W.findIn K (.ref 86) "__setattr__" = some (some (.builtin "object.__setattr__")))
    (q8_BadTicks : PySem.W.subIn K (.ref 86) (.type "BaseException") = some true)
    (q9_BadTicks : PySem.W.typeIn K (.ref 86) = some (.type "type"))
    (qa_BadTicks : PySem.W.keepIn K (.ref 86) = true)
    (e1_BadTicks : (PySem.W.clsIn K 86).isSome = true)
    (e2_BadTicks : PySem.W.findIn K (.ref 86) "__getattribute__" = some (some (.builtin "BaseException.__getattribute__")))
    (e3_BadTicks : PySem.W.findIn K (.ref 86) "__getattr__" = some none)
    (e4_BadTicks : PySem.W.hasDictIn K 86 = true)
    (e5_BadTicks : PySem.W.findIn K (.ref 86) "__class__" = some (some (.builtin "object.__class__")))
    (e6_BadTicks : PySem.W.specialIn K (.builtin "object.__class__") "__get__" = some (some (.builtin "getset_descriptor.__get__")))
    (e7_BadTicks : PySem.W.takesIn K (.builtin "object.__class__") = some true)
    (e8_BadTicks : PySem.W.mroIn K 86 (.type "object") = some true)
    (t0_BadTicks : PySem.W.kitOne K (.ref 86) (.type "NoneType") = some false)
    (t1_BadTicks : PySem.W.kitOne K (.ref 86) (.type "bool") = some false)
    (t2_BadTicks : PySem.W.kitOne K (.ref 86) (.type "int") = some false)
    (t3_BadTicks : PySem.W.kitOne K (.ref 86) (.type "str") = some false)
    (t4_BadTicks : PySem.W.kitOne K (.ref 86) (.type "list") = some false)
    (t5_BadTicks : PySem.W.kitOne K (.ref 86) (.type "tuple") = some false)
    (t6_BadTicks : PySem.W.kitOne K (.ref 86) (.type "dict") = some false)
    (x_PictureError_BadTicks : PySem.W.exmOne K (.ref 86) (.ref 61) = some true)
    (y_BadRange_BadTicks : PySem.W.kitOne K (.ref 86) (.ref 98) = some false)
    (y_BadTicks_BadTicks : PySem.W.kitOne K (.ref 86) (.ref 86) = some true)
    (y_BadWishes_BadTicks : PySem.W.kitOne K (.ref 86) (.ref 74) = some false)
    {nm_BadWishes qq_BadWishes : Str} {NN_BadWishes : Addr} {bs_BadWishes bm_BadWishes sub_BadWishes : List Value} {sn_BadWishes : List Str} {ab_BadWishes : Bool} {col_BadWishes : Option Bool} {dd_BadWishes : Option Addr} {k0_BadWishes k1_BadWishes k2_BadWishes k3_BadWishes k5_BadWishes : Option Value}
    (iC_BadWishes : PySem.W.findIn K (.ref 74) "__init__" = some (some (.ref fI)))
    (q1_BadWishes : PySem.W.mroIn K 74 (.ref 61) = some true)
    (q2_BadWishes : PySem.W.ks_superIn K 74 61 "__init__" = some (some (.builtin "ValueError.__init__")))
    (q3_BadWishes : PySem.W.subIn K (.ref 74) (.type "ValueError") = some true)
    (q4_BadWishes : PySem.W.findIn K (.ref 74) "value" = some none)
    (q5_BadWishes : K.lookup 74 = some (excClassObj nm_BadWishes qq_BadWishes 74 NN_BadWishes bs_BadWishes bm_BadWishes true sn_BadWishes sub_BadWishes ab_BadWishes col_BadWishes dd_BadWishes k0_BadWishes k1_BadWishes k2_BadWishes k3_BadWishes k5_BadWishes "ValueError.__new__"))
    (q6_BadWishes : PySem.HandSPX.refsVE bm_BadWishes = true)
    (q7_BadWishes : PySem.W.findIn K (.ref 74) "__setattr__" = some (some (.builtin "object.__setattr__")))
    (q8_BadWishes : PySem.W.subIn K (.ref 74) (.type "BaseException") = some true)
    (q9_BadWishes : PySem.W.typeIn K (.ref 74) = some (.type "type"))
    (qa_BadWishes : PySem.W.keepIn K (.ref 74) = true)
    (e1_BadWishes : (PySem.W.clsIn K 74).isSome = true)
    (e2_BadWishes : PySem.W.findIn K (.ref 74) "__getattribute__" = some (some (.builtin "BaseException.__getattribute__")))
    (e3_BadWishes : PySem.W.findIn K (.ref 74) "__getattr__" = some none)
    (e4_BadWishes : PySem.W.hasDictIn K 74 = true)
    (e5_BadWishes : PySem.W.findIn K (.ref 74) "__class__" = some (some (.builtin "object.__class__")))
    (e6_BadWishes : PySem.W.specialIn K (.builtin "object.__class__") "__get__" = some (some (.builtin "getset_descriptor.__get__")))
    (e7_BadWishes : PySem.W.takesIn K (.builtin "object.__class__") = some true)
    (e8_BadWishes : PySem.W.mroIn K 74 (.type "object") = some true)
    (t0_BadWishes : PySem.W.kitOne K (.ref 74) (.type "NoneType") = some false)
    (t1_BadWishes : PySem.W.kitOne K (.ref 74) (.type "bool") = some false)
    (t2_BadWishes : PySem.W.kitOne K (.ref 74) (.type "int") = some false)
    (t3_BadWishes : PySem.W.kitOne K (.ref 74) (.type "str") = some false)
    (t4_BadWishes : PySem.W.kitOne K (.ref 74) (.type "list") = some false)
    (t5_BadWishes : PySem.W.kitOne K (.ref 74) (.type "tuple") = some false)
    (t6_BadWishes : PySem.W.kitOne K (.ref 74) (.type "dict") = some false)
    (x_PictureError_BadWishes : PySem.W.exmOne K (.ref 74) (.ref 61) = some true)
    (y_BadRange_BadWishes : PySem.W.kitOne K (.ref 74) (.ref 98) = some false)
    (y_BadTicks_BadWishes : PySem.W.kitOne K (.ref 74) (.ref 86) = some false)
    (y_BadWishes_BadWishes : PySem.W.kitOne K (.ref 74) (.ref 74) = some true)
    (lI : K.lookup fI = some ⟨ocI, odI, .func (PySem.W.ksFn "__init__" quI (defArgs (stN (stB (topS 2)) 0)) (defBody (stN (stB (topS 2)) 0)) (defScope (stN (stB (topS 2)) 0)) .none kVI dcI pmI anI (.ref cdaI) ctI ccI), slI⟩)
    (tI : PySem.W.typeIn K (.ref fI) = some (.type "function"))
    (w1 : K.lookup cdaI = some ⟨ocC, odC, .fields cvs, slC⟩)
    (w2 : cvs[2]? = some (.str fileI tfI))
    (w3 : ((l.prog.main.file : Str) == fileI) = true)
    (w4 : K.lookup ccI = some ⟨ocL, odL, .cell (some (.ref 61)), slL⟩)
    (w5 : PySem.W.clsIn K 61 = some cdR)
    (w6 : PySem.W.nsIn K cStatics "thirdparty.any" = some none)
    (w7 : (l.prog.main.scope.names.lookup ("super" : Str)).isSome = false)
    (w8 : PySem.W.codeIn K (.ref cdaI) quI = true) :
    ∃ fd : FuncData, (∀ (s : Shared) (v : Value), BindsTo s fd ⟨[v], []⟩ [("script", v)]) ∧ ∀ base : Heap, K.In base → base.Ns mainGlobals mg → (∀ p ∈ ([(447, 445)] : List (Addr × Addr)), LamX.TabB base mg p.1 p.2) → FnD l.prog w K mg base 12 fa fd ["script"] F_law 0 := by
  have mc_PictureError : mg "PictureError" = some (.ref C_PictureError) := PySem.W.mg_of X G z_PictureError
  have mc_BadTicks : mg "BadTicks" = some (.ref C_BadTicks) := PySem.W.mg_of X G z_BadTicks
  have mc_BadRange : mg "BadRange" = some (.ref C_BadRange) := PySem.W.mg_of X G z_BadRange
  have mc_BadWishes : mg "BadWishes" = some (.ref C_BadWishes) := PySem.W.mg_of X G z_BadWishes
  have IC_BadRange : InitC K C_PictureError C_BadRange := ⟨q1_BadRange, q2_BadRange, q3_BadRange, q4_BadRange, ⟨⟨_, _, _, _, _, _, _, _, _, _, _, _, _, _, _, q5_BadRange, q6_BadRange⟩, q7_BadRange, q8_BadRange, q9_BadRange, qa_BadRange⟩⟩
  have EK_BadRange : ExcK K C_BadRange := ⟨e1_BadRange, e2_BadRange, e3_BadRange, e4_BadRange, q8_BadRange, e5_BadRange, e6_BadRange, e7_BadRange, e8_BadRange, fun T hT => by
    simp only [List.mem_cons, List.mem_nil_iff, or_false] at hT
    rcases hT with rfl | rfl | rfl | rfl | rfl | rfl | rfl
    · exact t0_BadRange
    · exact t1_BadRange
    · exact t2_BadRange
    · exact t3_BadRange
    · exact t4_BadRange
    · exact t5_BadRange
    · exact t6_BadRange, q4_BadRange⟩
  have IC_BadTicks : InitC K C_PictureError C_BadTicks := ⟨q1_BadTicks, q2_BadTicks, q3_BadTicks, q4_BadTicks, ⟨⟨_, _, _, _, _, _, _, _, _, _, _, _, _, _, _, q5_BadTicks, q6_BadTicks⟩, q7_BadTicks, q8_BadTicks, q9_BadTicks, qa_BadTicks⟩⟩
  have EK_BadTicks : ExcK K C_BadTicks := ⟨e1_BadTicks, e2_BadTicks, e3_BadTicks, e4_BadTicks, q8_BadTicks, e5_BadTicks, e6_BadTicks, e7_BadTicks, e8_BadTicks, fun T hT => by
    simp only [List.mem_cons, List.mem_nil_iff, or_false] at hT
    rcases hT with rfl | rfl | rfl | rfl | rfl | rfl | rfl
    · exact t0_BadTicks
    · exact t1_BadTicks
    · exact t2_BadTicks
    · exact t3_BadTicks
    · exact t4_BadTicks
    · exact t5_BadTicks
    · exact t6_BadTicks, q4_BadTicks⟩
  have IC_BadWishes : InitC K C_PictureError C_BadWishes := ⟨q1_BadWishes, q2_BadWishes, q3_BadWishes, q4_BadWishes, ⟨⟨_, _, _, _, _, _, _, _, _, _, _, _, _, _, _, q5_BadWishes, q6_BadWishes⟩, q7_BadWishes, q8_BadWishes, q9_BadWishes, qa_BadWishes⟩⟩
  have EK_BadWishes : ExcK K C_BadWishes := ⟨e1_BadWishes, e2_BadWishes, e3_BadWishes, e4_BadWishes, q8_BadWishes, e5_BadWishes, e6_BadWishes, e7_BadWishes, e8_BadWishes, fun T hT => by
    simp only [List.mem_cons, List.mem_nil_iff, or_false] at hT
    rcases hT with rfl | rfl | rfl | rfl | rfl | rfl | rfl
    · exact t0_BadWishes
    · exact t1_BadWishes
    · exact t2_BadWishes
    · exact t3_BadWishes
    · exact t4_BadWishes
    · exact t5_BadWishes
    · exact t6_BadWishes, q4_BadWishes⟩
  have mx_PictureError : MOk K m_PictureError (.ref C_PictureError) := fun cls b h => by
    unfold m_PictureError at h
    split at h
    · cases h
      exact x_PictureError_BadRange
    · cases h
      exact x_PictureError_BadTicks
    · cases h
      exact x_PictureError_BadWishes
    · cases h
  have mis_BadRange : MIs K mi_BadRange (.ref C_BadRange) := fun cls b h => by
    unfold mi_BadRange at h
    split at h
    · cases h
      exact y_BadRange_BadRange
    · cases h
      exact y_BadRange_BadTicks
    · cases h
      exact y_BadRange_BadWishes
    · cases h
  have mis_BadTicks : MIs K mi_BadTicks (.ref C_BadTicks) := fun cls b h => by
    unfold mi_BadTicks at h
    split at h
    · cases h
      exact y_BadTicks_BadRange
    · cases h
      exact y_BadTicks_BadTicks
    · cases h
      exact y_BadTicks_BadWishes
    · cases h
  have mis_BadWishes : MIs K mi_BadWishes (.ref C_BadWishes) := fun cls b h => by
    unfold mi_BadWishes at h
    split at h
    · cases h
      exact y_BadWishes_BadRange
    · cases h
      exact y_BadWishes_BadTicks
    · cases h
      exact y_BadWishes_BadWishes
    · cases h
  have b__law_common_2 : BindG K (PySem.W.fnOf "_law_common" "_law_common" (defArgs s__law_common) (defBody s__law_common) (defScope s__law_common) .none kV__law_common dc__law_common pm__law_common an__law_common cd__law_common ct__law_common) ["one", "other"] 2 [] [] := BindG.plain fun us ws h1 h2 => match us, ws, h1, h2 with | [_, _], [], _, _ => rfl
  have b__law_reduced_2 : BindG K (PySem.W.fnOf "_law_reduced" "_law_reduced" (defArgs s__law_reduced) (defBody s__law_reduced) (defScope s__law_reduced) .none kV__law_reduced dc__law_reduced pm__law_reduced an__law_reduced cd__law_reduced ct__law_reduced) ["top", "low"] 2 [] [] := BindG.plain fun us ws h1 h2 => match us, ws, h1, h2 with | [_, _], [], _, _ => rfl
  have b__law_plus_2 : BindG K (PySem.W.fnOf "_law_plus" "_law_plus" (defArgs s__law_plus) (defBody s__law_plus) (defScope s__law_plus) .none kV__law_plus dc__law_plus pm__law_plus an__law_plus cd__law_plus ct__law_plus) ["one", "other"] 2 [] [] := BindG.plain fun us ws h1 h2 => match us, ws, h1, h2 with | [_, _], [], _, _ => rfl
  have b__law_times_2 : BindG K (PySem.W.fnOf "_law_times" "_law_times" (defArgs s__law_times) (defBody s__law_times) (defScope s__law_times) .none kV__law_times dc__law_times pm__law_times an__law_times cd__law_times ct__law_times) ["one", "other"] 2 [] [] := BindG.plain fun us ws h1 h2 => match us, ws, h1, h2 with | [_, _], [], _, _ => rfl
  have b__law_power_1 : BindG K (PySem.W.fnOf "_law_power" "_law_power" (defArgs s__law_power) (defBody s__law_power) (defScope s__law_power) .none kV__law_power dc__law_power pm__law_power an__law_power cd__law_power ct__law_power) ["power"] 1 [] [] := BindG.plain fun us ws h1 h2 => match us, ws, h1, h2 with | [_], [], _, _ => rfl
  have b__law_values_3 : BindG K (PySem.W.fnOf "_law_values" "_law_values" (defArgs s__law_values) (defBody s__law_values) (defScope s__law_values) .none kV__law_values dc__law_values pm__law_values an__law_values cd__law_values ct__law_values) ["first", "step", "many"] 3 [] [] := BindG.plain fun us ws h1 h2 => match us, ws, h1, h2 with | [_, _, _], [], _, _ => rfl
  have b__law_less_2 : BindG K (PySem.W.fnOf "_law_less" "_law_less" (defArgs s__law_less) (defBody s__law_less) (defScope s__law_less) .none kV__law_less dc__law_less pm__law_less an__law_less cd__law_less ct__law_less) ["one", "other"] 2 [] [] := BindG.plain fun us ws h1 h2 => match us, ws, h1, h2 with | [_, _], [], _, _ => rfl
  have b__law_parts_1 : BindG K (PySem.W.fnOf "_law_parts" "_law_parts" (defArgs s__law_parts) (defBody s__law_parts) (defScope s__law_parts) .none kV__law_parts dc__law_parts pm__law_parts an__law_parts cd__law_parts ct__law_parts) ["step"] 1 [] [] := BindG.plain fun us ws h1 h2 => match us, ws, h1, h2 with | [_], [], _, _ => rfl
  have b__law_text_1 : BindG K (PySem.W.fnOf "_law_text" "_law_text" (defArgs s__law_text) (defBody s__law_text) (defScope s__law_text) .none kV__law_text dc__law_text pm__law_text an__law_text cd__law_text ct__law_text) ["one"] 1 [] [] := BindG.plain fun us ws h1 h2 => match us, ws, h1, h2 with | [_], [], _, _ => rfl
  have b_is_integer_1 : BindG K (PySem.W.fnOf "is_integer" "is_integer" (defArgs s_is_integer) (defBody s_is_integer) (defScope s_is_integer) .none kV_is_integer dc_is_integer pm_is_integer an_is_integer cd_is_integer ct_is_integer) ["value"] 1 [] [] := BindG.plain fun us ws h1 h2 => match us, ws, h1, h2 with | [_], [], _, _ => rfl
  have b_common_2 : BindG K (PySem.W.fnOf "common" "common" (defArgs s_common) (defBody s_common) (defScope s_common) .none kV_common dc_common pm_common an_common cd_common ct_common) ["one", "other"] 2 [] [] := BindG.plain fun us ws h1 h2 => match us, ws, h1, h2 with | [_, _], [], _, _ => rfl
  have b_is_fraction_1 : BindG K (PySem.W.fnOf "is_fraction" "is_fraction" (defArgs s_is_fraction) (defBody s_is_fraction) (defScope s_is_fraction) .none kV_is_fraction dc_is_fraction pm_is_fraction an_is_fraction cd_is_fraction ct_is_fraction) ["value"] 1 [] [] := BindG.plain fun us ws h1 h2 => match us, ws, h1, h2 with | [_], [], _, _ => rfl
  have b_without_tens_1 : BindG K (PySem.W.fnOf "without_tens" "without_tens" (defArgs s_without_tens) (defBody s_without_tens) (defScope s_without_tens) .none kV_without_tens dc_without_tens pm_without_tens an_without_tens cd_without_tens ct_without_tens) ["number"] 1 [] [] := BindG.plain fun us ws h1 h2 => match us, ws, h1, h2 with | [_], [], _, _ => rfl
  have b_reduced_2 : BindG K (PySem.W.fnOf "reduced" "reduced" (defArgs s_reduced) (defBody s_reduced) (defScope s_reduced) .none kV_reduced dc_reduced pm_reduced an_reduced cd_reduced ct_reduced) ["top", "low"] 2 [] [] := BindG.plain fun us ws h1 h2 => match us, ws, h1, h2 with | [_, _], [], _, _ => rfl
  have b_is_between_3 : BindG K (PySem.W.fnOf "is_between" "is_between" (defArgs s_is_between) (defBody s_is_between) (defScope s_is_between) .none kV_is_between dc_is_between pm_is_between an_is_between cd_is_between ct_is_between) ["value", "low", "high"] 3 [] [] := BindG.plain fun us ws h1 h2 => match us, ws, h1, h2 with | [_, _, _], [], _, _ => rfl
  have b_parts_of_step_1 : BindG K (PySem.W.fnOf "parts_of_step" "parts_of_step" (defArgs s_parts_of_step) (defBody s_parts_of_step) (defScope s_parts_of_step) .none kV_parts_of_step dc_parts_of_step pm_parts_of_step an_parts_of_step cd_parts_of_step ct_parts_of_step) ["step"] 1 [] [] := BindG.plain fun us ws h1 h2 => match us, ws, h1, h2 with | [_], [], _, _ => rfl
  have b_are_written_1 : BindG K (PySem.W.fnOf "are_written" "are_written" (defArgs s_are_written) (defBody s_are_written) (defScope s_are_written) .none kV_are_written dc_are_written pm_are_written an_are_written cd_are_written ct_are_written) ["value"] 1 [] [] := BindG.plain fun us ws h1 h2 => match us, ws, h1, h2 with | [_], [], _, _ => rfl
  have b_quotient_2 : BindG K (PySem.W.fnOf "quotient" "quotient" (defArgs s_quotient) (defBody s_quotient) (defScope s_quotient) .none kV_quotient dc_quotient pm_quotient an_quotient cd_quotient ct_quotient) ["one", "other"] 2 [] [] := BindG.plain fun us ws h1 h2 => match us, ws, h1, h2 with | [_, _], [], _, _ => rfl
  have b_is_ticks_1 : BindG K (PySem.W.fnOf "is_ticks" "is_ticks" (defArgs s_is_ticks) (defBody s_is_ticks) (defScope s_is_ticks) .none kV_is_ticks dc_is_ticks pm_is_ticks an_is_ticks cd_is_ticks ct_is_ticks) ["value"] 1 [] [] := BindG.plain fun us ws h1 h2 => match us, ws, h1, h2 with | [_], [], _, _ => rfl
  have b_is_told_fraction_1 : BindG K (PySem.W.fnOf "is_told_fraction" "is_told_fraction" (defArgs s_is_told_fraction) (defBody s_is_told_fraction) (defScope s_is_told_fraction) .none kV_is_told_fraction dc_is_told_fraction pm_is_told_fraction an_is_told_fraction cd_is_told_fraction ct_is_told_fraction) ["value"] 1 [] [] := BindG.plain fun us ws h1 h2 => match us, ws, h1, h2 with | [_], [], _, _ => rfl
  have b_is_less_2 : BindG K (PySem.W.fnOf "is_less" "is_less" (defArgs s_is_less) (defBody s_is_less) (defScope s_is_less) .none kV_is_less dc_is_less pm_is_less an_is_less cd_is_less ct_is_less) ["one", "other"] 2 [] [] := BindG.plain fun us ws h1 h2 => match us, ws, h1, h2 with | [_, _], [], _, _ => rfl
  have b_are_wishes_1 : BindG K (PySem.W.fnOf "are_wishes" "are_wishes" (defArgs s_are_wishes) (defBody s_are_wishes) (defScope s_are_wishes) .none kV_are_wishes dc_are_wishes pm_are_wishes an_are_wishes cd_are_wishes ct_are_wishes) ["value"] 1 [] [] := BindG.plain fun us ws h1 h2 => match us, ws, h1, h2 with | [_], [], _, _ => rfl
  have b_added_2 : BindG K (PySem.W.fnOf "added" "added" (defArgs s_added) (defBody s_added) (defScope s_added) .none kV_added dc_added pm_added an_added cd_added ct_added) ["one", "other"] 2 [] [] := BindG.plain fun us ws h1 h2 => match us, ws, h1, h2 with | [_, _], [], _, _ => rfl
  have b_product_of_2 : BindG K (PySem.W.fnOf "product_of" "product_of" (defArgs s_product_of) (defBody s_product_of) (defScope s_product_of) .none kV_product_of dc_product_of pm_product_of an_product_of cd_product_of ct_product_of) ["one", "other"] 2 [] [] := BindG.plain fun us ws h1 h2 => match us, ws, h1, h2 with | [_, _], [], _, _ => rfl
  have b_last_of_1 : BindG K (PySem.W.fnOf "last_of" "last_of" (defArgs s_last_of) (defBody s_last_of) (defScope s_last_of) .none kV_last_of dc_last_of pm_last_of an_last_of cd_last_of ct_last_of) ["ticks"] 1 [] [] := BindG.plain fun us ws h1 h2 => match us, ws, h1, h2 with | [_], [], _, _ => rfl
  have b_floor_of_1 : BindG K (PySem.W.fnOf "floor_of" "floor_of" (defArgs s_floor_of) (defBody s_floor_of) (defScope s_floor_of) .none kV_floor_of dc_floor_of pm_floor_of an_floor_of cd_floor_of ct_floor_of) ["one"] 1 [] [] := BindG.plain fun us ws h1 h2 => match us, ws, h1, h2 with | [_], [], _, _ => rfl
  have b_ceiling_of_1 : BindG K (PySem.W.fnOf "ceiling_of" "ceiling_of" (defArgs s_ceiling_of) (defBody s_ceiling_of) (defScope s_ceiling_of) .none kV_ceiling_of dc_ceiling_of pm_ceiling_of an_ceiling_of cd_ceiling_of ct_ceiling_of) ["one"] 1 [] [] := BindG.plain fun us ws h1 h2 => match us, ws, h1, h2 with | [_], [], _, _ => rfl
  have b_steps_around_2 : BindG K (PySem.W.fnOf "steps_around" "steps_around" (defArgs s_steps_around) (defBody s_steps_around) (defScope s_steps_around) .none kV_steps_around dc_steps_around pm_steps_around an_steps_around cd_steps_around ct_steps_around) ["step", "ends"] 2 [] [] := BindG.plain fun us ws h1 h2 => match us, ws, h1, h2 with | [_, _], [], _, _ => rfl
  have b_values_of_1 : BindG K (PySem.W.fnOf "values_of" "values_of" (defArgs s_values_of) (defBody s_values_of) (defScope s_values_of) .none kV_values_of dc_values_of pm_values_of an_values_of cd_values_of ct_values_of) ["ticks"] 1 [] [] := BindG.plain fun us ws h1 h2 => match us, ws, h1, h2 with | [_], [], _, _ => rfl
  have b_fraction_text_1 : BindG K (PySem.W.fnOf "fraction_text" "fraction_text" (defArgs s_fraction_text) (defBody s_fraction_text) (defScope s_fraction_text) .none kV_fraction_text dc_fraction_text pm_fraction_text an_fraction_text cd_fraction_text ct_fraction_text) ["one"] 1 [] [] := BindG.plain fun us ws h1 h2 => match us, ws, h1, h2 with | [_], [], _, _ => rfl
  have b_plain_cost_4 : BindG K (PySem.W.fnOf "plain_cost" "plain_cost" (defArgs s_plain_cost) (defBody s_plain_cost) (defScope s_plain_cost) .none kV_plain_cost dc_plain_cost pm_plain_cost an_plain_cost cd_plain_cost ct_plain_cost) ["digit", "many", "vain", "wishes"] 4 [] [] := BindG.plain fun us ws h1 h2 => match us, ws, h1, h2 with | [_, _, _, _], [], _, _ => rfl
  have b_steps_in_vain_2 : BindG K (PySem.W.fnOf "steps_in_vain" "steps_in_vain" (defArgs s_steps_in_vain) (defBody s_steps_in_vain) (defScope s_steps_in_vain) .none kV_steps_in_vain dc_steps_in_vain pm_steps_in_vain an_steps_in_vain cd_steps_in_vain ct_steps_in_vain) ["ticks", "ends"] 2 [] [] := BindG.plain fun us ws h1 h2 => match us, ws, h1, h2 with | [_, _], [], _, _ => rfl
  have b_signs_of_1 : BindG K (PySem.W.fnOf "signs_of" "signs_of" (defArgs s_signs_of) (defBody s_signs_of) (defScope s_signs_of) .none kV_signs_of dc_signs_of pm_signs_of an_signs_of cd_signs_of ct_signs_of) ["ticks"] 1 [] [] := BindG.plain fun us ws h1 h2 => match us, ws, h1, h2 with | [_], [], _, _ => rfl
  have b_check_ticks_1 : BindG K (PySem.W.fnOf "check_ticks" "check_ticks" (defArgs s_check_ticks) (defBody s_check_ticks) (defScope s_check_ticks) .none kV_check_ticks dc_check_ticks pm_check_ticks an_check_ticks cd_check_ticks ct_check_ticks) ["ticks"] 1 [] [] := BindG.plain fun us ws h1 h2 => match us, ws, h1, h2 with | [_], [], _, _ => rfl
  have b_check_ends_1 : BindG K (PySem.W.fnOf "check_ends" "check_ends" (defArgs s_check_ends) (defBody s_check_ends) (defScope s_check_ends) .none kV_check_ends dc_check_ends pm_check_ends an_check_ends cd_check_ends ct_check_ends) ["ends"] 1 [] [] := BindG.plain fun us ws h1 h2 => match us, ws, h1, h2 with | [_], [], _, _ => rfl
  have b_check_wishes_1 : BindG K (PySem.W.fnOf "check_wishes" "check_wishes" (defArgs s_check_wishes) (defBody s_check_wishes) (defScope s_check_wishes) .none kV_check_wishes dc_check_wishes pm_check_wishes an_check_wishes cd_check_wishes ct_check_wishes) ["wishes"] 1 [] [] := BindG.plain fun us ws h1 h2 => match us, ws, h1, h2 with | [_], [], _, _ => rfl
  have b_do_cover_3 : BindG K (PySem.W.fnOf "do_cover" "do_cover" (defArgs s_do_cover) (defBody s_do_cover) (defScope s_do_cover) .none kV_do_cover dc_do_cover pm_do_cover an_do_cover cd_do_cover ct_do_cover) ["ticks", "least", "most"] 3 [] [] := BindG.plain fun us ws h1 h2 => match us, ws, h1, h2 with | [_, _, _], [], _, _ => rfl
  have b_whole_cost_3 : BindG K (PySem.W.fnOf "whole_cost" "whole_cost" (defArgs s_whole_cost) (defBody s_whole_cost) (defScope s_whole_cost) .none kV_whole_cost dc_whole_cost pm_whole_cost an_whole_cost cd_whole_cost ct_whole_cost) ["ticks", "ends", "wishes"] 3 [] [] := BindG.plain fun us ws h1 h2 => match us, ws, h1, h2 with | [_, _, _], [], _, _ => rfl
  have b__law_take_2 : BindG K (PySem.W.fnOf "_law_take" "_law_take" (defArgs s__law_take) (defBody s__law_take) (defScope s__law_take) .none kV__law_take dc__law_take pm__law_take an__law_take cd__law_take ct__law_take) ["pot", "upto"] 2 [] [] := BindG.plain fun us ws h1 h2 => match us, ws, h1, h2 with | [_, _], [], _, _ => rfl
  have b__law_of_2 : BindG K (PySem.W.fnOf "_law_of" "_law_of" (defArgs s__law_of) (defBody s__law_of) (defScope s__law_of) .none kV__law_of dc__law_of pm__law_of an__law_of cd__law_of ct__law_of) ["pot", "some"] 2 [] [] := BindG.plain fun us ws h1 h2 => match us, ws, h1, h2 with | [_, _], [], _, _ => rfl
  have b__law_is_int_1 : BindG K (PySem.W.fnOf "_law_is_int" "_law_is_int" (defArgs s__law_is_int) (defBody s__law_is_int) (defScope s__law_is_int) .none kV__law_is_int dc__law_is_int pm__law_is_int an__law_is_int cd__law_is_int ct__law_is_int) ["value"] 1 [] [] := BindG.plain fun us ws h1 h2 => match us, ws, h1, h2 with | [_], [], _, _ => rfl
  have b__law_is_fraction_1 : BindG K (PySem.W.fnOf "_law_is_fraction" "_law_is_fraction" (defArgs s__law_is_fraction) (defBody s__law_is_fraction) (defScope s__law_is_fraction) .none kV__law_is_fraction dc__law_is_fraction pm__law_is_fraction an__law_is_fraction cd__law_is_fraction ct__law_is_fraction) ["value"] 1 [] [] := BindG.plain fun us ws h1 h2 => match us, ws, h1, h2 with | [_], [], _, _ => rfl
  have b_ticks_cost_3 : BindG K (PySem.W.fnOf "ticks_cost" "ticks_cost" (defArgs s_ticks_cost) (defBody s_ticks_cost) (defScope s_ticks_cost) .none kV_ticks_cost dc_ticks_cost pm_ticks_cost an_ticks_cost cd_ticks_cost ct_ticks_cost) ["ticks", "ends", "wishes"] 3 [] [] := BindG.plain fun us ws h1 h2 => match us, ws, h1, h2 with | [_, _, _], [], _, _ => rfl
  have b__law_odd_2 : BindG K (PySem.W.fnOf "_law_odd" "_law_odd" (defArgs s__law_odd) (defBody s__law_odd) (defScope s__law_odd) .none kV__law_odd dc__law_odd pm__law_odd an__law_odd cd__law_odd ct__law_odd) ["pot", "ticks"] 2 [] [] := BindG.plain fun us ws h1 h2 => match us, ws, h1, h2 with | [_, _], [], _, _ => rfl
  have b__law_are_ticks_1 : BindG K (PySem.W.fnOf "_law_are_ticks" "_law_are_ticks" (defArgs s__law_are_ticks) (defBody s__law_are_ticks) (defScope s__law_are_ticks) .none kV__law_are_ticks dc__law_are_ticks pm__law_are_ticks an__law_are_ticks cd__law_are_ticks ct__law_are_ticks) ["value"] 1 [] [] := BindG.plain fun us ws h1 h2 => match us, ws, h1, h2 with | [_], [], _, _ => rfl
  have b__law_heard_1 : BindG K (PySem.W.fnOf "_law_heard" "_law_heard" (defArgs s__law_heard) (defBody s__law_heard) (defScope s__law_heard) .none kV__law_heard dc__law_heard pm__law_heard an__law_heard cd__law_heard ct__law_heard) ["look"] 1 [] [] := BindG.plain fun us ws h1 h2 => match us, ws, h1, h2 with | [_], [], _, _ => rfl
  have b__law_ticks_1 : BindG K (PySem.W.fnOf "_law_ticks" "_law_ticks" (defArgs s__law_ticks) (defBody s__law_ticks) (defScope s__law_ticks) .none kV__law_ticks dc__law_ticks pm__law_ticks an__law_ticks cd__law_ticks ct__law_ticks) ["pot"] 1 [] [] := BindG.plain fun us ws h1 h2 => match us, ws, h1, h2 with | [_], [], _, _ => rfl
  have b__law_wishes_1 : BindG K (PySem.W.fnOf "_law_wishes" "_law_wishes" (defArgs s__law_wishes) (defBody s__law_wishes) (defScope s__law_wishes) .none kV__law_wishes dc__law_wishes pm__law_wishes an__law_wishes cd__law_wishes ct__law_wishes) ["pot"] 1 [] [] := BindG.plain fun us ws h1 h2 => match us, ws, h1, h2 with | [_], [], _, _ => rfl
  have b__law_cost_3 : BindG K (PySem.W.fnOf "_law_cost" "_law_cost" (defArgs s__law_cost) (defBody s__law_cost) (defScope s__law_cost) .none kV__law_cost dc__law_cost pm__law_cost an__law_cost cd__law_cost ct__law_cost) ["ticks", "ends", "wishes"] 3 [] [] := BindG.plain fun us ws h1 h2 => match us, ws, h1, h2 with | [_, _, _], [], _, _ => rfl
  have b_ticks_cost_0_ticks_ends_wishes : BindG K (PySem.W.fnOf "ticks_cost" "ticks_cost" (defArgs s_ticks_cost) (defBody s_ticks_cost) (defScope s_ticks_cost) .none kV_ticks_cost dc_ticks_cost pm_ticks_cost an_ticks_cost cd_ticks_cost ct_ticks_cost) ["ticks", "ends", "wishes"] 0 ["ticks", "ends", "wishes"] [] := BindG.plain fun us ws h1 h2 => match us, ws, h1, h2 with | [], [_, _, _], _, _ => rfl
  have b__law_are_refused_4 : BindG K (PySem.W.fnOf "_law_are_refused" "_law_are_refused" (defArgs s__law_are_refused) (defBody s__law_are_refused) (defScope s__law_are_refused) .none kV__law_are_refused dc__law_are_refused pm__law_are_refused an__law_are_refused cd__law_are_refused ct__law_are_refused) ["pot", "ticks", "ends", "wishes"] 4 [] [] := BindG.plain fun us ws h1 h2 => match us, ws, h1, h2 with | [_, _, _, _], [], _, _ => rfl
  have b__law_cells_2 : BindG K (PySem.W.fnOf "_law_cells" "_law_cells" (defArgs s__law_cells) (defBody s__law_cells) (defScope s__law_cells) .none kV__law_cells dc__law_cells pm__law_cells an__law_cells cd__law_cells ct__law_cells) ["script", "limit"] 2 [] [] := BindG.plain fun us ws h1 h2 => match us, ws, h1, h2 with | [_, _], [], _, _ => rfl
  have b__law_pot_2 : BindG K (PySem.W.fnOf "_law_pot" "_law_pot" (defArgs s__law_pot) (defBody s__law_pot) (defScope s__law_pot) .none kV__law_pot dc__law_pot pm__law_pot an__law_pot cd__law_pot ct__law_pot) ["script", "place"] 2 [] [] := BindG.plain fun us ws h1 h2 => match us, ws, h1, h2 with | [_, _], [], _, _ => rfl
  have b__law_right_1 : BindG K (PySem.W.fnOf "_law_right" "_law_right" (defArgs s__law_right) (defBody s__law_right) (defScope s__law_right) .none kV__law_right dc__law_right pm__law_right an__law_right cd__law_right ct__law_right) ["pot"] 1 [] [] := BindG.plain fun us ws h1 h2 => match us, ws, h1, h2 with | [_], [], _, _ => rfl
  have m_max := PySem.W.mg_none_of X G z_max
  have m_min := PySem.W.mg_none_of X G z_min
  have m_len := PySem.W.mg_none_of X G z_len
  have m_list := PySem.W.mg_none_of X G z_list
  have m_range := PySem.W.mg_none_of X G z_range
  have m_sum := PySem.W.mg_none_of X G z_sum
  have m_int := PySem.W.mg_none_of X G z_int
  have m_abs := PySem.W.mg_none_of X G z_abs
  have m_str := PySem.W.mg_none_of X G z_str
  have m_isinstance := PySem.W.mg_none_of X G z_isinstance
  have m_bool := PySem.W.mg_none_of X G z_bool
  have m_all := PySem.W.mg_none_of X G z_all
  have m_tuple := PySem.W.mg_none_of X G z_tuple
  have m_repr := PySem.W.mg_none_of X G z_repr
  have m_super := PySem.W.mg_none_of X G z_super
  have m_gcd := PySem.W.mg_of X G z_gcd
  have m_BEYOND_TICKS := PySem.W.mg_of X G z_BEYOND_TICKS
  have r_BEYOND_TICKS : KRep K (.int 100000000000000000000000000000000000000000000000000000000000000000000000000000000000000000000000000000000000000000000000000000000000000000000000000000000000000000000000000000000000000000000000000000000000000000000000000000000000000000000000000000000000000000000000000000000000000000000000000000000000000000000000000000000000000000000000000000000000000000000000000000000000000000000000000000000000000000000000000000000000000000000000000000000000000000000000000000000000000000000000000000000000000000000000000000000000000000000000000000000000000000000000000000000000000000000000000000000000000000000000000000000000000000000000000000000000000000000000000000000000000000000000000000000000000000000000000000000000000000000000000000000000000000000000000000000000000000000000000000000000000000000000000000000000000000000000000000000000000000000000000000000000000000000000000000000000000000000000000000000000000000000000000000000000000000000000000000000000000000000000000000000000000000000000000000000000000000000000000000000000000000000000000000000000000000000000000000000000000000000000000000000000000000000000000000000000000000000000000000000000000000000000000000000000000000000000000000000000000000000000000000000000000000000000000000000000000000000000000000000000000000000000000000000000000000000000000000000000000000000000000000000000000000000000000000000000000000000000000000000000000000000000000000000000000000000000000000000000000000000000000000000000000000000000000000000000000000000000000000000000000000000000000000000000000000000000000000000000000000000000000000000000000000000000000000000000000000000000000000000000000000000000000000000000000000000000000000000000000000000000000000000000000000000000000000000000000000000000000000000000000000000000000000000000000000000000000000000000000000000000000000000000000000000000000000000000000000000000000000000000000000000000000000000000000000000000000000000000000000000000000000000000000000000000000000000000000000000000000000000000000000000000000000000 t_BEYOND_TICKS_1) d_BEYOND_TICKS := KRep.int
  have m_DIGITS := PySem.W.mg_of X G z_DIGITS
  have r_DIGITS : KRep K (.ref T_DIGITS_1) d_DIGITS := (KRep.tup lc_DIGITS_1 (by decide +kernel) (.cons KRep.int (.cons KRep.int (.cons KRep.int KReps.nil))))
  have x_DIGITS : KIdx K (.ref T_DIGITS_1) [1, 2, 5] := ⟨_, _, _, _, rfl, lc_DIGITS_1, by rw [sizeLine_eq]; exact Nat.le_of_ble_eq_true rfl, .cons ⟨_, rfl⟩ (.cons ⟨_, rfl⟩ (.cons ⟨_, rfl⟩ (.nil)))⟩
  have m_FEWEST := PySem.W.mg_of X G z_FEWEST
  have r_FEWEST : KRep K (.int 2 t_FEWEST_1) d_FEWEST := KRep.int
  have m_MOST_TICKS := PySem.W.mg_of X G z_MOST_TICKS
  have r_MOST_TICKS : KRep K (.int 12 t_MOST_TICKS_1) d_MOST_TICKS := KRep.int
  have m_BEYOND := PySem.W.mg_of X G z_BEYOND
  have r_BEYOND : KRep K (.int 1000000000000000000000000000000000000000000000000000000000000000000000000000000000000000000000000000000000000000000000000000000000000000000000000000000000000000000000000000000000000000000000000000000000000000000000000000000000000000000000000000000000000000000000000000000000000000000000000000000000000 t_BEYOND_1) d_BEYOND := KRep.int
  have m_LEAST_WISH := PySem.W.mg_of X G z_LEAST_WISH
  have r_LEAST_WISH : KRep K (.int 2 t_LEAST_WISH_1) d_LEAST_WISH := KRep.int
  have m_MOST_WISH := PySem.W.mg_of X G z_MOST_WISH
  have r_MOST_WISH : KRep K (.int 10 t_MOST_WISH_1) d_MOST_WISH := KRep.int
  have m_MOST_WEIGHT := PySem.W.mg_of X G z_MOST_WEIGHT
  have r_MOST_WEIGHT : KRep K (.int 1000000 t_MOST_WEIGHT_1) d_MOST_WEIGHT := KRep.int
  have m_STROKE := PySem.W.mg_of X G z_STROKE
  have r_STROKE : KRep K (.str "/" t_STROKE_1) d_STROKE := (KRep.str (by decide +kernel))
  have g__law_cells := PySem.W.mg_of X G a__law_cells
  have g__law_pot := PySem.W.mg_of X G a__law_pot
  have g__law_common := PySem.W.mg_of X G a__law_common
  have g__law_reduced := PySem.W.mg_of X G a__law_reduced
  have g__law_plus := PySem.W.mg_of X G a__law_plus
  have g__law_times := PySem.W.mg_of X G a__law_times
  have g__law_values := PySem.W.mg_of X G a__law_values
  have g__law_less := PySem.W.mg_of X G a__law_less
  have g__law_power := PySem.W.mg_of X G a__law_power
  have g__law_parts := PySem.W.mg_of X G a__law_parts
  have g__law_text := PySem.W.mg_of X G a__law_text
  have g__law_cost := PySem.W.mg_of X G a__law_cost
  have g_is_integer := PySem.W.mg_of X G a_is_integer
  have g_is_between := PySem.W.mg_of X G a_is_between
  have g_common := PySem.W.mg_of X G a_common
  have g_is_fraction := PySem.W.mg_of X G a_is_fraction
  have g_are_written := PySem.W.mg_of X G a_are_written
  have g_without_tens := PySem.W.mg_of X G a_without_tens
  have g_parts_of_step := PySem.W.mg_of X G a_parts_of_step
  have g_reduced := PySem.W.mg_of X G a_reduced
  have g_quotient := PySem.W.mg_of X G a_quotient
  have g_is_ticks := PySem.W.mg_of X G a_is_ticks
  have g_check_ticks := PySem.W.mg_of X G a_check_ticks
  have g_is_less := PySem.W.mg_of X G a_is_less
  have g_is_told_fraction := PySem.W.mg_of X G a_is_told_fraction
  have g_check_ends := PySem.W.mg_of X G a_check_ends
  have g_are_wishes := PySem.W.mg_of X G a_are_wishes
  have g_check_wishes := PySem.W.mg_of X G a_check_wishes
  have g_added := PySem.W.mg_of X G a_added
  have g_product_of := PySem.W.mg_of X G a_product_of
  have g_last_of := PySem.W.mg_of X G a_last_of
  have g_do_cover := PySem.W.mg_of X G a_do_cover
  have g_plain_cost := PySem.W.mg_of X G a_plain_cost
  have g_floor_of := PySem.W.mg_of X G a_floor_of
  have g_ceiling_of := PySem.W.mg_of X G a_ceiling_of
  have g_steps_around := PySem.W.mg_of X G a_steps_around
  have g_steps_in_vain := PySem.W.mg_of X G a_steps_in_vain
  have g_fraction_text := PySem.W.mg_of X G a_fraction_text
  have g_values_of := PySem.W.mg_of X G a_values_of
  have g_signs_of := PySem.W.mg_of X G a_signs_of
  have g_whole_cost := PySem.W.mg_of X G a_whole_cost
  have g_ticks_cost := PySem.W.mg_of X G a_ticks_cost
  have g__law_take := PySem.W.mg_of X G a__law_take
  have g__law_of := PySem.W.mg_of X G a__law_of
  have g__law_odd := PySem.W.mg_of X G a__law_odd
  have g__law_is_int := PySem.W.mg_of X G a__law_is_int
  have g__law_is_fraction := PySem.W.mg_of X G a__law_is_fraction
  have g__law_are_ticks := PySem.W.mg_of X G a__law_are_ticks
  have g__law_heard := PySem.W.mg_of X G a__law_heard
  have g__law_are_refused := PySem.W.mg_of X G a__law_are_refused
  have g__law_ticks := PySem.W.mg_of X G a__law_ticks
  have g__law_wishes := PySem.W.mg_of X G a__law_wishes
  have g__law_right := PySem.W.mg_of X G a__law_right
  have g_law := PySem.W.mg_of X G a_law
  have e := hfa.symm.trans g_law
  cases e
  refine ⟨PySem.W.fnOf "law" "law" (defArgs s_law) (defBody s_law) (defScope s_law) .none kV_law dc_law pm_law an_law cd_law ct_law, fun s v => .of_eq rfl, fun base _ _ TB => ?_⟩
  have IF : InitF l.prog K mg fI C_PictureError cdaI ccI quI (defArgs (stN (stB (topS 2)) 0)) := ⟨⟨_, _, _, _, _, _, w1, w2, w3⟩, w8, ⟨_, _, _, w4⟩, ⟨_, w5⟩, w6, m_super, w7, ⟨_, rfl, rfl⟩⟩
  have hme : MEq ⟨6, 8, 6, 13⟩ ⟨6, 8, 6, 15⟩ ⟨6, 8, 6, 24⟩ ⟨6, 25, 6, 30⟩ ⟨6, 8, 6, 31⟩ := fun env h => ⟨_, rfl⟩
  have FI := init_ok (P := l.prog) (w := w) (base := base) (mg := mg) (k := 0) (p0 := ⟨6, 8, 6, 13⟩) (p1 := ⟨6, 8, 6, 15⟩) (p2 := ⟨6, 8, 6, 24⟩) (p3 := ⟨6, 25, 6, 30⟩) (p4 := ⟨6, 8, 6, 31⟩) (p5 := ⟨6, 8, 6, 31⟩) (p6 := ⟨7, 8, 7, 12⟩) (p7 := ⟨7, 8, 7, 18⟩) (p8 := ⟨7, 21, 7, 26⟩) (p9 := ⟨7, 8, 7, 26⟩) lI hme IF
  have hbI : Binds K (PySem.W.ksFn "__init__" quI (defArgs (stN (stB (topS 2)) 0)) (initBody ⟨6, 8, 6, 13⟩ ⟨6, 8, 6, 15⟩ ⟨6, 8, 6, 24⟩ ⟨6, 25, 6, 30⟩ ⟨6, 8, 6, 31⟩ ⟨6, 8, 6, 31⟩ ⟨7, 8, 7, 12⟩ ⟨7, 8, 7, 18⟩ ⟨7, 21, 7, 26⟩ ⟨7, 8, 7, 26⟩) initSc .none kVI dcI pmI anI (.ref cdaI) ctI ccI) ["self", "value"] [] := Binds.all fun us h => match us, h with | [_, _], _ => rfl
  have M__law_cells := ok__law_cells (P := l.prog) (w := w) (base := base) (mg := mg) l__law_cells c__law_cells m_max m_min m_len m_list m_range
  have M__law_pot := ok__law_pot (P := l.prog) (w := w) (base := base) (mg := mg) l__law_pot c__law_pot m_len m_sum m_int m_abs
  have M__law_common := ok__law_common (P := l.prog) (w := w) (base := base) (mg := mg) l__law_common c__law_common m_abs
  have M__law_reduced := ok__law_reduced (P := l.prog) (w := w) (base := base) (mg := mg) l__law_reduced c__law_reduced M__law_common g__law_common k__law_common b__law_common_2
  have M__law_plus := ok__law_plus (P := l.prog) (w := w) (base := base) (mg := mg) l__law_plus c__law_plus M__law_reduced g__law_reduced k__law_reduced b__law_reduced_2
  have M__law_times := ok__law_times (P := l.prog) (w := w) (base := base) (mg := mg) l__law_times c__law_times M__law_reduced g__law_reduced k__law_reduced b__law_reduced_2
  have M__law_values := ok__law_values (P := l.prog) (w := w) (base := base) (mg := mg) l__law_values c__law_values M__law_plus g__law_plus k__law_plus M__law_times g__law_times k__law_times b__law_plus_2 b__law_times_2 m_range
  have M__law_less := ok__law_less (P := l.prog) (w := w) (base := base) (mg := mg) l__law_less c__law_less
  have M__law_power := ok__law_power (P := l.prog) (w := w) (base := base) (mg := mg) l__law_power c__law_power m_range m_abs
  have M__law_parts := ok__law_parts (P := l.prog) (w := w) (base := base) (mg := mg) l__law_parts c__law_parts M__law_times g__law_times k__law_times M__law_power g__law_power k__law_power b__law_times_2 b__law_power_1 m_len m_str
  have M__law_text := ok__law_text (P := l.prog) (w := w) (base := base) (mg := mg) l__law_text c__law_text m_str
  have M__law_cost := ok__law_cost (P := l.prog) (w := w) (base := base) (mg := mg) l__law_cost c__law_cost M__law_values g__law_values k__law_values M__law_less g__law_less k__law_less M__law_parts g__law_parts k__law_parts M__law_text g__law_text k__law_text b__law_values_3 b__law_less_2 b__law_parts_1 b__law_text_1 m_len m_abs m_int m_max
  have M_is_integer := ok_is_integer (P := l.prog) (w := w) (base := base) (mg := mg) l_is_integer c_is_integer m_isinstance m_bool m_int
  have M_is_between := ok_is_between (P := l.prog) (w := w) (base := base) (mg := mg) l_is_between c_is_between M_is_integer g_is_integer k_is_integer b_is_integer_1
  have M_common := ok_common (P := l.prog) (w := w) (base := base) (mg := mg) l_common c_common m_gcd
  have M_is_fraction := ok_is_fraction (P := l.prog) (w := w) (base := base) (mg := mg) l_is_fraction c_is_fraction M_is_integer g_is_integer k_is_integer M_common g_common k_common b_is_integer_1 b_common_2 m_all m_len m_isinstance m_tuple
  have M_are_written := ok_are_written (P := l.prog) (w := w) (base := base) (mg := mg) l_are_written c_are_written M_is_integer g_is_integer k_is_integer M_is_fraction g_is_fraction k_is_fraction b_is_integer_1 b_is_fraction_1 m_BEYOND_TICKS r_BEYOND_TICKS m_all m_len m_isinstance m_tuple m_abs
  have M_without_tens := ok_without_tens (P := l.prog) (w := w) (base := base) (mg := mg) l_without_tens c_without_tens
  have M_parts_of_step := ok_parts_of_step (P := l.prog) (w := w) (base := base) (mg := mg) l_parts_of_step c_parts_of_step M_without_tens g_without_tens k_without_tens b_without_tens_1 m_DIGITS r_DIGITS
  have M_reduced := ok_reduced (P := l.prog) (w := w) (base := base) (mg := mg) l_reduced c_reduced M_common g_common k_common b_common_2
  have M_quotient := ok_quotient (P := l.prog) (w := w) (base := base) (mg := mg) l_quotient c_quotient M_reduced g_reduced k_reduced b_reduced_2
  have M_is_ticks := ok_is_ticks (P := l.prog) (w := w) (base := base) (mg := mg) l_is_ticks c_is_ticks M_is_between g_is_between k_is_between M_parts_of_step g_parts_of_step k_parts_of_step M_are_written g_are_written k_are_written M_quotient g_quotient k_quotient b_is_between_3 b_parts_of_step_1 b_are_written_1 b_quotient_2 m_FEWEST r_FEWEST m_MOST_TICKS r_MOST_TICKS m_len m_isinstance m_tuple
  have M_check_ticks := ok_check_ticks (P := l.prog) (w := w) (base := base) (mg := mg) l_check_ticks c_check_ticks M_is_ticks g_is_ticks k_is_ticks b_is_ticks_1 FI hbI tI IC_BadTicks EK_BadTicks iC_BadTicks mc_BadTicks
  have M_is_less := ok_is_less (P := l.prog) (w := w) (base := base) (mg := mg) l_is_less c_is_less
  have M_is_told_fraction := ok_is_told_fraction (P := l.prog) (w := w) (base := base) (mg := mg) l_is_told_fraction c_is_told_fraction M_is_fraction g_is_fraction k_is_fraction b_is_fraction_1 m_BEYOND r_BEYOND m_abs
  have M_check_ends := ok_check_ends (P := l.prog) (w := w) (base := base) (mg := mg) l_check_ends c_check_ends M_is_told_fraction g_is_told_fraction k_is_told_fraction M_is_less g_is_less k_is_less b_is_told_fraction_1 b_is_less_2 m_all m_len m_isinstance m_tuple FI hbI tI IC_BadRange EK_BadRange iC_BadRange mc_BadRange
  have M_are_wishes := ok_are_wishes (P := l.prog) (w := w) (base := base) (mg := mg) l_are_wishes c_are_wishes M_is_between g_is_between k_is_between b_is_between_3 m_LEAST_WISH r_LEAST_WISH m_MOST_WISH r_MOST_WISH m_MOST_WEIGHT r_MOST_WEIGHT m_len m_isinstance m_tuple m_all
  have M_check_wishes := ok_check_wishes (P := l.prog) (w := w) (base := base) (mg := mg) l_check_wishes c_check_wishes M_are_wishes g_are_wishes k_are_wishes b_are_wishes_1 FI hbI tI IC_BadWishes EK_BadWishes iC_BadWishes mc_BadWishes
  have M_added := ok_added (P := l.prog) (w := w) (base := base) (mg := mg) l_added c_added M_reduced g_reduced k_reduced b_reduced_2
  have M_product_of := ok_product_of (P := l.prog) (w := w) (base := base) (mg := mg) l_product_of c_product_of M_reduced g_reduced k_reduced b_reduced_2
  have M_last_of := ok_last_of (P := l.prog) (w := w) (base := base) (mg := mg) l_last_of c_last_of M_added g_added k_added M_product_of g_product_of k_product_of b_added_2 b_product_of_2
  have M_do_cover := ok_do_cover (P := l.prog) (w := w) (base := base) (mg := mg) l_do_cover c_do_cover M_is_less g_is_less k_is_less M_last_of g_last_of k_last_of b_is_less_2 b_last_of_1
  have M_plain_cost := ok_plain_cost (P := l.prog) (w := w) (base := base) (mg := mg) l_plain_cost c_plain_cost m_DIGITS r_DIGITS x_DIGITS m_abs
  have M_floor_of := ok_floor_of (P := l.prog) (w := w) (base := base) (mg := mg) l_floor_of c_floor_of
  have M_ceiling_of := ok_ceiling_of (P := l.prog) (w := w) (base := base) (mg := mg) l_ceiling_of c_ceiling_of M_floor_of g_floor_of k_floor_of b_floor_of_1
  have M_steps_around := ok_steps_around (P := l.prog) (w := w) (base := base) (mg := mg) l_steps_around c_steps_around M_floor_of g_floor_of k_floor_of M_quotient g_quotient k_quotient M_ceiling_of g_ceiling_of k_ceiling_of b_floor_of_1 b_quotient_2 b_ceiling_of_1
  have M_steps_in_vain := ok_steps_in_vain (P := l.prog) (w := w) (base := base) (mg := mg) l_steps_in_vain c_steps_in_vain M_steps_around g_steps_around k_steps_around b_steps_around_2
  have M_fraction_text := ok_fraction_text (P := l.prog) (w := w) (base := base) (mg := mg) l_fraction_text c_fraction_text m_STROKE r_STROKE m_str
  have M_values_of := ok_values_of (P := l.prog) (w := w) (base := base) (mg := mg) l_values_of c_values_of M_added g_added k_added M_product_of g_product_of k_product_of b_added_2 b_product_of_2 m_range
  have M_signs_of := ok_signs_of (P := l.prog) (w := w) (base := base) (mg := mg) l_signs_of c_signs_of M_values_of g_values_of k_values_of M_fraction_text g_fraction_text k_fraction_text b_values_of_1 b_fraction_text_1 m_max m_len
  have M_whole_cost := ok_whole_cost (P := l.prog) (w := w) (base := base) (mg := mg) l_whole_cost c_whole_cost M_parts_of_step g_parts_of_step k_parts_of_step M_plain_cost g_plain_cost k_plain_cost M_steps_in_vain g_steps_in_vain k_steps_in_vain M_signs_of g_signs_of k_signs_of b_parts_of_step_1 b_plain_cost_4 b_steps_in_vain_2 b_signs_of_1
  have M_ticks_cost := ok_ticks_cost (P := l.prog) (w := w) (base := base) (mg := mg) l_ticks_cost c_ticks_cost M_check_ticks g_check_ticks k_check_ticks M_check_ends g_check_ends k_check_ends M_check_wishes g_check_wishes k_check_wishes M_do_cover g_do_cover k_do_cover M_whole_cost g_whole_cost k_whole_cost b_check_ticks_1 b_check_ends_1 b_check_wishes_1 b_do_cover_3 b_whole_cost_3
  have M__law_take := ok__law_take (P := l.prog) (w := w) (base := base) (mg := mg) l__law_take c__law_take m_int
  have M__law_of := ok__law_of (P := l.prog) (w := w) (base := base) (mg := mg) l__law_of c__law_of M__law_take g__law_take k__law_take b__law_take_2 m_len
  have M__law_odd := ok__law_odd (P := l.prog) (w := w) (base := base) (mg := mg) l__law_odd c__law_odd M__law_plus g__law_plus k__law_plus M__law_times g__law_times k__law_times M__law_of g__law_of k__law_of b__law_plus_2 b__law_times_2 b__law_of_2 m_list m_str
  have M__law_is_int := ok__law_is_int (P := l.prog) (w := w) (base := base) (mg := mg) l__law_is_int c__law_is_int m_isinstance m_bool m_int
  have M__law_is_fraction := ok__law_is_fraction (P := l.prog) (w := w) (base := base) (mg := mg) l__law_is_fraction c__law_is_fraction M__law_is_int g__law_is_int k__law_is_int M__law_common g__law_common k__law_common b__law_is_int_1 b__law_common_2 m_all m_len m_isinstance m_tuple
  have M__law_are_ticks := ok__law_are_ticks (P := l.prog) (w := w) (base := base) (mg := mg) l__law_are_ticks c__law_are_ticks M__law_is_int g__law_is_int k__law_is_int M__law_parts g__law_parts k__law_parts M__law_is_fraction g__law_is_fraction k__law_is_fraction M__law_times g__law_times k__law_times b__law_is_int_1 b__law_parts_1 b__law_is_fraction_1 b__law_times_2 m_len m_isinstance m_tuple
  have L_0 := ok_lam_0 (P := l.prog) (w := w) (base := base) (mg := mg) M_ticks_cost g_ticks_cost k_ticks_cost b_ticks_cost_3
  have L_1 := ok_lam_1 (P := l.prog) (w := w) (base := base) (mg := mg) M_ticks_cost g_ticks_cost k_ticks_cost b_ticks_cost_3
  have L_2 := ok_lam_2 (P := l.prog) (w := w) (base := base) (mg := mg) M_ticks_cost g_ticks_cost k_ticks_cost b_ticks_cost_3
  have LD : ∀ n, LamD l.prog w K mg base 8 n (B_law n) 0 := fun n => match n with
    | 0 => L_0.mono (by decide)
    | 1 => L_1.mono (by decide)
    | 2 => L_2.mono (by decide)
    | n + 3 => lamd_none rfl
  have M__law_heard := ok__law_heard (P := l.prog) (w := w) (base := base) (mg := mg) l__law_heard c__law_heard LD mc_PictureError mx_PictureError
  have M__law_are_refused := ok__law_are_refused (P := l.prog) (w := w) (base := base) (mg := mg) l__law_are_refused c__law_are_refused M__law_odd g__law_odd k__law_odd M__law_are_ticks g__law_are_ticks k__law_are_ticks M__law_of g__law_of k__law_of M__law_heard g__law_heard k__law_heard b__law_odd_2 b__law_are_ticks_1 b__law_of_2 b__law_heard_1 m_list m_isinstance m_repr m_range hc__law_are_refused (TB (447, 445) (by decide)) mc_BadRange mc_BadTicks mc_BadWishes mis_BadTicks mis_BadRange mis_BadWishes
  have M__law_ticks := ok__law_ticks (P := l.prog) (w := w) (base := base) (mg := mg) l__law_ticks c__law_ticks M__law_times g__law_times k__law_times M__law_of g__law_of k__law_of M__law_power g__law_power k__law_power M__law_take g__law_take k__law_take b__law_times_2 b__law_of_2 b__law_power_1 b__law_take_2 m_int
  have M__law_wishes := ok__law_wishes (P := l.prog) (w := w) (base := base) (mg := mg) l__law_wishes c__law_wishes M__law_take g__law_take k__law_take M__law_of g__law_of k__law_of b__law_take_2 b__law_of_2 m_range m_int m_tuple
  have M__law_right := ok__law_right (P := l.prog) (w := w) (base := base) (mg := mg) l__law_right c__law_right M__law_ticks g__law_ticks k__law_ticks M__law_wishes g__law_wishes k__law_wishes M__law_values g__law_values k__law_values M__law_plus g__law_plus k__law_plus M__law_times g__law_times k__law_times M__law_take g__law_take k__law_take M__law_of g__law_of k__law_of M__law_less g__law_less k__law_less M__law_cost g__law_cost k__law_cost M_ticks_cost g_ticks_cost k_ticks_cost M__law_are_refused g__law_are_refused k__law_are_refused b__law_ticks_1 b__law_wishes_1 b__law_values_3 b__law_plus_2 b__law_times_2 b__law_take_2 b__law_of_2 b__law_less_2 b__law_cost_3 b_ticks_cost_0_ticks_ends_wishes b_ticks_cost_3 b__law_are_refused_4 m_repr
  have M_law := ok_law (P := l.prog) (w := w) (base := base) (mg := mg) l_law c_law M__law_cells g__law_cells k__law_cells M__law_pot g__law_pot k__law_pot M__law_right g__law_right k__law_right b__law_cells_2 b__law_pot_2 b__law_right_1 m_all m_range
  exact M_law
end K33
open PySem PySem.W PyProof.Rows
set_option maxHeartbeats 0 in
theorem PySem.Challenge.cw_whatthepicturesays_k33_whole_costs_of_ti_holds : PySem.Challenge.rw_whatthepicturesays_k33_whole_costs_of_ti.Holds := by
  w_on; o_law; k_head; (case hw => w_witness2)
  k_fill
  refine DL.walk_ofG (l := PySem.Challenge.rw_whatthepicturesays_k33_whole_costs_of_ti) (n := 63) (k := 12) (c := 0) (x := "script") (cs := [(447, 445)]) (F := K33.F_law) rfl (by decide) rfl ⟨rfl, by decide, by decide⟩ DL.guards_caller (by decide) rfl (by decide +kernel) (fun w h Y => PySem.W.km_in_of Y) ?T ?F K33.law_true
  case T =>
    intro w h Y
    refine ⟨fun p hp => PySem.W.km_tabs_of Y p.2 ?_, fun p hp => ?_, fun p hp => PySem.W.codeHd_of_K (PySem.W.km_in_of Y) ?_⟩
    all_goals simp only [List.mem_cons, List.mem_nil_iff, or_false] at hp
    · rcases hp with rfl <;> simp
    · rcases hp with rfl <;> kernel_rfl
    · rcases hp with rfl <;> kernel_rfl
  case F =>
    intro w mg fa h KX G hmg
    refine' K33.all_mk KX G hmg ?a__law_cells ?l__law_cells ?c__law_cells ?k__law_cells ?a__law_pot ?l__law_pot ?c__law_pot ?k__law_pot ?a__law_common ?l__law_common ?c__law_common ?k__law_common ?a__law_reduced ?l__law_reduced ?c__law_reduced ?k__law_reduced ?a__law_plus ?l__law_plus ?c__law_plus ?k__law_plus ?a__law_times ?l__law_times ?c__law_times ?k__law_times ?a__law_values ?l__law_values ?c__law_values ?k__law_values ?a__law_less ?l__law_less ?c__law_less ?k__law_less ?a__law_power ?l__law_power ?c__law_power ?k__law_power ?a__law_parts ?l__law_parts ?c__law_parts ?k__law_parts ?a__law_text ?l__law_text ?c__law_text ?k__law_text ?a__law_cost ?l__law_cost ?c__law_cost ?k__law_cost ?a_is_integer ?l_is_integer ?c_is_integer ?k_is_integer ?a_is_between ?l_is_between ?c_is_between ?k_is_between ?a_common ?l_common ?c_common ?k_common ?a_is_fraction ?l_is_fraction ?c_is_fraction ?k_is_fraction ?a_are_written ?l_are_written ?c_are_written ?k_are_written ?a_without_tens ?l_without_tens ?c_without_tens ?k_without_tens ?a_parts_of_step ?l_parts_of_step ?c_parts_of_step ?k_parts_of_step ?a_reduced ?l_reduced ?c_reduced ?k_reduced ?a_quotient ?l_quotient ?c_quotient ?k_quotient ?a_is_ticks ?l_is_ticks ?c_is_ticks ?k_is_ticks ?a_check_ticks ?l_check_ticks ?c_check_ticks ?k_check_ticks ?a_is_less ?l_is_less ?c_is_less ?k_is_less ?a_is_told_fraction ?l_is_told_fraction ?c_is_told_fraction ?k_is_told_fraction ?a_check_ends ?l_check_ends ?c_check_ends ?k_check_ends ?a_are_wishes ?l_are_wishes ?c_are_wishes ?k_are_wishes ?a_check_wishes ?l_check_wishes ?c_check_wishes ?k_check_wishes ?a_added ?l_added ?c_added ?k_added ?a_product_of ?l_product_of ?c_product_of ?k_product_of ?a_last_of ?l_last_of ?c_last_of ?k_last_of ?a_do_cover ?l_do_cover ?c_do_cover ?k_do_cover ?a_plain_cost ?l_plain_cost ?c_plain_cost ?k_plain_cost ?a_floor_of ?l_floor_of ?c_floor_of ?k_floor_of ?a_ceiling_of ?l_ceiling_of ?c_ceiling_of ?k_ceiling_of ?a_steps_around ?l_steps_around ?c_steps_around ?k_steps_around ?a_steps_in_vain ?l_steps_in_vain ?c_steps_in_vain ?k_steps_in_vain ?a_fraction_text ?l_fraction_text ?c_fraction_text ?k_fraction_text ?a_values_of ?l_values_of ?c_values_of ?k_values_of ?a_signs_of ?l_signs_of ?c_signs_of ?k_signs_of ?a_whole_cost ?l_whole_cost ?c_whole_cost ?k_whole_cost ?a_ticks_cost ?l_ticks_cost ?c_ticks_cost ?k_ticks_cost ?a__law_take ?l__law_take ?c__law_take ?k__law_take ?a__law_of ?l__law_of ?c__law_of ?k__law_of ?a__law_odd ?l__law_odd ?c__law_odd ?k__law_odd ?a__law_is_int ?l__law_is_int ?c__law_is_int ?k__law_is_int ?a__law_is_fraction ?l__law_is_fraction ?c__law_is_fraction ?k__law_is_fraction ?a__law_are_ticks ?l__law_are_ticks ?c__law_are_ticks ?k__law_are_ticks ?a__law_heard ?l__law_heard ?c__law_heard ?k__law_heard ?a__law_are_refused ?l__law_are_refused ?c__law_are_refused ?k__law_are_refused ?hc__law_are_refused ?a__law_ticks ?l__law_ticks ?c__law_ticks ?k__law_ticks ?a__law_wishes ?l__law_wishes ?c__law_wishes ?k__law_wishes ?a__law_right ?l__law_right ?c__law_right ?k__law_right ?a_law ?l_law ?c_law ?k_law ?z_max ?z_min ?z_len ?z_list ?z_range ?z_sum ?z_int ?z_abs ?z_str ?z_isinstance ?z_bool ?z_all ?z_tuple ?z_repr ?z_super ?z_gcd ?z_BEYOND_TICKS ?lc_DIGITS_1 ?z_DIGITS ?z_FEWEST ?z_MOST_TICKS ?z_BEYOND ?z_LEAST_WISH ?z_MOST_WISH ?z_MOST_WEIGHT ?z_STROKE ?z_PictureError ?z_BadTicks ?z_BadRange ?z_BadWishes ?iC_BadRange ?q1_BadRange ?q2_BadRange ?q3_BadRange ?q4_BadRange ?q5_BadRange ?q6_BadRange ?q7_BadRange ?q8_BadRange ?q9_BadRange ?qa_BadRange ?e1_BadRange ?e2_BadRange ?e3_BadRange ?e4_BadRange ?e5_BadRange ?e6_BadRange ?e7_BadRange ?e8_BadRange ?t0_BadRange ?t1_BadRange ?t2_BadRange ?t3_BadRange ?t4_BadRange ?t5_BadRange ?t6_BadRange ?x_PictureError_BadRange ?y_BadRange_BadRange ?y_BadTicks_BadRange ?y_BadWishes_BadRange ?iC_BadTicks ?q1_BadTicks ?q2_BadTicks ?q3_BadTicks ?q4_BadTicks ?q5_BadTicks ?q6_BadTicks ?q7_BadTicks ?q8_BadTicks ?q9_BadTicks ?qa_BadTicks ?e1_BadTicks ?e2_BadTicks ?e3_BadTicks ?e4_BadTicks ?e5_BadTicks ?e6_BadTicks ?e7_BadTicks ?e8_BadTicks ?t0_BadTicks ?t1_BadTicks ?t2_BadTicks ?t3_BadTicks ?t4_BadTicks ?t5_BadTicks ?t6_BadTicks ?x_PictureError_BadTicks ?y_BadRange_BadTicks ?y_BadTicks_BadTicks ?y_BadWishes_BadTicks ?iC_BadWishes ?q1_BadWishes ?q2_BadWishes ?q3_BadWishes ?q4_BadWishes ?q5_BadWishes ?q6_BadWishes ?q7_BadWishes ?q8_BadWishes ?q9_BadWishes ?qa_BadWishes ?e1_BadWishes ?e2_BadWishes ?e3_BadWishes ?e4_BadWishes ?e5_BadWishes ?e6_BadWishes ?e7_BadWishes ?e8_BadWishes ?t0_BadWishes ?t1_BadWishes ?t2_BadWishes ?t3_BadWishes ?t4_BadWishes ?t5_BadWishes ?t6_BadWishes ?x_PictureError_BadWishes ?y_BadRange_BadWishes ?y_BadTicks_BadWishes ?y_BadWishes_BadWishes ?lI ?tI ?w1 ?w2 ?w3 ?w4 ?w5 ?w6 ?w7 ?w8
    (case a__law_cells => k_is)
    (case a__law_pot => k_is)
    (case a__law_common => k_is)
    (case a__law_reduced => k_is)
    (case a__law_plus => k_is)
    (case a__law_times => k_is)
    (case a__law_values => k_is)
    (case a__law_less => k_is)
    (case a__law_power => k_is)
    (case a__law_parts => k_is)
    (case a__law_text => k_is)
    (case a__law_cost => k_is)
    (case a_is_integer => k_is)
    (case a_is_between => k_is)
    (case a_common => k_is)
    (case a_is_fraction => k_is)
    (case a_are_written => k_is)
    (case a_without_tens => k_is)
    (case a_parts_of_step => k_is)
    (case a_reduced => k_is)
    (case a_quotient => k_is)
    (case a_is_ticks => k_is)
    (case a_check_ticks => k_is)
    (case a_is_less => k_is)
    (case a_is_told_fraction => k_is)
    (case a_check_ends => k_is)
    (case a_are_wishes => k_is)
    (case a_check_wishes => k_is)
    (case a_added => k_is)
    (case a_product_of => k_is)
    (case a_last_of => k_is)
    (case a_do_cover => k_is)
    (case a_plain_cost => k_is)
    (case a_floor_of => k_is)
    (case a_ceiling_of => k_is)
    (case a_steps_around => k_is)
    (case a_steps_in_vain => k_is)
    (case a_fraction_text => k_is)
    (case a_values_of => k_is)
    (case a_signs_of => k_is)
    (case a_whole_cost => k_is)
    (case a_ticks_cost => k_is)
    (case a__law_take => k_is)
    (case a__law_of => k_is)
    (case a__law_odd => k_is)
    (case a__law_is_int => k_is)
    (case a__law_is_fraction => k_is)
    (case a__law_are_ticks => k_is)
    (case a__law_heard => k_is)
    (case a__law_are_refused => k_is)
    (case a__law_ticks => k_is)
    (case a__law_wishes => k_is)
    (case a__law_right => k_is)
    (case a_law => k_is)
    (case z_max => k_is)
    (case z_min => k_is)
    (case z_len => k_is)
    (case z_list => k_is)
    (case z_range => k_is)
    (case z_sum => k_is)
    (case z_int => k_is)
    (case z_abs => k_is)
    (case z_str => k_is)
    (case z_isinstance => k_is)
    (case z_bool => k_is)
    (case z_all => k_is)
    (case z_tuple => k_is)
    (case z_repr => k_is)
    (case z_super => k_is)
    (case z_gcd => k_is)
    (case z_BEYOND_TICKS => k_is)
    (case z_DIGITS => k_is)
    (case z_FEWEST => k_is)
    (case z_MOST_TICKS => k_is)
    (case z_BEYOND => k_is)
    (case z_LEAST_WISH => k_is)
    (case z_MOST_WISH => k_is)
    (case z_MOST_WEIGHT => k_is)
    (case z_STROKE => k_is)
    (case z_PictureError => k_is)
    (case z_BadTicks => k_is)
    (case z_BadRange => k_is)
    (case z_BadWishes => k_is)
    (case l__law_cells => k_is)
    (case l__law_pot => k_is)
    (case l__law_common => k_is)
    (case l__law_reduced => k_is)
    (case l__law_plus => k_is)
    (case l__law_times => k_is)
    (case l__law_values => k_is)
    (case l__law_less => k_is)
    (case l__law_power => k_is)
    (case l__law_parts => k_is)
    (case l__law_text => k_is)
    (case l__law_cost => k_is)
    (case l_is_integer => k_is)
    (case l_is_between => k_is)
    (case l_common => k_is)
    (case l_is_fraction => k_is)
    (case l_are_written => k_is)
    (case l_without_tens => k_is)
    (case l_parts_of_step => k_is)
    (case l_reduced => k_is)
    (case l_quotient => k_is)
    (case l_is_ticks => k_is)
    (case l_check_ticks => k_is)
    (case l_is_less => k_is)
    (case l_is_told_fraction => k_is)
    (case l_check_ends => k_is)
    (case l_are_wishes => k_is)
    (case l_check_wishes => k_is)
    (case l_added => k_is)
    (case l_product_of => k_is)
    (case l_last_of => k_is)
    (case l_do_cover => k_is)
    (case l_plain_cost => k_is)
    (case l_floor_of => k_is)
    (case l_ceiling_of => k_is)
    (case l_steps_around => k_is)
    (case l_steps_in_vain => k_is)
    (case l_fraction_text => k_is)
    (case l_values_of => k_is)
    (case l_signs_of => k_is)
    (case l_whole_cost => k_is)
    (case l_ticks_cost => k_is)
    (case l__law_take => k_is)
    (case l__law_of => k_is)
    (case l__law_odd => k_is)
    (case l__law_is_int => k_is)
    (case l__law_is_fraction => k_is)
    (case l__law_are_ticks => k_is)
    (case l__law_heard => k_is)
    (case l__law_are_refused => k_is)
    (case l__law_ticks => k_is)
    (case l__law_wishes => k_is)
    (case l__law_right => k_is)
    (case l_law => k_is)
    (case lc_DIGITS_1 => k_is)
    (case c__law_cells => k_is)
    (case k__law_cells => k_is)
    (case c__law_pot => k_is)
    (case k__law_pot => k_is)
    (case c__law_common => k_is)
    (case k__law_common => k_is)
    (case c__law_reduced => k_is)
    (case k__law_reduced => k_is)
    (case c__law_plus => k_is)
    (case k__law_plus => k_is)
    (case c__law_times => k_is)
    (case k__law_times => k_is)
    (case c__law_values => k_is)
    (case k__law_values => k_is)
    (case c__law_less => k_is)
    (case k__law_less => k_is)
    (case c__law_power => k_is)
    (case k__law_power => k_is)
    (case c__law_parts => k_is)
    (case k__law_parts => k_is)
    (case c__law_text => k_is)
    (case k__law_text => k_is)
    (case c__law_cost => k_is)
    (case k__law_cost => k_is)
    (case c_is_integer => k_is)
    (case k_is_integer => k_is)
    (case c_is_between => k_is)
    (case k_is_between => k_is)
    (case c_common => k_is)
    (case k_common => k_is)
    (case c_is_fraction => k_is)
    (case k_is_fraction => k_is)
    (case c_are_written => k_is)
    (case k_are_written => k_is)
    (case c_without_tens => k_is)
    (case k_without_tens => k_is)
    (case c_parts_of_step => k_is)
    (case k_parts_of_step => k_is)
    (case c_reduced => k_is)
    (case k_reduced => k_is)
    (case c_quotient => k_is)
    (case k_quotient => k_is)
    (case c_is_ticks => k_is)
    (case k_is_ticks => k_is)
    (case c_check_ticks => k_is)
    (case k_check_ticks => k_is)
    (case c_is_less => k_is)
    (case k_is_less => k_is)
    (case c_is_told_fraction => k_is)
    (case k_is_told_fraction => k_is)
    (case c_check_ends => k_is)
    (case k_check_ends => k_is)
    (case c_are_wishes => k_is)
    (case k_are_wishes => k_is)
    (case c_check_wishes => k_is)
    (case k_check_wishes => k_is)
    (case c_added => k_is)
    (case k_added => k_is)
    (case c_product_of => k_is)
    (case k_product_of => k_is)
    (case c_last_of => k_is)
    (case k_last_of => k_is)
    (case c_do_cover => k_is)
    (case k_do_cover => k_is)
    (case c_plain_cost => k_is)
    (case k_plain_cost => k_is)
    (case c_floor_of => k_is)
    (case k_floor_of => k_is)
    (case c_ceiling_of => k_is)
    (case k_ceiling_of => k_is)
    (case c_steps_around => k_is)
    (case k_steps_around => k_is)
    (case c_steps_in_vain => k_is)
    (case k_steps_in_vain => k_is)
    (case c_fraction_text => k_is)
    (case k_fraction_text => k_is)
    (case c_values_of => k_is)
    (case k_values_of => k_is)
    (case c_signs_of => k_is)
    (case k_signs_of => k_is)
    (case c_whole_cost => k_is)
    (case k_whole_cost => k_is)
    (case c_ticks_cost => k_is)
    (case k_ticks_cost => k_is)
    (case c__law_take => k_is)
    (case k__law_take => k_is)
    (case c__law_of => k_is)
    (case k__law_of => k_is)
    (case c__law_odd => k_is)
    (case k__law_odd => k_is)
    (case c__law_is_int => k_is)
    (case k__law_is_int => k_is)
    (case c__law_is_fraction => k_is)
    (case k__law_is_fraction => k_is)
    (case c__law_are_ticks => k_is)
    (case k__law_are_ticks => k_is)
    (case c__law_heard => k_is)
    (case k__law_heard => k_is)
    (case c__law_are_refused => k_is)
    (case k__law_are_refused => k_is)
    (case hc__law_are_refused => first | rfl | decide +kernel)
    (case c__law_ticks => k_is)
    (case k__law_ticks => k_is)
    (case c__law_wishes => k_is)
    (case k__law_wishes => k_is)
    (case c__law_right => k_is)
    (case k__law_right => k_is)
    (case c_law => k_is)
    (case k_law => k_is)
    (case iC_BadRange => k_is)
    (case q1_BadRange => k_is)
    (case q2_BadRange => first | kernel_rfl | k_is)
    (case q3_BadRange => k_is)
    (case q4_BadRange => k_is)
    (case q5_BadRange => k_is)
    (case q6_BadRange => first | rfl | decide +kernel)
    (case q7_BadRange => k_is)
    (case q8_BadRange => k_is)
    (case q9_BadRange => k_is)
    (case qa_BadRange => k_is)
    (case e1_BadRange => first | kernel_rfl | k_is)
    (case e2_BadRange => k_is)
    (case e3_BadRange => k_is)
    (case e4_BadRange => k_is)
    (case e5_BadRange => k_is)
    (case e6_BadRange => k_is)
    (case e7_BadRange => k_is)
    (case e8_BadRange => k_is)
    (case t0_BadRange => first | kernel_rfl | k_is)
    (case t1_BadRange => first | kernel_rfl | k_is)
    (case t2_BadRange => first | kernel_rfl | k_is)
    (case t3_BadRange => first | kernel_rfl | k_is)
    (case t4_BadRange => first | kernel_rfl | k_is)
    (case t5_BadRange => first | kernel_rfl | k_is)
    (case t6_BadRange => first | kernel_rfl | k_is)
    (case x_PictureError_BadRange => first | kernel_rfl | k_is)
    (case y_BadRange_BadRange => first | kernel_rfl | k_is)
    (case y_BadTicks_BadRange => first | kernel_rfl | k_is)
    (case y_BadWishes_BadRange => first | kernel_rfl | k_is)
    (case iC_BadTicks => k_is)
    (case q1_BadTicks => k_is)
    (case q2_BadTicks => first | kernel_rfl | k_is)
    (case q3_BadTicks => k_is)
    (case q4_BadTicks => k_is)
    (case q5_BadTicks => k_is)
    (case q6_BadTicks => first | rfl | decide +kernel)
    (case q7_BadTicks => k_is)
    (case q8_BadTicks => k_is)
    (case q9_BadTicks => k_is)
    (case qa_BadTicks => k_is)
    (case e1_BadTicks => first | kernel_rfl | k_is)
    (case e2_BadTicks => k_is)
    (case e3_BadTicks => k_is)
    (case e4_BadTicks => k_is)
    (case e5_BadTicks => k_is)
    (case e6_BadTicks => k_is)
    (case e7_BadTicks => k_is)
    (case e8_BadTicks => k_is)
    (case t0_BadTicks => first | kernel_rfl | k_is)
    (case t1_BadTicks => first | kernel_rfl | k_is)
    (case t2_BadTicks => first | kernel_rfl | k_is)
    (case t3_BadTicks => first | kernel_rfl | k_is)
    (case t4_BadTicks => first | kernel_rfl | k_is)
    (case t5_BadTicks => first | kernel_rfl | k_is)
    (case t6_BadTicks => first | kernel_rfl | k_is)
    (case x_PictureError_BadTicks => first | kernel_rfl | k_is)
    (case y_BadRange_BadTicks => first | kernel_rfl | k_is)
    (case y_BadTicks_BadTicks => first | kernel_rfl | k_is)
    (case y_BadWishes_BadTicks => first | kernel_rfl | k_is)
    (case iC_BadWishes => k_is)
    (case q1_BadWishes => k_is)
    (case q2_BadWishes => first | kernel_rfl | k_is)
    (case q3_BadWishes => k_is)
    (case q4_BadWishes => k_is)
    (case q5_BadWishes => k_is)
    (case q6_BadWishes => first | rfl | decide +kernel)
    (case q7_BadWishes => k_is)
    (case q8_BadWishes => k_is)
    (case q9_BadWishes => k_is)
    (case qa_BadWishes => k_is)
    (case e1_BadWishes => first | kernel_rfl | k_is)
    (case e2_BadWishes => k_is)
    (case e3_BadWishes => k_is)
    (case e4_BadWishes => k_is)
    (case e5_BadWishes => k_is)
    (case e6_BadWishes => k_is)
    (case e7_BadWishes => k_is)
    (case e8_BadWishes => k_is)
    (case t0_BadWishes => first | kernel_rfl | k_is)
    (case t1_BadWishes => first | kernel_rfl | k_is)
    (case t2_BadWishes => first | kernel_rfl | k_is)
    (case t3_BadWishes => first | kernel_rfl | k_is)
    (case t4_BadWishes => first | kernel_rfl | k_is)
    (case t5_BadWishes => first | kernel_rfl | k_is)
    (case t6_BadWishes => first | kernel_rfl | k_is)
    (case x_PictureError_BadWishes => first | kernel_rfl | k_is)
    (case y_BadRange_BadWishes => first | kernel_rfl | k_is)
    (case y_BadTicks_BadWishes => first | kernel_rfl | k_is)
    (case y_BadWishes_BadWishes => first | kernel_rfl | k_is)
    (case lI => k_is)
    (case tI => first | kernel_rfl | k_is)
    (case w1 => k_is)
    (case w2 => first | rfl | decide +kernel)
    (case w3 => first | rfl | decide +kernel)
    (case w4 => k_is)
    (case w5 => k_is)
    (case w6 => k_is)
    (case w7 => first | rfl | decide +kernel)
    (case w8 => k_is)
