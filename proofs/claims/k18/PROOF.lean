import PyProof.Rows.All
import Wide.All
import OpenK.AllK
import Wide.FinOn
import HandS.ForMost
import HandS.Evl
import HandS.IsInst
import HandS.Wide
import HandS.WideBits
import HandS.Walk
import HandS.Style
import HandS.Defaults
import HandS.Zip
import KE.KMathGC
import HandS.Gcd
import HandS.Star
import HandS.WordsDict
import HandS.EndBits
import HandS.SetFor
import HandS.Strs
import HandS.SortRule
import HandS.SortInts
import KE.KRevSl
import HandS.More
import HandS.ForDict
import HandS.Deep
import HandS.Conv
import HandS.TupMul
import PyProof.ReprLen
import KE.IntBitsLaws
import PySem.Challenge.RW_boundtobe_k18_whole_triples_of_twenty_fo
set_option Elab.async false
set_option linter.all false
set_option maxRecDepth 100000
set_option maxHeartbeats 1000000
/-! DL: a layer of plain data over the hand layer: what stands in the slots is told as PyData, the heap is kept behind it. -/
namespace DL
open PySem L2 Evl

mutual
/-- the data at a value -/
inductive Rp (G : Hp) : V → PyData → Prop where
  | non : Rp G .non .none
  | bl (b : Bool) : Rp G (.bl b) (.bool b)
  | int (i : Int) : Rp G (.int i) (.int i)
  | str (x : Str) : Rp G (.str x) (.str x)
  | lst {a : Addr} {xs : List V} {ds : List PyData} : G a = some (.lst xs) → RpAll G xs ds → Rp G (.ref a) (.list ds)
  | tup {a : Addr} {xs : List V} {ds : List PyData} : G a = some (.tup xs) → RpAll G xs ds → Rp G (.ref a) (.tuple ds)
inductive RpAll (G : Hp) : List V → List PyData → Prop where
  | nil : RpAll G [] []
  | cons {v : V} {vs : List V} {d : PyData} {ds : List PyData} : Rp G v d → RpAll G vs ds → RpAll G (v :: vs) (d :: ds)
end
mutual
theorem Rp.mono {G G' : Hp} (e : Ex G G') : ∀ (d : PyData) (v : V), Rp G v d → Rp G' v d
  | .none, _, h => by cases h; exact .non
  | .bool b, _, h => by cases h; exact .bl b
  | .int i, _, h => by cases h; exact .int i
  | .str x, _, h => by cases h; exact .str x
  | .list ds, _, h => by
    cases h with
    | lst h1 h2 => exact .lst (e _ _ h1) (RpAll.mono e ds _ h2)
  | .tuple ds, _, h => by
    cases h with
    | tup h1 h2 => exact .tup (e _ _ h1) (RpAll.mono e ds _ h2)
  | .dict _, _, h => nomatch h
theorem RpAll.mono {G G' : Hp} (e : Ex G G') : ∀ (ds : List PyData) (vs : List V), RpAll G vs ds → RpAll G' vs ds
  | [], _, h => by cases h; exact .nil
  | d :: ds, _, h => by
    cases h with
    | cons h1 h2 => exact .cons (Rp.mono e d _ h1) (RpAll.mono e ds _ h2)
end
theorem Rp.up {G G' : Hp} {v : V} {d : PyData} (h : Rp G v d) (e : Ex G G') : Rp G' v d := Rp.mono e d v h
theorem RpAll.up {G G' : Hp} {vs : List V} {ds : List PyData} (h : RpAll G vs ds) (e : Ex G G') : RpAll G' vs ds := RpAll.mono e ds vs h
mutual
theorem Rp.dp0 {K : PySem.W.Frag} {G H : Hp} (e : Ex G H) : ∀ (d : PyData) (v : V), Rp G v d → Dp K H v d
  | .none, _, h => by cases h; exact .non
  | .bool b, _, h => by cases h; exact .bl b
  | .int i, _, h => by cases h; exact .int i
  | .str x, _, h => by cases h; exact .str x
  | .list ds, _, h => by
    cases h with
    | lst h1 h2 => exact .lst (SqL.of (e _ _ h1)) (RpAll.dp0 e ds _ h2)
  | .tuple ds, _, h => by
    cases h with
    | tup h1 h2 => exact .tup (SqT.of (e _ _ h1)) (RpAll.dp0 e ds _ h2)
  | .dict _, _, h => nomatch h
theorem RpAll.dp0 {K : PySem.W.Frag} {G H : Hp} (e : Ex G H) : ∀ (ds : List PyData) (vs : List V), RpAll G vs ds → DpAll K H vs ds
  | [], _, h => by cases h; exact .nil
  | d :: ds, _, h => by
    cases h with
    | cons h1 h2 => exact .cons (Rp.dp0 e d _ h1) (RpAll.dp0 e ds _ h2)
end
section
variable {G : Hp} {vs ws : List V} {ds es : List PyData} {v : V} {d : PyData}
theorem RpAll.len : ∀ {vs : List V} {ds : List PyData}, RpAll G vs ds → vs.length = ds.length
  | _, _, .nil => rfl
  | _, _, .cons _ t => by rw [List.length_cons, List.length_cons, RpAll.len t]
theorem RpAll.app : ∀ {vs ws : List V} {ds es : List PyData}, RpAll G vs ds → RpAll G ws es → RpAll G (vs ++ ws) (ds ++ es)
  | _, _, _, _, .nil, h => h
  | _, _, _, _, .cons r t, h => .cons r (RpAll.app t h)
theorem RpAll.take : ∀ {vs : List V} {ds : List PyData} (n : Nat), RpAll G vs ds → RpAll G (vs.take n) (ds.take n)
  | _, _, 0, _ => .nil
  | _, _, _ + 1, .nil => .nil
  | _, _, n + 1, .cons r t => .cons r (RpAll.take n t)
theorem RpAll.drop : ∀ {vs : List V} {ds : List PyData} (n : Nat), RpAll G vs ds → RpAll G (vs.drop n) (ds.drop n)
  | _, _, 0, h => h
  | _, _, _ + 1, .nil => .nil
  | _, _, n + 1, .cons _ t => RpAll.drop n t
theorem RpAll.rev : ∀ {vs : List V} {ds : List PyData}, RpAll G vs ds → RpAll G vs.reverse ds.reverse
  | _, _, .nil => .nil
  | _, _, .cons r t => by
    rw [List.reverse_cons, List.reverse_cons]
    exact RpAll.app (RpAll.rev t) (.cons r .nil)
theorem RpAll.at : ∀ {vs : List V} {ds : List PyData} {i : Nat} {d : PyData}, RpAll G vs ds → ds[i]? = some d → ∃ v, vs[i]? = some v ∧ Rp G v d
  | _, _, _, _, .nil, h => by simp at h
  | _, _, 0, _, .cons r _, h => by
    have e := Option.some.inj h
    subst e
    exact ⟨_, rfl, r⟩
  | _, _, i + 1, _, .cons _ t, h => RpAll.at (i := i) t (by simpa using h)
theorem RpAll.atv : ∀ {vs : List V} {ds : List PyData} {i : Nat} {v : V}, RpAll G vs ds → vs[i]? = some v → ∃ d, ds[i]? = some d ∧ Rp G v d
  | _, _, _, _, .nil, h => by simp at h
  | _, _, 0, _, .cons r _, h => by
    have e := Option.some.inj h
    subst e
    exact ⟨_, rfl, r⟩
  | _, _, i + 1, _, .cons _ t, h => RpAll.atv (i := i) t (by simpa using h)
theorem RpAll.put : ∀ {vs : List V} {ds : List PyData} (i : Nat) {v : V} {d : PyData}, RpAll G vs ds → Rp G v d → RpAll G (vs.set i v) (ds.set i d)
  | _, _, _, _, _, .nil, _ => .nil
  | _, _, 0, _, _, .cons _ t, h => .cons h t
  | _, _, i + 1, _, _, .cons r t, h => .cons r (RpAll.put i t h)
theorem RpAll.ints : ∀ {vs : List V} {ns : List Int}, RpAll G vs (ns.map PyData.int) → vs = ns.map V.int
  | _, [], h => by cases h; rfl
  | _, n :: ns, h => by
    cases h with
    | cons h1 h2 =>
      cases h1
      rw [RpAll.ints h2] <;> rfl
theorem RpAll.bools : ∀ {vs : List V} {bs : List Bool}, RpAll G vs (bs.map PyData.bool) → vs = bs.map V.bl
  | _, [], h => by cases h; rfl
  | _, n :: ns, h => by
    cases h with
    | cons h1 h2 =>
      cases h1
      rw [RpAll.bools h2] <;> rfl
theorem rp_ints : ∀ (ns : List Int), RpAll G (ns.map V.int) (ns.map PyData.int)
  | [] => .nil
  | n :: ns => .cons (.int n) (rp_ints ns)
end

mutual
/-- the data at a value, S: its lists in the order in which they end -/
inductive TrS (G : Hp) : V → PyData → List Addr → Prop where
  | non : TrS G .non .none []
  | bl (b : Bool) : TrS G (.bl b) (.bool b) []
  | int (i : Int) : TrS G (.int i) (.int i) []
  | str (x : Str) : TrS G (.str x) (.str x) []
  | lst {a : Addr} {xs : List V} {ds : List PyData} {S : List Addr} : G a = some (.lst xs) → TrSAll G xs ds S → TrS G (.ref a) (.list ds) (S ++ [a])
  | tup {a : Addr} {xs : List V} {ds : List PyData} {S : List Addr} : G a = some (.tup xs) → TrSAll G xs ds S → TrS G (.ref a) (.tuple ds) S
inductive TrSAll (G : Hp) : List V → List PyData → List Addr → Prop where
  | nil : TrSAll G [] [] []
  | cons {v : V} {vs : List V} {d : PyData} {ds : List PyData} {S T : List Addr} : TrS G v d S → TrSAll G vs ds T → TrSAll G (v :: vs) (d :: ds) (S ++ T)
end
mutual
/-- G' holds what this tree leans on -/
theorem TrS.to {G G' : Hp} : ∀ (d : PyData) (v : V) (S : List Addr), TrS G v d S → (∀ a xs, G a = some (.tup xs) → G' a = some (.tup xs)) → (∀ a ∈ S, ∀ o, G a = some o → G' a = some o) → TrS G' v d S
  | .none, _, _, h, _, _ => by cases h; exact .non
  | .bool b, _, _, h, _, _ => by cases h; exact .bl b
  | .int i, _, _, h, _, _ => by cases h; exact .int i
  | .str x, _, _, h, _, _ => by cases h; exact .str x
  | .list ds, _, _, h, e, l => by
    cases h with
    | lst h1 h2 => exact .lst (l _ (List.mem_append_right _ (List.mem_singleton.mpr rfl)) _ h1) (TrSAll.to ds _ _ h2 e fun a ha => l a (List.mem_append_left _ ha))
  | .tuple ds, _, _, h, e, l => by
    cases h with
    | tup h1 h2 => exact .tup (e _ _ h1) (TrSAll.to ds _ _ h2 e l)
  | .dict _, _, _, h, _, _ => nomatch h
theorem TrSAll.to {G G' : Hp} : ∀ (ds : List PyData) (vs : List V) (S : List Addr), TrSAll G vs ds S → (∀ a xs, G a = some (.tup xs) → G' a = some (.tup xs)) → (∀ a ∈ S, ∀ o, G a = some o → G' a = some o) → TrSAll G' vs ds S
  | [], _, _, h, _, _ => by cases h; exact .nil
  | d :: ds, _, _, h, e, l => by
    cases h with
    | cons h1 h2 => exact .cons (TrS.to d _ _ h1 e fun a ha => l a (List.mem_append_left _ ha)) (TrSAll.to ds _ _ h2 e fun a ha => l a (List.mem_append_right _ ha))
end
theorem TrS.mono {G G' : Hp} (e : Ex G G') (d : PyData) (v : V) (S : List Addr) (h : TrS G v d S) : TrS G' v d S := TrS.to d v S h (fun a xs z => e _ _ z) fun a _ o z => e _ _ z
mutual
theorem TrS.rp {G : Hp} : ∀ (d : PyData) (v : V) (S : List Addr), TrS G v d S → Rp G v d
  | .none, _, _, h => by cases h; exact .non
  | .bool b, _, _, h => by cases h; exact .bl b
  | .int i, _, _, h => by cases h; exact .int i
  | .str x, _, _, h => by cases h; exact .str x
  | .list ds, _, _, h => by
    cases h with
    | lst h1 h2 => exact .lst h1 (TrSAll.rp ds _ _ h2)
  | .tuple ds, _, _, h => by
    cases h with
    | tup h1 h2 => exact .tup h1 (TrSAll.rp ds _ _ h2)
  | .dict _, _, _, h => nomatch h
theorem TrSAll.rp {G : Hp} : ∀ (ds : List PyData) (vs : List V) (S : List Addr), TrSAll G vs ds S → RpAll G vs ds
  | [], _, _, h => by cases h; exact .nil
  | d :: ds, _, _, h => by
    cases h with
    | cons h1 h2 => exact .cons (TrS.rp d _ _ h1) (TrSAll.rp ds _ _ h2)
end
mutual
/-- no list in it -/
def inert : PyData → Bool
  | .list _ => false
  | .tuple ds => inertAll ds
  | .dict _ => false
  | _ => true
def inertAll : List PyData → Bool
  | [] => true
  | d :: ds => inert d && inertAll ds
end
mutual
theorem inert_tr {G : Hp} : ∀ (d : PyData) (v : V), Rp G v d → inert d = true → TrS G v d []
  | .none, _, h, _ => by cases h; exact .non
  | .bool b, _, h, _ => by cases h; exact .bl b
  | .int i, _, h, _ => by cases h; exact .int i
  | .str x, _, h, _ => by cases h; exact .str x
  | .list ds, _, h, i => nomatch i
  | .tuple ds, _, h, i => by
    cases h with
    | tup h1 h2 => exact .tup h1 (inert_trAll ds _ h2 i)
  | .dict _, _, h, _ => nomatch h
theorem inert_trAll {G : Hp} : ∀ (ds : List PyData) (vs : List V), RpAll G vs ds → inertAll ds = true → TrSAll G vs ds []
  | [], _, h, _ => by cases h; exact .nil
  | d :: ds, _, h, i => by
    have i : (inert d && inertAll ds) = true := i
    rw [Bool.and_eq_true] at i
    cases h with
    | cons h1 h2 => exact .cons (S := []) (T := []) (inert_tr d _ h1 i.1) (inert_trAll ds _ h2 i.2)
end
mutual
/-- depth below n, no list too long -/
def fitD : Nat → PyData → Bool
  | 0, _ => false
  | n + 1, .list ds => decide (ds.length ≤ 100000) && fitAll n ds
  | n + 1, .tuple ds => decide (ds.length ≤ 100000) && fitAll n ds
  | _ + 1, .dict _ => false
  | _ + 1, .str x => SeqAt.shaped (.str x)
  | _ + 1, _ => true
def fitAll : Nat → List PyData → Bool
  | _, [] => true
  | n, d :: ds => fitD n d && fitAll n ds
end
theorem fitAll_mem {n : Nat} : ∀ {ds : List PyData}, fitAll n ds = true → ∀ d ∈ ds, fitD n d = true
  | [], _, d, h => nomatch h
  | e :: ds, i, d, h => by
    have i : (fitD n e && fitAll n ds) = true := by unfold fitAll at i; exact i
    rw [Bool.and_eq_true] at i
    rcases List.mem_cons.mp h with rfl | h
    · exact i.1
    · exact fitAll_mem i.2 d h
theorem fitAll_of {n : Nat} : ∀ {ds : List PyData}, (∀ d ∈ ds, fitD n d = true) → fitAll n ds = true
  | [], _ => by unfold fitAll; rfl
  | e :: ds, h => by
    unfold fitAll
    rw [h e List.mem_cons_self, fitAll_of fun d hd => h d (List.mem_cons_of_mem _ hd)]
    rfl

/-! ### slots -/
inductive Sl where
  | no
  | val (d : PyData)
  /-- a list of one's own -/
  | own (ds : List PyData)
  /-- a list of the caller's that may be changed -/
  | pur (ds : List PyData)
  /-- a dict of one's own -/
  | dic (kvs : List (Key × PyData))
  /-- the script -/
  | scr (K : PySem.W.Frag) (ns : List Int)
  /-- data that lean on nothing new -/
  | bas (d : PyData)
  /-- data whose lists are all new and no two of them one -/
  | tld (d : PyData)
abbrev Rho := List Sl
def Sl.mt : Sl → Bool
  | .own _ => true
  | .pur _ => true
  | .dic _ => true
  | _ => false
/-- what an entry of a def knows: what its data lean on, the heap, the addresses that it may change; pin: objects that are under way -/
structure Co where
  G0 : Hp
  H0 : Hp
  P : List Addr
  pin : List (Addr × HO)
structure Fin (c : Co) (G H : Hp) : Prop where
  g0 : Ex c.G0 G
  fr : ∀ a, c.H0 a ≠ none → c.G0 a = none → G a = none
  gh : Ex G H
  hh : ∀ a o, c.H0 a = some o → a ∉ c.P → H a = some o
  dom : ∀ a, c.H0 a ≠ none → H a ≠ none
inductive KvRp (G : Hp) : List (Key × V) → List (Key × PyData) → Prop where
  | nil : KvRp G [] []
  | cons {k : Key} {v : V} {d : PyData} {r : List (Key × V)} {s : List (Key × PyData)} : Rp G v d → KvRp G r s → KvRp G ((k, v) :: r) ((k, d) :: s)
def SlOk (c : Co) (G H : Hp) (x : Option (Option V)) : Sl → Prop
  | .no => True
  | .val d => ∃ v, x = some (some v) ∧ Rp G v d
  | .own ds => ∃ a xs, x = some (some (.ref a)) ∧ H a = some (.lst xs) ∧ RpAll G xs ds ∧ G a = none ∧ c.H0 a = none
  | .pur ds => ∃ a xs, x = some (some (.ref a)) ∧ H a = some (.lst xs) ∧ RpAll G xs ds ∧ G a = none ∧ a ∈ c.P
  | .dic kvs => ∃ a kws, x = some (some (.ref a)) ∧ H a = some (.dK kws) ∧ KvRp G kws kvs ∧ G a = none ∧ c.H0 a = none
  | .scr K ns => ∃ a, x = some (some (.ref a)) ∧ ((∃ o, c.H0 a = some (.frz o (.lst (ns.map V.int))) ∧ a ∉ c.P) ∨ ∀ H' : Hp, SqL K H' a (ns.map V.int))
  | .bas d => ∃ v, x = some (some v) ∧ Rp c.G0 v d
  | .tld d => ∃ v S, x = some (some v) ∧ TrS G v d S ∧ S.Nodup ∧ ∀ a ∈ S, c.H0 a = none
structure Rep (c : Co) (G : Hp) (σ : L2.St) (H : Hp) (ρ : Rho) : Prop extends Fin c G H where
  len : ρ.length = σ.length
  ok : ∀ (i : Nat) (s : Sl), ρ[i]? = some s → SlOk c G H (σ[i]?) s
  sep : ∀ (i j : Nat) (s t : Sl), i ≠ j → ρ[i]? = some s → ρ[j]? = some t → s.mt = true → t.mt = true → σ[i]? ≠ σ[j]?
  pins : ∀ q ∈ c.pin, H q.1 = some q.2 ∧ G q.1 = none ∧ ∀ (i : Nat) (s : Sl), ρ[i]? = some s → s.mt = true → σ[i]? ≠ some (some (.ref q.1))

theorem KvRp.up {G G' : Hp} (e : Ex G G') : ∀ {a : List (Key × V)} {b : List (Key × PyData)}, KvRp G a b → KvRp G' a b
  | _, _, .nil => .nil
  | _, _, .cons h t => .cons (h.up e) (KvRp.up e t)

section
variable {c : Co} {G G' H H' : Hp} {σ : L2.St} {ρ : Rho}
/-- the address of a slot that may be changed -/
theorem SlOk.adr {x : Option (Option V)} {s : Sl} (h : SlOk c G H x s) (m : s.mt = true) : ∃ a, x = some (some (.ref a)) ∧ G a = none ∧ H a ≠ none := by
  cases s with
  | no => cases m
  | val _ => cases m
  | scr _ _ => cases m
  | bas _ => cases m
  | tld _ => cases m
  | own ds => obtain ⟨a, xs, h1, h2, _, h4, _⟩ := h; exact ⟨a, h1, h4, by rw [h2]; exact fun z => nomatch z⟩
  | pur ds => obtain ⟨a, xs, h1, h2, _, h4, _⟩ := h; exact ⟨a, h1, h4, by rw [h2]; exact fun z => nomatch z⟩
  | dic ds => obtain ⟨a, xs, h1, h2, _, h4, _⟩ := h; exact ⟨a, h1, h4, by rw [h2]; exact fun z => nomatch z⟩
/-- data grow, the object of the slot stays -/
theorem SlOk.go {x : Option (Option V)} {s : Sl} (h : SlOk c G H x s) (e : Ex G G') (k : ∀ a o, x = some (some (.ref a)) → s.mt = true → H a = some o → H' a = some o ∧ G' a = none) : SlOk c G' H' x s := by
  cases s with
  | no => trivial
  | val d => obtain ⟨v, h1, h2⟩ := h; exact ⟨v, h1, h2.up e⟩
  | scr K ns => exact h
  | bas _ => exact h
  | tld d => obtain ⟨v, S, h1, h2, h3⟩ := h; exact ⟨v, S, h1, TrS.mono e d v S h2, h3⟩
  | own ds => obtain ⟨a, xs, h1, h2, h3, h4, h5⟩ := h; exact ⟨a, xs, h1, (k a _ h1 rfl h2).1, h3.up e, (k a _ h1 rfl h2).2, h5⟩
  | pur ds => obtain ⟨a, xs, h1, h2, h3, h4, h5⟩ := h; exact ⟨a, xs, h1, (k a _ h1 rfl h2).1, h3.up e, (k a _ h1 rfl h2).2, h5⟩
  | dic ds => obtain ⟨a, xs, h1, h2, h3, h4, h5⟩ := h; exact ⟨a, xs, h1, (k a _ h1 rfl h2).1, h3.up e, (k a _ h1 rfl h2).2, h5⟩
/-- the data and the heap grow, all that stood stands; new data lie at new addresses -/
theorem Rep.grow (r : Rep c G σ H ρ) (e : Ex G G') (k : Ex H H') (n : ∀ a, H a ≠ none → G a = none → G' a = none) (gh : Ex G' H') : Rep c G' σ H' ρ where
  g0 := r.g0.trans e
  fr := fun a h1 h2 => n a (r.dom a h1) (r.fr a h1 h2)
  gh := gh
  hh := fun a o h1 h2 => k a o (r.hh a o h1 h2)
  dom := fun a h => by
    have h1 := r.dom a h
    intro z
    cases q : H a with
    | none => exact h1 q
    | some o =>
      rw [k a o q] at z
      cases z
  len := r.len
  ok := fun i s h => (r.ok i s h).go e fun a o h1 h2 h3 => by
    obtain ⟨b, h4, h5, h6⟩ := (r.ok i s h).adr h2
    rw [h1] at h4
    cases h4
    exact ⟨k _ o h3, n _ h6 h5⟩
  sep := r.sep
  pins := fun q hq => by
    obtain ⟨h1, h2, h3⟩ := r.pins q hq
    exact ⟨k _ _ h1, n _ (by rw [h1]; exact fun z => nomatch z) h2, h3⟩
/-- a new object -/
def Out (G H : Hp) (u : V) (d : PyData) (H' : Hp) : Prop := (H' = H ∧ Rp G u d) ∨ ∃ p o, H p = none ∧ H' = upd H p o ∧ u = .ref p ∧ Rp (upd G p o) u d
theorem none_up {G H : Hp} (gh : Ex G H) {p : Addr} (h : H p = none) : G p = none := by
  cases q : G p with
  | none => rfl
  | some o =>
    rw [gh p o q] at h
    cases h
theorem Rep.new (r : Rep c G σ H ρ) {p : Addr} {o : HO} (hp : H p = none) : Rep c (upd G p o) σ (upd H p o) ρ := by
  have gp : G p = none := none_up r.gh hp
  refine r.grow (Ex.new gp) (Ex.new hp) (fun a h1 h2 => ?_) (fun a u h => ?_)
  · rw [upd_ne (fun z => h1 (by rw [z]; exact hp))]
    exact h2
  · by_cases z : a = p
    · subst z
      rw [upd_same] at h ⊢
      exact h
    · rw [upd_ne z] at h ⊢
      exact r.gh a u h
/-- a new object that is under way: no data lean on it -/
theorem Rep.newH (r : Rep c G σ H ρ) {p : Addr} {o : HO} (hp : H p = none) : Rep c G σ (upd H p o) ρ :=
  r.grow (Ex.refl G) (Ex.new hp) (fun a _ h2 => h2) (r.gh.trans (Ex.new hp))
theorem Rep.out (r : Rep c G σ H ρ) {u : V} {d : PyData} (o : Out G H u d H') : ∃ G', Ex G G' ∧ Rep c G' σ H' ρ ∧ Rp G' u d := by
  rcases o with ⟨rfl, h⟩ | ⟨p, o, hp, rfl, rfl, h⟩
  · exact ⟨G, Ex.refl G, r, h⟩
  · exact ⟨upd G p o, Ex.new (none_up r.gh hp), r.new hp, h⟩
theorem get_set {α : Type} {l : List α} {i j : Nat} {x y : α} (h : (l.set i x)[j]? = some y) : (j = i ∧ y = x ∧ i < l.length) ∨ (j ≠ i ∧ l[j]? = some y) := by
  by_cases e : i = j
  · subst e
    by_cases hi : i < l.length
    · rw [List.getElem?_set_self hi] at h
      exact .inl ⟨rfl, (Option.some.inj h).symm, hi⟩
    · rw [List.getElem?_eq_none (by rw [List.length_set]; omega)] at h
      cases h
  · rw [List.getElem?_set_ne e] at h
    exact .inr ⟨fun z => e z.symm, h⟩
theorem set_at {σ : L2.St} {i j : Nat} {x : Option V} (h : j ≠ i) : (σ.set i x)[j]? = σ[j]? := List.getElem?_set_ne (fun z => h z.symm)
/-- a slot gets a value -/
theorem Rep.setV (r : Rep c G σ H ρ) {i : Nat} {v : V} {d : PyData} (h : Rp G v d) : Rep c G (σ.set i (some v)) H (ρ.set i (.val d)) where
  g0 := r.g0
  fr := r.fr
  gh := r.gh
  hh := r.hh
  dom := r.dom
  len := by rw [List.length_set, List.length_set, r.len]
  ok := fun j s hs => by
    rcases get_set hs with ⟨rfl, rfl, hi⟩ | ⟨hj, hs⟩
    · rw [List.getElem?_set_self (by rw [← r.len]; exact hi)]
      exact ⟨v, rfl, h⟩
    · rw [set_at hj]
      exact r.ok j s hs
  sep := fun j l s t hjl h1 h2 m1 m2 => by
    rcases get_set h1 with ⟨_, rfl, _⟩ | ⟨hj, h1⟩
    · cases m1
    · rcases get_set h2 with ⟨_, rfl, _⟩ | ⟨hl, h2⟩
      · cases m2
      · rw [set_at hj, set_at hl]
        exact r.sep j l s t hjl h1 h2 m1 m2
  pins := fun q hq => by
    obtain ⟨h1, h2, h3⟩ := r.pins q hq
    refine ⟨h1, h2, fun j s hs m => ?_⟩
    rcases get_set hs with ⟨_, rfl, _⟩ | ⟨hj, hs⟩
    · cases m
    · rw [set_at hj]
      exact h3 j s hs m
/-- a slot is forgotten -/
theorem Rep.setNo (r : Rep c G σ H ρ) {i : Nat} {x : Option V} : Rep c G (σ.set i x) H (ρ.set i .no) where
  g0 := r.g0
  fr := r.fr
  gh := r.gh
  hh := r.hh
  dom := r.dom
  len := by rw [List.length_set, List.length_set, r.len]
  ok := fun j s hs => by
    rcases get_set hs with ⟨rfl, rfl, hi⟩ | ⟨hj, hs⟩
    · trivial
    · rw [set_at hj]
      exact r.ok j s hs
  sep := fun j l s t hjl h1 h2 m1 m2 => by
    rcases get_set h1 with ⟨_, rfl, _⟩ | ⟨hj, h1⟩
    · cases m1
    · rcases get_set h2 with ⟨_, rfl, _⟩ | ⟨hl, h2⟩
      · cases m2
      · rw [set_at hj, set_at hl]
        exact r.sep j l s t hjl h1 h2 m1 m2
  pins := fun q hq => by
    obtain ⟨h1, h2, h3⟩ := r.pins q hq
    refine ⟨h1, h2, fun j s hs m => ?_⟩
    rcases get_set hs with ⟨_, rfl, _⟩ | ⟨hj, hs⟩
    · cases m
    · rw [set_at hj]
      exact h3 j s hs m
/-- what is under way at p comes into a slot -/
theorem Rep.setM (r : Rep { c with pin := (p, o) :: c.pin } G σ H ρ) {i : Nat} {s : Sl} (h : s.mt = true) (ok : SlOk c G H (some (some (.ref p))) s) (hp : ∀ q ∈ c.pin, q.1 ≠ p) : Rep c G (σ.set i (some (.ref p))) H (ρ.set i s) where
  g0 := r.g0
  fr := r.fr
  gh := r.gh
  hh := r.hh
  dom := r.dom
  len := by rw [List.length_set, List.length_set, r.len]
  ok := fun j t hs => by
    rcases get_set hs with ⟨rfl, rfl, hi⟩ | ⟨hj, hs⟩
    · rw [List.getElem?_set_self (by rw [← r.len]; exact hi)]
      exact ok
    · rw [set_at hj]
      exact r.ok j t hs
  sep := fun j l t u hjl h1 h2 m1 m2 => by
    obtain ⟨_, _, h3⟩ := r.pins (p, o) List.mem_cons_self
    rcases get_set h1 with ⟨e1, _, hi⟩ | ⟨hj, k1⟩
    · rcases get_set h2 with ⟨e2, _, _⟩ | ⟨hl, k2⟩
      · exact absurd (e1.trans e2.symm) hjl
      · rw [e1, List.getElem?_set_self (by rw [← r.len]; exact hi), set_at hl]
        exact fun z => h3 l u k2 m2 z.symm
    · rcases get_set h2 with ⟨e2, _, hi⟩ | ⟨hl, k2⟩
      · rw [e2, List.getElem?_set_self (by rw [← r.len]; exact hi), set_at hj]
        exact fun z => h3 j t k1 m1 z
      · rw [set_at hj, set_at hl]
        exact r.sep j l t u hjl k1 k2 m1 m2
  pins := fun q hq => by
    obtain ⟨h1, h2, h3⟩ := r.pins q (List.mem_cons_of_mem _ hq)
    refine ⟨h1, h2, fun j t hs m => ?_⟩
    rcases get_set hs with ⟨rfl, rfl, hi⟩ | ⟨hj, hs⟩
    · rw [List.getElem?_set_self (by rw [← r.len]; exact hi)]
      intro z
      have z2 : p = q.1 := by
        have := Option.some.inj (Option.some.inj z)
        cases this
        rfl
      exact hp q hq z2.symm
    · rw [set_at hj]
      exact h3 j t hs m
/-- an object under way -/
theorem Rep.pinN (r : Rep c G σ H ρ) {p : Addr} {o : HO} (hp : H p = none) : Rep { c with pin := (p, o) :: c.pin } G σ (upd H p o) ρ := by
  have q := r.newH (o := o) hp
  refine ⟨⟨q.g0, q.fr, q.gh, q.hh, q.dom⟩, q.len, fun i s h => ?_, q.sep, fun z hz => ?_⟩
  · have := q.ok i s h
    cases s <;> exact this
  · rcases List.mem_cons.mp hz with rfl | hz
    · refine ⟨upd_same, none_up r.gh hp, fun i s h m z => ?_⟩
      obtain ⟨a, h1, _, h3⟩ := (r.ok i s h).adr m
      rw [z] at h1
      cases h1
      exact h3 hp
    · exact q.pins z hz
theorem Rep.unpin {z : Addr × HO} (r : Rep { c with pin := z :: c.pin } G σ H ρ) : Rep c G σ H ρ := by
  refine ⟨⟨r.g0, r.fr, r.gh, r.hh, r.dom⟩, r.len, fun i s h => ?_, r.sep, fun q hq => r.pins q (List.mem_cons_of_mem _ hq)⟩
  have := r.ok i s h
  cases s <;> exact this
/-- what is under way becomes data -/
theorem Rep.settle {p : Addr} {o : HO} (r : Rep { c with pin := (p, o) :: c.pin } G σ H ρ) (h0 : c.H0 p = none) (hp : ∀ q ∈ c.pin, q.1 ≠ p) : Ex G (upd G p o) ∧ Rep c (upd G p o) σ H ρ := by
  obtain ⟨h1, h2, h3⟩ := r.pins (p, o) List.mem_cons_self
  have e : Ex G (upd G p o) := Ex.new h2
  refine ⟨e, ⟨⟨r.g0.trans e, fun a k1 k2 => ?_, fun a u h => ?_, r.hh, r.dom⟩, r.len, fun i s h => ?_, r.sep, fun q hq => ?_⟩⟩
  · rw [upd_ne (fun z => k1 (by rw [z]; exact h0))]
    exact r.fr a k1 k2
  · by_cases z : a = p
    · subst z
      rw [upd_same] at h
      rw [← h]
      exact h1
    · rw [upd_ne z] at h
      exact r.gh a u h
  · have k := r.ok i s h
    have k' : SlOk c G H (σ[i]?) s := by cases s <;> exact k
    refine k'.go e fun a u z m ha => ⟨ha, ?_⟩
    obtain ⟨b, q1, q2, _⟩ := k'.adr m
    rw [z] at q1
    cases q1
    rw [upd_ne (fun y => h3 i s h m (by rw [z, y]))]
    exact q2
  · obtain ⟨q1, q2, q3⟩ := r.pins q (List.mem_cons_of_mem _ hq)
    refine ⟨q1, ?_, q3⟩
    rw [upd_ne (hp q hq)]
    exact q2
/-- a list of one's own becomes data -/
theorem Rep.freeze (r : Rep c G σ H ρ) {i : Nat} {ds : List PyData} (h : ρ[i]? = some (.own ds)) : ∃ v G', σ[i]? = some (some v) ∧ Ex G G' ∧ Rep c G' σ H (ρ.set i (.val (.list ds))) ∧ Rp G' v (.list ds) := by
  obtain ⟨a, xs, h1, h2, h3, h4, h5⟩ := r.ok i _ h
  have e : Ex G (upd G a (.lst xs)) := Ex.new h4
  have ra : Rp (upd G a (.lst xs)) (.ref a) (.list ds) := .lst upd_same (h3.up e)
  have oth : ∀ j s, j ≠ i → ρ[j]? = some s → s.mt = true → ∀ b, σ[j]? = some (some (.ref b)) → b ≠ a := fun j s hj hs m b hb z => by
    refine r.sep j i s _ hj hs h m rfl ?_
    rw [hb, h1, z]
  refine ⟨.ref a, upd G a (.lst xs), h1, e, ⟨⟨r.g0.trans e, fun b k1 k2 => ?_, fun b u hb => ?_, r.hh, r.dom⟩, ?_, fun j s hs => ?_, fun j l s t hjl k1 k2 m1 m2 => ?_, fun q hq => ?_⟩, ra⟩
  · rw [upd_ne (fun z => k1 (by rw [z]; exact h5))]
    exact r.fr b k1 k2
  · by_cases z : b = a
    · subst z
      rw [upd_same] at hb
      rw [← hb]
      exact h2
    · rw [upd_ne z] at hb
      exact r.gh b u hb
  · rw [List.length_set]
    exact r.len
  · rcases get_set hs with ⟨rfl, rfl, hi⟩ | ⟨hj, hs⟩
    · exact ⟨.ref a, h1, ra⟩
    · refine (r.ok j s hs).go e fun b u z m hb => ⟨hb, ?_⟩
      obtain ⟨b', q1, q2, _⟩ := (r.ok j s hs).adr m
      rw [z] at q1
      cases q1
      rw [upd_ne (oth j s hj hs m b z)]
      exact q2
  · rcases get_set k1 with ⟨_, rfl, _⟩ | ⟨hj, k1⟩
    · cases m1
    · rcases get_set k2 with ⟨_, rfl, _⟩ | ⟨hl, k2⟩
      · cases m2
      · exact r.sep j l s t hjl k1 k2 m1 m2
  · obtain ⟨q1, q2, q3⟩ := r.pins q hq
    refine ⟨q1, ?_, fun j s hs m => ?_⟩
    · rw [upd_ne (fun z => q3 i _ h rfl (by rw [h1, z]))]
      exact q2
    · rcases get_set hs with ⟨_, rfl, _⟩ | ⟨hj, hs⟩
      · cases m
      · exact q3 j s hs m
/-- the object of a slot is changed -/
theorem Rep.chg (r : Rep c G σ H ρ) {i : Nat} {s t : Sl} {a : Addr} {o : HO} (h : ρ[i]? = some s) (m : s.mt = true) (hm : t.mt = true) (ha : σ[i]? = some (some (.ref a))) (hp : c.H0 a = none ∨ a ∈ c.P) (ok : SlOk c G (upd H a o) (some (some (.ref a))) t) : Rep c G σ (upd H a o) (ρ.set i t) where
  g0 := r.g0
  fr := r.fr
  gh := fun b u hb => by
    obtain ⟨a', q1, q2, _⟩ := (r.ok i s h).adr m
    rw [ha] at q1
    cases q1
    rw [upd_ne (ne_of_none hb q2)]
    exact r.gh b u hb
  hh := fun b u h1 h2 => by
    have z : b ≠ a := fun z => by
      rcases hp with hp | hp
      · rw [z, hp] at h1
        cases h1
      · exact h2 (by rw [z]; exact hp)
    rw [upd_ne z]
    exact r.hh b u h1 h2
  dom := fun b h1 => by
    by_cases z : b = a
    · rw [z, upd_same]
      exact fun y => nomatch y
    · rw [upd_ne z]
      exact r.dom b h1
  len := by rw [List.length_set]; exact r.len
  ok := fun j u hs => by
    rcases get_set hs with ⟨rfl, rfl, hi⟩ | ⟨hj, hs⟩
    · rw [ha]
      exact ok
    · refine (r.ok j u hs).go (Ex.refl G) fun b w z mu hb => ?_
      obtain ⟨b', q1, q2, _⟩ := (r.ok j u hs).adr mu
      rw [z] at q1
      cases q1
      refine ⟨?_, q2⟩
      rw [upd_ne (fun y => r.sep j i u s hj hs h mu m (by rw [z, ha, y]))]
      exact hb
  sep := fun j l u w hjl h1 h2 m1 m2 => by
    have fix : ∀ {j : Nat} {u : Sl}, (ρ.set i t)[j]? = some u → u.mt = true → ∃ u', ρ[j]? = some u' ∧ u'.mt = true := fun {j u} q mu => by
      rcases get_set q with ⟨rfl, rfl, _⟩ | ⟨_, q⟩
      · exact ⟨s, h, m⟩
      · exact ⟨u, q, mu⟩
    obtain ⟨u', k1, k2⟩ := fix h1 m1
    obtain ⟨w', k3, k4⟩ := fix h2 m2
    exact r.sep j l u' w' hjl k1 k3 k2 k4
  pins := fun q hq => by
    obtain ⟨q1, q2, q3⟩ := r.pins q hq
    refine ⟨?_, q2, fun j u hs mu => ?_⟩
    · rw [upd_ne (fun z => q3 i s h m (by rw [ha, z]))]
      exact q1
    · rcases get_set hs with ⟨rfl, rfl, _⟩ | ⟨_, hs⟩
      · exact q3 j s h m
      · exact q3 j u hs mu
end
end DL

set_option Elab.async false
set_option linter.all false
set_option maxRecDepth 100000
set_option maxHeartbeats 1000000
/-! DL2: the judgements over data: expressions, tests, arguments. -/
namespace DL
open PySem L2 Evl PyProof.Rows

/-! ### weaker readings -/
section
variable {X : Cx} {e : Expr} {es : List Expr} {st : Stmt} {sts : List Stmt}
theorem pe_imp {t t' : TE} (h : PE X e t) (k : ∀ σ H Q, t' σ H Q → t σ H Q) : PE X e t' := ⟨fun pins s σ H Q I q => h.run pins s σ H Q I (k σ H Q q)⟩
theorem pt_imp {t t' : TT} (h : PT X e t) (k : ∀ σ H Q, t' σ H Q → t σ H Q) : PT X e t' := ⟨fun pins s σ H Q I q => h.run pins s σ H Q I (k σ H Q q)⟩
theorem pw_imp {t t' : TT} (h : PW X e t) (k : ∀ σ H Q, t' σ H Q → t σ H Q) : PW X e t' := ⟨fun wh pins s σ H Q I q => h.run wh pins s σ H Q I (k σ H Q q)⟩
theorem pa_imp {t t' : TA} (h : PA X es t) (k : ∀ σ H Q, t' σ H Q → t σ H Q) : PA X es t' := ⟨fun pos pins s σ H Q I q => h.run pos pins s σ H Q I (k σ H Q q)⟩
theorem pi_imp {tg : Expr} {t t' : TI} (h : PI X tg e t) (k : ∀ σ H Q, t' σ H Q → t σ H Q) : PI X tg e t' := ⟨fun pins s σ H Q I q => h.run pins s σ H Q I (k σ H Q q)⟩
theorem pg_imp {t t' : TG} (h : PG X e t) (k : ∀ v σ H Q, t' v σ H Q → t v σ H Q) : PG X e t' := ⟨fun pins s σ H v u Q I r q => h.run pins s σ H v u Q I r (k v σ H Q q)⟩
theorem ps_imp {t t' : TS} (h : PS X st t) (k : ∀ D σ H, t' D σ H → t D σ H) : PS X st t' := ⟨fun pins s σ H D I q => h.run pins s σ H D I (k D σ H q)⟩
theorem pss_imp {t t' : TS} (h : PSs X sts t) (k : ∀ D σ H, t' D σ H → t D σ H) : PSs X sts t' := ⟨fun pins s σ H D I q => h.run pins s σ H D I (k D σ H q)⟩
theorem or_i {op : Value → Value → Sem Value} {r1 r2 : R2} (h1 : OpR X op r1) (h2 : OpR X op r2) : OpR X op (fun x y H Q => r1 x y H Q ∨ r2 x y H Q) :=
  fun pins s σ H x y v u Q I rx ry h => h.elim (fun q => h1 pins s σ H x y v u Q I rx ry q) fun q => h2 pins s σ H x y v u Q I rx ry q
theorem or_c {f : Value} {r1 r2 : List V → Hp → VK → Prop} (h1 : CallR X f r1) (h2 : CallR X f r2) : CallR X f (fun x H Q => r1 x H Q ∨ r2 x H Q) :=
  fun pins s σ H x v Q I rx h => h.elim (fun q => h1 pins s σ H x v Q I rx q) fun q => h2 pins s σ H x v Q I rx q
theorem or_sl {r1 r2 : V → Option Int → Option Int → Hp → VK → Prop} (h1 : SlR X r1) (h2 : SlR X r2) : SlR X (fun x l u H Q => r1 x l u H Q ∨ r2 x l u H Q) :=
  fun pins s σ H x v vl vu lo hi sl Q I rx a b c h => h.elim (fun q => h1 pins s σ H x v vl vu lo hi sl Q I rx a b c q) fun q => h2 pins s σ H x v vl vu lo hi sl Q I rx a b c q
theorem pi_or {tg : Expr} {t u : TI} (h1 : PI X tg e t) (h2 : PI X tg e u) : PI X tg e (fun σ H R => t σ H R ∨ u σ H R) :=
  ⟨fun pins s σ H R I h => h.elim (fun q => h1.run pins s σ H R I q) fun q => h2.run pins s σ H R I q⟩
end

/-! ### what is read -/
/-- data, or a list of one's own -/
def Rv (G H : Hp) (v : V) (d : PyData) : Prop := Rp G v d ∨ ∃ a xs ds, v = .ref a ∧ d = .list ds ∧ H a = some (.lst xs) ∧ RpAll G xs ds
theorem Rv.lst {G H : Hp} {v : V} {ds : List PyData} (e : Ex G H) (h : Rv G H v (.list ds)) : ∃ a xs, v = .ref a ∧ H a = some (.lst xs) ∧ RpAll G xs ds := by
  rcases h with h | ⟨a, xs, es, h1, h2, h3, h4⟩
  · cases h with
    | lst q1 q2 => exact ⟨_, _, rfl, e _ _ q1, q2⟩
  · cases h2
    exact ⟨a, xs, h1, h3, h4⟩
theorem Rv.tup {G H : Hp} {v : V} {ds : List PyData} (e : Ex G H) (h : Rv G H v (.tuple ds)) : ∃ a xs, v = .ref a ∧ H a = some (.tup xs) ∧ RpAll G xs ds := by
  rcases h with h | ⟨a, xs, es, h1, h2, h3, h4⟩
  · cases h with
    | tup q1 q2 => exact ⟨_, _, rfl, e _ _ q1, q2⟩
  · cases h2
theorem Rv.int {G H : Hp} {v : V} {i : Int} (h : Rv G H v (.int i)) : v = .int i := by
  rcases h with h | ⟨a, xs, es, h1, h2, h3, h4⟩
  · cases h; rfl
  · cases h2
theorem Rv.bl {G H : Hp} {v : V} {i : Bool} (h : Rv G H v (.bool i)) : v = .bl i := by
  rcases h with h | ⟨a, xs, es, h1, h2, h3, h4⟩
  · cases h; rfl
  · cases h2
theorem Rv.str {G H : Hp} {v : V} {i : Str} (h : Rv G H v (.str i)) : v = .str i := by
  rcases h with h | ⟨a, xs, es, h1, h2, h3, h4⟩
  · cases h; rfl
  · cases h2
theorem Rv.non {G H : Hp} {v : V} (h : Rv G H v .none) : v = .non := by
  rcases h with h | ⟨a, xs, es, h1, h2, h3, h4⟩
  · cases h; rfl
  · cases h2
theorem Rv.dp {K : PySem.W.Frag} {G H : Hp} {v : V} {d : PyData} (e : Ex G H) (h : Rv G H v d) : Dp K H v d := by
  rcases h with h | ⟨a, xs, ds, rfl, rfl, h3, h4⟩
  · exact Rp.dp0 e d v h
  · exact .lst (SqL.of h3) (RpAll.dp0 e ds xs h4)

/-! ### the readings -/
abbrev DE := Rho → (PyData → Rho → Prop) → Prop
abbrev DN := Rho → (List PyData → Rho → Prop) → Prop
abbrev DT := Rho → (Bool → Rho → Prop) → Prop
/-- a value that is data -/
def tD (de : DE) : TE := fun σ H Q => ∃ c G ρ Q', Rep c G σ H ρ ∧ de ρ Q' ∧ ∀ d ρ' G' H' v, Q' d ρ' → Ex G G' → Rep c G' σ H' ρ' → Rp G' v d → Q v H'
/-- a value that is read at once -/
def tR (de : DE) : TE := fun σ H Q => ∃ c G ρ Q', Rep c G σ H ρ ∧ de ρ Q' ∧ ∀ d ρ' G' H' v, Q' d ρ' → Ex G G' → Rep c G' σ H' ρ' → Rv G' H' v d → Q v H'
def freeAt (c : Co) (p : Addr) : Prop := c.H0 p = none ∧ ∀ q ∈ c.pin, q.1 ≠ p
/-- a new list, not leaned on yet -/
def tN (dn : DN) : TE := fun σ H Q => ∃ c G ρ Q', Rep c G σ H ρ ∧ dn ρ Q' ∧ ∀ ds ρ' G' H' p xs, Q' ds ρ' → Ex G G' → Rep { c with pin := (p, .lst xs) :: c.pin } G' σ H' ρ' → freeAt c p → RpAll G' xs ds → Q (.ref p) H'
def tT (dt : DT) : TT := fun σ H Q => ∃ c G ρ Q', Rep c G σ H ρ ∧ dt ρ Q' ∧ ∀ b ρ' G' H', Q' b ρ' → Ex G G' → Rep c G' σ H' ρ' → Q b H'
def tAd (da : DN) : TA := fun σ H Q => ∃ c G ρ Q', Rep c G σ H ρ ∧ da ρ Q' ∧ ∀ ds ρ' G' H' vs, Q' ds ρ' → Ex G G' → Rep c G' σ H' ρ' → RpAll G' vs ds → Q vs H'
abbrev PD (X : Cx) (e : Expr) (de : DE) : Prop := PE X e (tD de)
abbrev PR (X : Cx) (e : Expr) (de : DE) : Prop := PE X e (tR de)
abbrev PN (X : Cx) (e : Expr) (dn : DN) : Prop := PE X e (tN dn)
abbrev PTD (X : Cx) (e : Expr) (dt : DT) : Prop := PT X e (tT dt)
abbrev PAD (X : Cx) (es : List Expr) (da : DN) : Prop := PA X es (tAd da)
def asD (dn : DN) : DE := fun ρ Q => dn ρ fun ds ρ' => Q (.list ds) ρ'

section
variable {X : Cx} {e a b : Expr} {es : List Expr} {pos : Pos} {de da db : DE}
theorem pd_r (h : PD X e de) : PR X e de := pe_imp h fun σ H Q ⟨c, G, ρ, Q', r, hd, k⟩ => ⟨c, G, ρ, Q', r, hd, fun d ρ' G' H' v q e r' h' => k d ρ' G' H' v q e r' (.inl h')⟩
theorem pn_d {dn : DN} (h : PN X e dn) : PD X e (asD dn) := pe_imp h fun σ H Q ⟨c, G, ρ, Q', r, hd, k⟩ => ⟨c, G, ρ, _, r, hd, fun ds ρ' G' H' p xs q e r' f h' => by
  obtain ⟨e2, r2⟩ := r'.settle f.1 f.2
  exact k (.list ds) ρ' _ H' (.ref p) q (e.trans e2) r2 (.lst upd_same (h'.up e2))⟩
/-! ### names, constants -/
def rd (ρ : Rho) (i : Nat) (k : PyData → Prop) : Prop := match ρ[i]? with
  | some (.val d) => k d
  | some (.bas d) => k d
  | some (.tld d) => k d
  | some (.own ds) => k (.list ds)
  | some (.pur ds) => k (.list ds)
  | _ => False
theorem rd_some {c : Co} {G H : Hp} {σ : L2.St} {ρ : Rho} {i : Nat} {k : PyData → Prop} (r : Rep c G σ H ρ) (h : rd ρ i k) : ∃ v d, σ[i]? = some (some v) ∧ Rv G H v d ∧ k d := by
  unfold rd at h
  cases q : ρ[i]? with
  | none => rw [q] at h; exact h.elim
  | some s =>
    rw [q] at h
    have o := r.ok i s q
    cases s with
    | no => exact h.elim
    | val d => obtain ⟨v, h1, h2⟩ := o; exact ⟨v, d, h1, .inl h2, h⟩
    | own ds => obtain ⟨a, xs, h1, h2, h3, _, _⟩ := o; exact ⟨_, _, h1, .inr ⟨a, xs, ds, rfl, rfl, h2, h3⟩, h⟩
    | pur ds => obtain ⟨a, xs, h1, h2, h3, _, _⟩ := o; exact ⟨_, _, h1, .inr ⟨a, xs, ds, rfl, rfl, h2, h3⟩, h⟩
    | dic kvs => exact h.elim
    | scr _ _ => exact h.elim
    | bas d => obtain ⟨v, h1, h2⟩ := o; exact ⟨v, d, h1, .inl (h2.up r.g0), h⟩
    | tld d => obtain ⟨v, S, h1, h2, _⟩ := o; exact ⟨v, d, h1, .inl (TrS.rp d v S h2), h⟩
def dRd (i : Nat) : DE := fun ρ Q => rd ρ i fun d => Q d ρ
def dVar (i : Nat) : DE := fun ρ Q => match ρ[i]? with
  | some (.val d) => Q d ρ
  | some (.bas d) => Q d ρ
  | some (.tld d) => Q d ρ
  | some (.own ds) => Q (.list ds) (ρ.set i (.val (.list ds)))
  | _ => False
def dC (d : PyData) : DE := fun ρ Q => Q d ρ
theorem pr_var (i : Nat) {x : Str} {pos : Pos} (hN : X.N[i]? = some x := by rfl) (hv : Vis X.env.scope x := by first | exact Or.inl rfl | exact Or.inr (Or.inl rfl) | exact Or.inr (Or.inr rfl)) (hd : (x == ("__debug__" : Str)) = false := by decide)
    (hcd : (x == ("__classdict__" : Str)) = false := by decide) : PR X (.Name x pos) (dRd i) := pe_imp (pe_var hN hv hd hcd) fun σ H Q ⟨c, G, ρ, Q', r, h, k⟩ => by
  obtain ⟨v, d, h1, h2, h3⟩ := rd_some r h
  exact ⟨v, h1, k d ρ G H v h3 (Ex.refl G) r h2⟩
theorem pd_var (i : Nat) {x : Str} {pos : Pos} (hN : X.N[i]? = some x := by rfl) (hv : Vis X.env.scope x := by first | exact Or.inl rfl | exact Or.inr (Or.inl rfl) | exact Or.inr (Or.inr rfl)) (hd : (x == ("__debug__" : Str)) = false := by decide)
    (hcd : (x == ("__classdict__" : Str)) = false := by decide) : PD X (.Name x pos) (dVar i) := pe_imp (pe_var hN hv hd hcd) fun σ H Q ⟨c, G, ρ, Q', r, h, k⟩ => by
  unfold dVar at h
  cases q : ρ[i]? with
  | none => rw [q] at h; exact h.elim
  | some s =>
    rw [q] at h
    cases s with
    | no => exact h.elim
    | val d =>
      obtain ⟨v, h1, h2⟩ := r.ok i _ q
      exact ⟨v, h1, k d ρ G H v h (Ex.refl G) r h2⟩
    | own ds =>
      obtain ⟨v, G', h1, h2, h3, h4⟩ := r.freeze q
      exact ⟨v, h1, k _ _ G' H v h h2 h3 h4⟩
    | pur ds => exact h.elim
    | dic kvs => exact h.elim
    | scr _ _ => exact h.elim
    | bas d =>
      obtain ⟨v, h1, h2⟩ := r.ok i _ q
      exact ⟨v, h1, k d ρ G H v h (Ex.refl G) r (h2.up r.g0)⟩
    | tld d =>
      obtain ⟨v, S, h1, h2, _⟩ := r.ok i _ q
      exact ⟨v, h1, k d ρ G H v h (Ex.refl G) r (TrS.rp d v S h2)⟩
theorem pd_int {i : Int} {j : Nat} : PD X (.Constant (.int i) j pos) (dC (.int i)) := pe_imp pe_int fun σ H Q ⟨c, G, ρ, Q', r, h, k⟩ => k _ ρ G H _ h (Ex.refl G) r (.int i)
theorem pd_bl {b : Bool} {j : Nat} : PD X (.Constant (.bool b) j pos) (dC (.bool b)) := pe_imp pe_bl fun σ H Q ⟨c, G, ρ, Q', r, h, k⟩ => k _ ρ G H _ h (Ex.refl G) r (.bl b)
theorem pd_non {j : Nat} : PD X (.Constant .none j pos) (dC .none) := pe_imp pe_non fun σ H Q ⟨c, G, ρ, Q', r, h, k⟩ => k _ ρ G H _ h (Ex.refl G) r .non
theorem pd_str {x : Str} {j : Nat} : PD X (.Constant (.str x) j pos) (dC (.str x)) := pe_imp pe_str fun σ H Q ⟨c, G, ρ, Q', r, h, k⟩ => k _ ρ G H _ h (Ex.refl G) r (.str x)

/-! ### operators -/
abbrev D2 := PyData → PyData → (PyData → Prop) → Prop
abbrev D1 := PyData → (PyData → Prop) → Prop
def ROp (r : R2) (f : D2) : Prop := ∀ (G H : Hp) (v w : V) (x y : PyData) (Q : VK) (Q' : PyData → Prop), Ex G H → Rv G H v x → Rv G H w y → f x y Q' → (∀ d u H', Out G H u d H' → Q' d → Q u H') → r v w H Q
def RU1 (r : V → Hp → VK → Prop) (f : D1) : Prop := ∀ (G H : Hp) (v : V) (x : PyData) (Q : VK) (Q' : PyData → Prop), Ex G H → Rv G H v x → f x Q' → (∀ d u H', Out G H u d H' → Q' d → Q u H') → r v H Q
def RC1 (r : List V → Hp → VK → Prop) (f : D1) : Prop := RU1 (fun v => r [v]) f
def RC2 (r : List V → Hp → VK → Prop) (f : D2) : Prop := ROp (fun v w => r [v, w]) f
def dBin (f : D2) (da db : DE) : DE := fun ρ Q => da ρ fun x ρ1 => db ρ1 fun y ρ2 => f x y fun d => Q d ρ2
/-- the left one a name: what it holds when the right one has come -/
def dBinV (f : D2) (i : Nat) (db : DE) : DE := fun ρ Q => rd ρ i fun _ => db ρ fun y ρ2 => rd ρ2 i fun x => f x y fun d => Q d ρ2
def dUn (f : D1) (da : DE) : DE := fun ρ Q => da ρ fun x ρ1 => f x fun d => Q d ρ1
theorem op_core {r : R2} {f : D2} (hr : ROp r f) {σ : L2.St} {H : Hp} {Q : VK} (h : tD (dBin f da db) σ H Q) : tOp r (tD da) (tR db) σ H Q := by
  obtain ⟨c, G, ρ, Q', rp, hd, k⟩ := h
  refine ⟨c, G, ρ, _, rp, hd, fun x ρ1 G1 H1 v q1 e1 r1 hx => ?_⟩
  refine ⟨c, G1, ρ1, _, r1, q1, fun y ρ2 G2 H2 w q2 e2 r2 hy => ?_⟩
  refine hr G2 H2 v w x y _ _ r2.gh (.inl (hx.up e2)) hy q2 fun d u H' o q3 => ?_
  obtain ⟨G3, e3, r3, h3⟩ := r2.out o
  exact k d ρ2 G3 H' u q3 ((e1.trans e2).trans e3) r3 h3
theorem opV_core {r : R2} {f : D2} {i : Nat} (hr : ROp r f) {σ : L2.St} {H : Hp} {Q : VK} (h : tD (dBinV f i db) σ H Q) : tOp r (tVar i) (tR db) σ H Q := by
  obtain ⟨c, G, ρ, Q', rp, hd, k⟩ := h
  obtain ⟨v, d0, h1, _, hd⟩ := rd_some rp hd
  refine ⟨v, h1, c, G, ρ, _, rp, hd, fun y ρ2 G2 H2 w q2 e2 r2 hy => ?_⟩
  obtain ⟨v', x, h2, h3, q3⟩ := rd_some r2 q2
  rw [h1] at h2
  cases h2
  refine hr G2 H2 v w x y _ _ r2.gh h3 hy q3 fun d u H' o q4 => ?_
  obtain ⟨G3, e3, r3, h5⟩ := r2.out o
  exact k d ρ2 G3 H' u q4 (e2.trans e3) r3 h5
theorem pd_op {op : Operator} {r : R2} {f : D2} (ho : OpR X (binaryOp op) r) (hr : ROp r f) (ha : PD X a da) (hb : PR X b db) : PD X (.BinOp a op b pos) (dBin f da db) := pe_imp (pe_op ho ha hb) fun _ _ _ h => op_core hr h
theorem pd_opV (i : Nat) {x : Str} {p : Pos} {op : Operator} {r : R2} {f : D2} (ho : OpR X (binaryOp op) r) (hr : ROp r f) (hb : PR X b db) (hN : X.N[i]? = some x := by rfl) (hv : Vis X.env.scope x := by first | exact Or.inl rfl | exact Or.inr (Or.inl rfl) | exact Or.inr (Or.inr rfl)) (hd : (x == ("__debug__" : Str)) = false := by decide)
    (hcd : (x == ("__classdict__" : Str)) = false := by decide) : PD X (.BinOp (.Name x p) op b pos) (dBinV f i db) := pe_imp (pe_op ho (pe_var hN hv hd hcd) hb) fun _ _ _ h => opV_core hr h
theorem pd_cmp {op : CmpOp} {r : R2} {f : D2} (ho : OpR X (compareOp op) r) (hr : ROp r f) (ha : PD X a da) (hb : PR X b db) (hm : behindInMarks op b = false := by first | exact nomark _ | rfl) : PD X (.Compare a [op] [b] pos) (dBin f da db) := pe_imp (pe_cmpR ho ha hb hm) fun _ _ _ h => op_core hr h
theorem pd_cmpV (i : Nat) {x : Str} {p : Pos} {op : CmpOp} {r : R2} {f : D2} (ho : OpR X (compareOp op) r) (hr : ROp r f) (hb : PR X b db) (hm : behindInMarks op b = false := by first | exact nomark _ | rfl) (hN : X.N[i]? = some x := by rfl) (hv : Vis X.env.scope x := by first | exact Or.inl rfl | exact Or.inr (Or.inl rfl) | exact Or.inr (Or.inr rfl)) (hd : (x == ("__debug__" : Str)) = false := by decide)
    (hcd : (x == ("__classdict__" : Str)) = false := by decide) : PD X (.Compare (.Name x p) [op] [b] pos) (dBinV f i db) := pe_imp (pe_cmpR ho (pe_var hN hv hd hcd) hb hm) fun _ _ _ h => opV_core hr h
theorem pd_ix {r : R2} {f : D2} (ho : IxR X r) (hr : ROp r f) (ha : PD X a da) (hb : PR X b db) (hs : PlainIx b := by intro _ _; rfl) : PD X (.Subscript a b pos) (dBin f da db) := pe_imp (pe_ix ho ha hb hs) fun _ _ _ h => op_core hr h
theorem pd_ixV (i : Nat) {x : Str} {p : Pos} {r : R2} {f : D2} (ho : IxR X r) (hr : ROp r f) (hb : PR X b db) (hs : PlainIx b := by intro _ _; rfl) (hN : X.N[i]? = some x := by rfl) (hv : Vis X.env.scope x := by first | exact Or.inl rfl | exact Or.inr (Or.inl rfl) | exact Or.inr (Or.inr rfl)) (hd : (x == ("__debug__" : Str)) = false := by decide)
    (hcd : (x == ("__classdict__" : Str)) = false := by decide) : PD X (.Subscript (.Name x p) b pos) (dBinV f i db) := pe_imp (pe_ix ho (pe_var hN hv hd hcd) hb hs) fun _ _ _ h => opV_core hr h
theorem pd_un {op : UnaryOp} {r : V → Hp → VK → Prop} {f : D1} (ho : UnR X (unaryOp op) r) (hr : RU1 r f) (ha : PR X a da) : PD X (.UnaryOp op a pos) (dUn f da) := pe_imp (pe_un ho ha) fun σ H Q ⟨c, G, ρ, Q', rp, hd, k⟩ => by
  refine ⟨c, G, ρ, _, rp, hd, fun x ρ1 G1 H1 v q1 e1 r1 hx => ?_⟩
  refine hr G1 H1 v x _ _ r1.gh hx q1 fun d u H' o q3 => ?_
  obtain ⟨G3, e3, r3, h3⟩ := r1.out o
  exact k d ρ1 G3 H' u q3 (e1.trans e3) r3 h3
/-! ### calls of what is built in, by one or two values -/
theorem c1_core {r : List V → Hp → VK → Prop} {f : D1} (hr : RC1 r f) {σ : L2.St} {H : Hp} {Q : VK} (h : tD (dUn f da) σ H Q) : tCB r (tCons (tR da) tNil) σ H Q := by
  obtain ⟨c, G, ρ, Q', rp, hd, k⟩ := h
  refine ⟨c, G, ρ, _, rp, hd, fun x ρ1 G1 H1 v q1 e1 r1 hx => ?_⟩
  refine hr G1 H1 v x _ _ r1.gh hx q1 fun d u H' o q3 => ?_
  obtain ⟨G3, e3, r3, h3⟩ := r1.out o
  exact k d ρ1 G3 H' u q3 (e1.trans e3) r3 h3
theorem c2_core {r : List V → Hp → VK → Prop} {f : D2} (hr : RC2 r f) {σ : L2.St} {H : Hp} {Q : VK} (h : tD (dBin f da db) σ H Q) : tCB r (tCons (tD da) (tCons (tR db) tNil)) σ H Q := by
  obtain ⟨c, G, ρ, Q', rp, hd, k⟩ := h
  refine ⟨c, G, ρ, _, rp, hd, fun x ρ1 G1 H1 v q1 e1 r1 hx => ?_⟩
  refine ⟨c, G1, ρ1, _, r1, q1, fun y ρ2 G2 H2 w q2 e2 r2 hy => ?_⟩
  refine hr G2 H2 v w x y _ _ r2.gh (.inl (hx.up e2)) hy q2 fun d u H' o q3 => ?_
  obtain ⟨G3, e3, r3, h3⟩ := r2.out o
  exact k d ρ2 G3 H' u q3 ((e1.trans e2).trans e3) r3 h3
theorem pd_cb1 {r : List V → Hp → VK → Prop} {f : D1} {id : String} {x : Str} {p : Pos} (hc : CallR X (.builtin id) r) (hr : RC1 r f) (hm : X.mg x = none) (ha : PR X a da) (hg : Gl X x := by rfl) (hv : bootBuiltins x = some (.builtin id) := by decide +kernel) (hn : x ≠ "__name__" := by decide) (hdb : (x == ("__debug__" : Str)) = false := by decide) (hs : starEach [a] X.env = (false, eval a X.env) :: starEach [] X.env := by rfl) (hpl : (backTo pos (starEach [] X.env)).any (·.1) = false := by rfl) :
    PD X (.Call (.Name x p) [a] [] pos) (dUn f da) := pe_imp (pe_callB hc hg hm hv (pa_cons ha pa_nil hs) hn hdb hs hpl) fun _ _ _ h => c1_core hr h
theorem pd_cb2 {r : List V → Hp → VK → Prop} {f : D2} {id : String} {x : Str} {p : Pos} (hc : CallR X (.builtin id) r) (hr : RC2 r f) (hm : X.mg x = none) (ha : PD X a da) (hb : PR X b db) (hg : Gl X x := by rfl) (hv : bootBuiltins x = some (.builtin id) := by decide +kernel) (hn : x ≠ "__name__" := by decide) (hdb : (x == ("__debug__" : Str)) = false := by decide) (hs : starEach [a, b] X.env = (false, eval a X.env) :: starEach [b] X.env := by rfl) (hs2 : starEach [b] X.env = (false, eval b X.env) :: starEach [] X.env := by rfl) (hpl : (backTo pos (starEach [b] X.env)).any (·.1) = false := by rfl) :
    PD X (.Call (.Name x p) [a, b] [] pos) (dBin f da db) := pe_imp (pe_callB hc hg hm hv (pa_cons ha (pa_cons hb pa_nil hs2) hs) hn hdb hs hpl) fun _ _ _ h => c2_core hr h
theorem pd_ct1 {r : List V → Hp → VK → Prop} {f : D1} {T : String} {x : Str} {p : Pos} (hc : CallR X (.type T) r) (hr : RC1 r f) (hm : X.mg x = none) (ha : PR X a da) (hg : Gl X x := by rfl) (hv : bootBuiltins x = some (.type T) := by decide +kernel) (hn : x ≠ "__name__" := by decide) (hdb : (x == ("__debug__" : Str)) = false := by decide) (hs : starEach [a] X.env = (false, eval a X.env) :: starEach [] X.env := by rfl) (hpl : (backTo pos (starEach [] X.env)).any (·.1) = false := by rfl) :
    PD X (.Call (.Name x p) [a] [] pos) (dUn f da) := pe_imp (pe_callTy hc hg hm hv (pa_cons ha pa_nil hs) hn hdb hs hpl) fun _ _ _ h => c1_core hr h
/-! ### and, or, not, if -/
def dAnd (da db : DE) : DE := fun ρ Q => da ρ fun x ρ1 => match x with
  | .bool true => db ρ1 Q
  | .bool false => Q (.bool false) ρ1
  | _ => False
def dOr (da db : DE) : DE := fun ρ Q => da ρ fun x ρ1 => match x with
  | .bool true => Q (.bool true) ρ1
  | .bool false => db ρ1 Q
  | _ => False
def dNot (da : DE) : DE := fun ρ Q => da ρ fun x ρ1 => match x with
  | .bool c => Q (.bool (!c)) ρ1
  | _ => False
theorem pd_one {op} (h : PD X a da) : PD X (.BoolOp op [a] pos) da := pe_one h
theorem pd_and {rest : List Expr} (ha : PD X a da) (hb : PD X (.BoolOp .And (b :: rest) pos) db) : PD X (.BoolOp .And (a :: b :: rest) pos) (dAnd da db) := pe_imp (pe_and ha hb) fun σ H Q ⟨c, G, ρ, Q', rp, hd, k⟩ => by
  refine ⟨c, G, ρ, _, rp, hd, fun x ρ1 G1 H1 v q1 e1 r1 hx => ?_⟩
  cases x with
  | bool y =>
    cases hx
    refine ⟨y, rfl, ?_⟩
    cases y with
    | true => exact ⟨c, G1, ρ1, Q', r1, q1, fun d ρ2 G2 H2 w q2 e2 r2 h2 => k d ρ2 G2 H2 w q2 (e1.trans e2) r2 h2⟩
    | false => exact k _ ρ1 G1 H1 _ q1 e1 r1 (.bl false)
  | _ => exact q1.elim
theorem pd_or {rest : List Expr} (ha : PD X a da) (hb : PD X (.BoolOp .Or (b :: rest) pos) db) : PD X (.BoolOp .Or (a :: b :: rest) pos) (dOr da db) := pe_imp (pe_or ha hb) fun σ H Q ⟨c, G, ρ, Q', rp, hd, k⟩ => by
  refine ⟨c, G, ρ, _, rp, hd, fun x ρ1 G1 H1 v q1 e1 r1 hx => ?_⟩
  cases x with
  | bool y =>
    cases hx
    refine ⟨y, rfl, ?_⟩
    cases y with
    | false => exact ⟨c, G1, ρ1, Q', r1, q1, fun d ρ2 G2 H2 w q2 e2 r2 h2 => k d ρ2 G2 H2 w q2 (e1.trans e2) r2 h2⟩
    | true => exact k _ ρ1 G1 H1 _ q1 e1 r1 (.bl true)
  | _ => exact q1.elim
theorem pd_not (ha : PD X a da) : PD X (.UnaryOp .Not a pos) (dNot da) := pe_imp (pe_not ha) fun σ H Q ⟨c, G, ρ, Q', rp, hd, k⟩ => by
  refine ⟨c, G, ρ, _, rp, hd, fun x ρ1 G1 H1 v q1 e1 r1 hx => ?_⟩
  cases x with
  | bool y =>
    cases hx
    exact ⟨y, rfl, k _ ρ1 G1 H1 _ q1 e1 r1 (.bl (!y))⟩
  | _ => exact q1.elim
def dIf (dt : DT) (da db : DE) : DE := fun ρ Q => dt ρ fun b ρ1 => match b with
  | true => da ρ1 Q
  | false => db ρ1 Q
theorem pd_if {t : Expr} {dt : DT} (ht : PTD X t dt) (ha : PD X a da) (hb : PD X b db) : PD X (.IfExp t a b pos) (dIf dt da db) := pe_imp (pe_ifExp ht ha hb) fun σ H Q ⟨c, G, ρ, Q', rp, hd, k⟩ => by
  refine ⟨c, G, ρ, _, rp, hd, fun b ρ1 G1 H1 q1 e1 r1 => ?_⟩
  cases b with
  | true => exact ⟨c, G1, ρ1, Q', r1, q1, fun d ρ2 G2 H2 w q2 e2 r2 h2 => k d ρ2 G2 H2 w q2 (e1.trans e2) r2 h2⟩
  | false => exact ⟨c, G1, ρ1, Q', r1, q1, fun d ρ2 G2 H2 w q2 e2 r2 h2 => k d ρ2 G2 H2 w q2 (e1.trans e2) r2 h2⟩
/-- two comparisons in a row -/
def dChain (f g : D2) (da db dc : DE) : DE := fun ρ Q => da ρ fun x ρ1 => db ρ1 fun y ρ2 => f x y fun z => match z with
  | .bool true => dc ρ2 fun w ρ3 => g y w fun d => Q d ρ3
  | .bool false => Q (.bool false) ρ2
  | _ => False
theorem pd_chain {e3 : Expr} {dc : DE} {op op' : CmpOp} {r r' : R2} {f g : D2} (ho : OpR X (compareOp op) r) (ho' : OpR X (compareOp op') r') (hr : ROp r f) (hr' : ROp r' g) (ha : PD X a da) (hb : PD X b db) (hc : PR X e3 dc) (hm : lastMarks [op, op'] [b, e3] = false := by rfl) : PD X (.Compare a [op, op'] [b, e3] pos) (dChain f g da db dc) := pe_imp (pe_chain ho ho' ha hb hc hm) fun σ H Q ⟨c, G, ρ, Q', rp, hd, k⟩ => by
  refine ⟨c, G, ρ, _, rp, hd, fun x ρ1 G1 H1 v q1 e1 r1 hx => ?_⟩
  refine ⟨c, G1, ρ1, _, r1, q1, fun y ρ2 G2 H2 w q2 e2 r2 hy => ?_⟩
  refine hr G2 H2 v w x y _ _ r2.gh (.inl (hx.up e2)) (.inl hy) q2 fun d u H' o q3 => ?_
  obtain ⟨G3, e3, r3, h3⟩ := r2.out o
  cases d with
  | bool z =>
    cases h3
    refine ⟨z, rfl, ?_⟩
    cases z with
    | false => exact k _ ρ2 G3 H' _ q3 ((e1.trans e2).trans e3) r3 (.bl false)
    | true =>
      refine ⟨c, G3, ρ2, _, r3, q3, fun w' ρ3 G4 H4 w2 q4 e4 r4 h4 => ?_⟩
      refine hr' G4 H4 w w2 y w' _ _ r4.gh (.inl (hy.up (e3.trans e4))) h4 q4 fun d u H' o q5 => ?_
      obtain ⟨G5, e5, r5, h5⟩ := r4.out o
      exact k d ρ3 G5 H' u q5 ((((e1.trans e2).trans e3).trans e4).trans e5) r5 h5
  | _ => exact q3.elim

/-! ### tests -/
def dB (da : DE) : DT := fun ρ Q => da ρ fun x ρ1 => match x with
  | .bool c => Q c ρ1
  | _ => False
theorem tb_core {σ : L2.St} {H : Hp} {Q : Bool → Hp → Prop} (h : tT (dB da) σ H Q) : tB (tD da) σ H Q := by
  obtain ⟨c, G, ρ, Q', rp, hd, k⟩ := h
  refine ⟨c, G, ρ, _, rp, hd, fun x ρ1 G1 H1 v q1 e1 r1 hx => ?_⟩
  cases x with
  | bool y =>
    cases hx
    exact ⟨y, rfl, k y ρ1 G1 H1 q1 e1 r1⟩
  | _ => exact q1.elim
theorem ptd_val (h : PD X e da) (he : ∀ whole, isTrue e X.env whole = (do let v ← whole; standAt e.pos; holding [v] (truthy v)) := by intro _; rfl) : PTD X e (dB da) := pt_imp (pt_val h he) fun _ _ _ h => tb_core h
theorem tTest_tB (t : TE) (σ : L2.St) (H : Hp) (Q : Bool → Hp → Prop) : tTest t σ H Q = tB t σ H Q := rfl
theorem ptd_cmp {op : CmpOp} {r : R2} {f : D2} (ho : OpR X (compareOp op) r) (hr : ROp r f) (ha : PD X a da) (hb : PR X b db) (hm : behindInMarks op b = false := by first | exact nomark _ | rfl) : PTD X (.Compare a [op] [b] pos) (dB (dBin f da db)) :=
  pt_imp (pt_cmpR ho ha hb hm) fun σ H Q h => by
    obtain ⟨c, G, ρ, Q', rp, hd, k⟩ := h
    exact op_core hr ⟨c, G, ρ, _, rp, hd, fun x ρ1 G1 H1 v q1 e1 r1 hx => by
      cases x with
      | bool y =>
        cases hx
        exact ⟨y, rfl, k y ρ1 G1 H1 q1 e1 r1⟩
      | _ => exact q1.elim⟩
theorem ptd_cmpV (i : Nat) {x : Str} {p : Pos} {op : CmpOp} {r : R2} {f : D2} (ho : OpR X (compareOp op) r) (hr : ROp r f) (hb : PR X b db) (hm : behindInMarks op b = false := by first | exact nomark _ | rfl) (hN : X.N[i]? = some x := by rfl) (hv : Vis X.env.scope x := by first | exact Or.inl rfl | exact Or.inr (Or.inl rfl) | exact Or.inr (Or.inr rfl)) (hd : (x == ("__debug__" : Str)) = false := by decide)
    (hcd : (x == ("__classdict__" : Str)) = false := by decide) : PTD X (.Compare (.Name x p) [op] [b] pos) (dB (dBinV f i db)) :=
  pt_imp (pt_cmpR ho (pe_var hN hv hd hcd) hb hm) fun σ H Q h => by
    obtain ⟨c, G, ρ, Q', rp, hd, k⟩ := h
    exact opV_core hr ⟨c, G, ρ, _, rp, hd, fun x ρ1 G1 H1 v q1 e1 r1 hx => by
      cases x with
      | bool y =>
        cases hx
        exact ⟨y, rfl, k y ρ1 G1 H1 q1 e1 r1⟩
      | _ => exact q1.elim⟩
def dTAnd (dt du : DT) : DT := fun ρ Q => dt ρ fun b ρ1 => match b with
  | true => du ρ1 Q
  | false => Q false ρ1
def dTOr (dt du : DT) : DT := fun ρ Q => dt ρ fun b ρ1 => match b with
  | true => Q true ρ1
  | false => du ρ1 Q
def dTNot (dt : DT) : DT := fun ρ Q => dt ρ fun b ρ1 => Q (!b) ρ1
abbrev PWD (X : Cx) (e : Expr) (dt : DT) : Prop := PW X e (tT dt)
variable {dt du : DT} {rest : List Expr}
theorem pwd_and1 (ha : PTD X a dt) : PWD X (.BoolOp .And [a] pos) dt := pw_and1 ha
theorem pwd_or1 (ha : PTD X a dt) : PWD X (.BoolOp .Or [a] pos) dt := pw_or1 ha
theorem pwd_and (ha : PTD X a dt) (hb : PWD X (.BoolOp .And (b :: rest) pos) du) : PWD X (.BoolOp .And (a :: b :: rest) pos) (dTAnd dt du) := pw_imp (pw_and ha hb) fun σ H Q ⟨c, G, ρ, Q', rp, hd, k⟩ => by
  refine ⟨c, G, ρ, _, rp, hd, fun b ρ1 G1 H1 q1 e1 r1 => ?_⟩
  cases b with
  | true => exact ⟨c, G1, ρ1, Q', r1, q1, fun d ρ2 G2 H2 q2 e2 r2 => k d ρ2 G2 H2 q2 (e1.trans e2) r2⟩
  | false => exact k _ ρ1 G1 H1 q1 e1 r1
theorem pwd_or (ha : PTD X a dt) (hb : PWD X (.BoolOp .Or (b :: rest) pos) du) : PWD X (.BoolOp .Or (a :: b :: rest) pos) (dTOr dt du) := pw_imp (pw_or ha hb) fun σ H Q ⟨c, G, ρ, Q', rp, hd, k⟩ => by
  refine ⟨c, G, ρ, _, rp, hd, fun b ρ1 G1 H1 q1 e1 r1 => ?_⟩
  cases b with
  | false => exact ⟨c, G1, ρ1, Q', r1, q1, fun d ρ2 G2 H2 q2 e2 r2 => k d ρ2 G2 H2 q2 (e1.trans e2) r2⟩
  | true => exact k _ ρ1 G1 H1 q1 e1 r1
theorem ptd_w (h : PWD X e dt) : PTD X e dt := PW.pt h
theorem ptd_not (ha : PTD X a dt) : PTD X (.UnaryOp .Not a pos) (dTNot dt) := pt_imp (pt_not ha) fun σ H Q ⟨c, G, ρ, Q', rp, hd, k⟩ =>
  ⟨c, G, ρ, _, rp, hd, fun b ρ1 G1 H1 q1 e1 r1 => k _ ρ1 G1 H1 q1 e1 r1⟩

/-! ### arguments -/
def daNil : DN := fun ρ Q => Q [] ρ
def daCons (de : DE) (da : DN) : DN := fun ρ Q => de ρ fun x ρ1 => da ρ1 fun xs ρ2 => Q (x :: xs) ρ2
theorem pad_nil : PAD X [] daNil := pa_imp pa_nil fun σ H Q ⟨c, G, ρ, Q', rp, hd, k⟩ => k [] ρ G H [] hd (Ex.refl G) rp .nil
theorem pad_cons {ds : DN} (ha : PD X a da) (hr : PAD X es ds) (hs : starEach (a :: es) X.env = (false, eval a X.env) :: starEach es X.env := by rfl) : PAD X (a :: es) (daCons da ds) := pa_imp (pa_cons ha hr hs) fun σ H Q ⟨c, G, ρ, Q', rp, hd, k⟩ => by
  refine ⟨c, G, ρ, _, rp, hd, fun x ρ1 G1 H1 v q1 e1 r1 hx => ?_⟩
  exact ⟨c, G1, ρ1, _, r1, q1, fun ys ρ2 G2 H2 vs q2 e2 r2 hy => k (x :: ys) ρ2 G2 H2 (v :: vs) q2 (e1.trans e2) r2 (.cons (hx.up e2) hy)⟩
/-! ### displays -/
def dTup (da : DN) : DE := fun ρ Q => da ρ fun ds ρ1 => ds.length ≤ 100000 ∧ Q (.tuple ds) ρ1
def dLst (da : DN) : DN := fun ρ Q => da ρ fun ds ρ1 => ds.length ≤ 100000 ∧ Q ds ρ1
theorem pd_tup {k : Nat} {da : DN} (h : PAD X es da) : PD X (.Tuple es k pos) (dTup da) := pe_imp (pe_tup h) fun σ H Q ⟨c, G, ρ, Q', rp, hd, k⟩ => by
  refine ⟨c, G, ρ, _, rp, hd, fun ds ρ1 G1 H1 vs ⟨hl, q1⟩ e1 r1 hx => ⟨sz_of (by rw [hx.len]; exact hl), fun p hp => ?_⟩⟩
  have e2 : Ex G1 (upd G1 p (.tup vs)) := Ex.new (none_up r1.gh hp)
  exact k _ ρ1 _ _ _ q1 (e1.trans e2) (r1.new hp) (.tup upd_same (hx.up e2))
theorem Rep.free {c : Co} {G H : Hp} {σ : L2.St} {ρ : Rho} (r : Rep c G σ H ρ) {p : Addr} (hp : H p = none) : freeAt c p := by
  refine ⟨?_, fun q hq z => ?_⟩
  · cases q : c.H0 p with
    | none => rfl
    | some o => exact absurd hp (r.dom p (by rw [q]; exact fun z => nomatch z))
  · rw [← z, (r.pins q hq).1] at hp
    cases hp
theorem pn_lst {da : DN} (h : PAD X es da) : PN X (.List es pos) (dLst da) := pe_imp (pe_lst h) fun σ H Q ⟨c, G, ρ, Q', rp, hd, k⟩ => by
  refine ⟨c, G, ρ, _, rp, hd, fun ds ρ1 G1 H1 vs ⟨hl, q1⟩ e1 r1 hx => ⟨sz_of (by rw [hx.len]; exact hl), fun p hp => ?_⟩⟩
  exact k _ ρ1 G1 _ p vs q1 e1 (r1.pinN hp) (r1.free hp) hx
end
end DL

set_option Elab.async false
set_option linter.all false
set_option maxRecDepth 100000
set_option maxHeartbeats 1000000
/-! DL3: statements, loops, comprehensions, calls and defs over data. -/
namespace DL
open PySem L2 Evl PyProof.Rows RZ

/-! ### what is walked -/
/-- from every heap that holds G the items come in turn -/
def Gives (G : Hp) (J : It) (items : List PyData) : Prop := ∃ (Gd : Hp → Prop) (Y : Nat → Hp → V → Hp → Prop), Walk J items.length Gd Y ∧ (∀ H, Ex G H → Gd H) ∧
  ∀ i H x H' d, Ex G H → Y i H x H' → items[i]? = some d → ∀ G1, Ex G G1 → Ex G1 H → Out G1 H x d H'
def iD (di : DN) : TI := fun σ H R => ∃ c G ρ R', Rep c G σ H ρ ∧ di ρ R' ∧ ∀ items ρ' G' H' J, R' items ρ' → Ex G G' → Rep c G' σ H' ρ' → Gives G' J items → R J H'
abbrev PID (X : Cx) (tg e : Expr) (di : DN) : Prop := PI X tg e (iD di)
/-- a target; the slots it may set -/
abbrev DG := PyData → Rho → (Rho → Prop) → Prop
def gD (is : List Nat) (dg : DG) : TG := fun v σ H Q => ∃ c G ρ d Q', Rep c G σ H ρ ∧ Rp G v d ∧ dg d ρ Q' ∧ ∀ σ' ρ', Q' ρ' → Rep c G σ' H ρ' → (σ'.length = σ.length ∧ ∀ j, j ∉ is → σ'[j]? = σ[j]?) → Q σ' H
abbrev PGD (X : Cx) (t : Expr) (is : List Nat) (dg : DG) : Prop := PG X t (gD is dg)
def gDs (is : List Nat) (dg : List PyData → Rho → (Rho → Prop) → Prop) : TGs := fun vs σ H Q => ∃ c G ρ ds Q', Rep c G σ H ρ ∧ RpAll G vs ds ∧ dg ds ρ Q' ∧ ∀ σ' ρ', Q' ρ' → Rep c G σ' H ρ' → (σ'.length = σ.length ∧ ∀ j, j ∉ is → σ'[j]? = σ[j]?) → Q σ' H
abbrev PGsD (X : Cx) (ts : List Expr) (is : List Nat) (dg : List PyData → Rho → (Rho → Prop) → Prop) : Prop := PGs X ts (gDs is dg)
def dgName (i : Nat) : DG := fun d ρ Q => Q (ρ.set i (.val d))
def dgNil : List PyData → Rho → (Rho → Prop) → Prop := fun ds ρ Q => match ds with
  | [] => Q ρ
  | _ => False
def dgCons (dg : DG) (dr : List PyData → Rho → (Rho → Prop) → Prop) : List PyData → Rho → (Rho → Prop) → Prop := fun ds ρ Q => match ds with
  | d :: r => dg d ρ fun ρ1 => dr r ρ1 Q
  | _ => False
def dgTup (dr : List PyData → Rho → (Rho → Prop) → Prop) : DG := fun d ρ Q => match d with
  | .tuple ds => dr ds ρ Q
  | _ => False
section
variable {X : Cx} {e : Expr} {es : List Expr} {pos : Pos}
theorem pgd_name (i : Nat) {x : Str} (hN : X.N.Nodup) (hi : X.N[i]? = some x := by rfl) (hx : Loc X.env.scope x := by first | exact Or.inl rfl | exact Or.inr rfl) (hf : X.fn x = true ∨ X.env.scope.names.lookup x = some .local := by first | exact .inl rfl | exact .inr rfl) : PGD X (.Name x pos) [i] (dgName i) :=
  pg_imp (pg_name hN hi hx hf) fun v σ H Q ⟨c, G, ρ, d, Q', r, hv, hd, k⟩ => k _ _ hd (r.setV hv) ⟨by rw [List.length_set], fun j hj => set_at (fun z => hj (by rw [z]; exact List.mem_singleton.mpr rfl))⟩
theorem pgsd_nil : PGsD X [] [] dgNil := ⟨fun pins s σ H vs us Q I r ⟨c, G, ρ, ds, Q', rp, hv, hd, k⟩ => by
  cases hv with
  | nil => exact pgs_nil.run pins s σ H [] us Q I r ⟨rfl, k σ ρ hd rp ⟨rfl, fun _ _ => rfl⟩⟩
  | cons _ _ => exact hd.elim⟩
theorem pgsd_cons {is js : List Nat} {dg : DG} {dr : List PyData → Rho → (Rho → Prop) → Prop} (h1 : PGD X e is dg) (h2 : PGsD X es js dr) (hs : (assignEach (e :: es) X.env).map (·.2) = assign e X.env :: (assignEach es X.env).map (·.2) := by rfl) : PGsD X (e :: es) (is ++ js) (dgCons dg dr) :=
  ⟨fun pins s σ H vs us Q I r ⟨c, G, ρ, ds, Q', rp, hv, hd, k⟩ => by
    cases hv with
    | nil => exact hd.elim
    | cons v1 v2 =>
      refine (pgs_cons h1 h2 hs).run pins s σ H _ us Q I r ⟨_, _, rfl, c, G, ρ, _, _, rp, v1, hd, fun σ1 ρ1 q1 r1 l1 => ?_⟩
      refine ⟨c, G, ρ1, _, Q', r1, v2, q1, fun σ2 ρ2 q2 r2 l2 => k σ2 ρ2 q2 r2 ⟨l2.1.trans l1.1, fun j hj => ?_⟩⟩
      rw [l2.2 j (fun z => hj (List.mem_append_right _ z)), l1.2 j (fun z => hj (List.mem_append_left _ z))]⟩
theorem pgd_tup {is : List Nat} {dr : List PyData → Rho → (Rho → Prop) → Prop} {k n : Nat} (hc : X.calm = true) (h : PGsD X es is dr) (hl : ∀ ds ρ Q, dr ds ρ Q → ds.length = n) (hn : (assignEach es X.env).length = n := by rfl) (hst : (assignEach es X.env).findIdx? (·.1) = none := by rfl) : PGD X (.Tuple es k pos) is (dgTup dr) :=
  pg_imp (pg_tup hc h hn hst) fun v σ H Q ⟨c, G, ρ, d, Q', rp, hv, hd, k⟩ => by
    cases hv with
    | tup a b => exact ⟨_, _, rfl, SqT.of (rp.gh _ _ a), by rw [b.len]; exact hl _ _ _ hd, c, G, ρ, _, Q', rp, b, hd, k⟩
    | _ => exact hd.elim
theorem len_nil : ∀ ds ρ Q, dgNil ds ρ Q → ds.length = 0 := fun ds ρ Q h => by
  cases ds with
  | nil => rfl
  | cons _ _ => exact h.elim
theorem len_cons {dg : DG} {dr : List PyData → Rho → (Rho → Prop) → Prop} {n : Nat} (hm : ∀ d ρ (Q : Rho → Prop), dg d ρ Q → ∃ ρ', Q ρ') (h : ∀ ds ρ Q, dr ds ρ Q → ds.length = n) : ∀ ds ρ Q, dgCons dg dr ds ρ Q → ds.length = n + 1 := fun ds ρ Q q => by
  cases ds with
  | nil => exact q.elim
  | cons d r =>
    obtain ⟨ρ', q'⟩ := hm d ρ _ q
    rw [List.length_cons, h r ρ' Q q']
theorem any_name {i : Nat} : ∀ d ρ (Q : Rho → Prop), dgName i d ρ Q → ∃ ρ', Q ρ' := fun _ _ _ h => ⟨_, h⟩
theorem any_tup {dr : List PyData → Rho → (Rho → Prop) → Prop} (hm : ∀ ds ρ (Q : Rho → Prop), dr ds ρ Q → ∃ ρ', Q ρ') : ∀ d ρ (Q : Rho → Prop), dgTup dr d ρ Q → ∃ ρ', Q ρ' := fun d ρ Q h => by
  cases d with
  | tuple ds => exact hm ds ρ Q h
  | _ => exact h.elim
theorem any_nil : ∀ ds ρ (Q : Rho → Prop), dgNil ds ρ Q → ∃ ρ', Q ρ' := fun ds ρ Q h => by
  cases ds with
  | nil => exact ⟨_, h⟩
  | cons _ _ => exact h.elim
theorem any_cons {dg : DG} {dr : List PyData → Rho → (Rho → Prop) → Prop} (h1 : ∀ d ρ (Q : Rho → Prop), dg d ρ Q → ∃ ρ', Q ρ') (h2 : ∀ ds ρ (Q : Rho → Prop), dr ds ρ Q → ∃ ρ', Q ρ') : ∀ ds ρ (Q : Rho → Prop), dgCons dg dr ds ρ Q → ∃ ρ', Q ρ' := fun ds ρ Q q => by
  cases ds with
  | nil => exact q.elim
  | cons d r =>
    obtain ⟨ρ', q'⟩ := h1 d ρ _ q
    exact h2 r ρ' Q q'
/-! ### sources -/
def dListOf (de : DE) : DN := fun ρ Q => de ρ fun d ρ1 => match d with
  | .list ds => Q ds ρ1
  | _ => False
theorem gives_list {K : PySem.W.Frag} {G : Hp} {a : Addr} {xs : List V} {ds : List PyData} (h : G a = some (.lst xs)) (r : RpAll G xs ds) : Gives G (Itl K a) ds := by
  refine ⟨fun H => SqL K H a xs, YAt xs, by rw [← r.len]; exact walk_list, fun H e => SqL.of (e _ _ h), fun i H x H' d e y hd G1 e1 e2 => ?_⟩
  obtain ⟨rfl, hx⟩ := y
  obtain ⟨v, h1, h2⟩ := r.at hd
  rw [hx] at h1
  cases h1
  exact .inl ⟨rfl, h2.up e1⟩
theorem gives_tup {K : PySem.W.Frag} {G : Hp} {a : Addr} {xs : List V} {ds : List PyData} (h : G a = some (.tup xs)) (r : RpAll G xs ds) : Gives G (Itt K a) ds := by
  refine ⟨fun H => SqT K H a xs, YAt xs, by rw [← r.len]; exact walk_tup, fun H e => SqT.of (e _ _ h), fun i H x H' d e y hd G1 e1 e2 => ?_⟩
  obtain ⟨rfl, hx⟩ := y
  obtain ⟨v, h1, h2⟩ := r.at hd
  rw [hx] at h1
  cases h1
  exact .inl ⟨rfl, h2.up e1⟩
theorem pid_list {tg : Expr} {de : DE} (h : PD X e de) : PID X tg e (dListOf de) := pi_imp (pi_list h) fun σ H R ⟨c, G, ρ, R', rp, hd, k⟩ => by
  refine ⟨c, G, ρ, _, rp, hd, fun d ρ1 G1 H1 v q1 e1 r1 hx => ?_⟩
  cases hx with
  | lst a b => exact ⟨_, rfl, ⟨_, SqL.of (r1.gh _ _ a)⟩, k _ ρ1 G1 H1 _ q1 e1 r1 (gives_list a b)⟩
  | _ => exact q1.elim
/-- a name, of a list or of a tuple -/
def dSeqVar (i : Nat) : DN := fun ρ Q => match ρ[i]? with
  | some (.val (.list ds)) => Q ds ρ
  | some (.val (.tuple ds)) => Q ds ρ
  | some (.own ds) => Q ds (ρ.set i (.val (.list ds)))
  | _ => False
theorem pid_var {tg : Expr} (i : Nat) {x : Str} {pos : Pos} (hN : X.N[i]? = some x := by rfl) (hv : Vis X.env.scope x := by first | exact Or.inl rfl | exact Or.inr (Or.inl rfl) | exact Or.inr (Or.inr rfl)) (hd : (x == ("__debug__" : Str)) = false := by decide)
    (hcd : (x == ("__classdict__" : Str)) = false := by decide) : PID X tg (.Name x pos) (dSeqVar i) := pi_imp (pi_or (pi_list (pe_var hN hv hd hcd)) (pi_tup (pe_var hN hv hd hcd))) fun σ H R ⟨c, G, ρ, R', rp, h, k⟩ => by
  unfold dSeqVar at h
  cases q : ρ[i]? with
  | none => rw [q] at h; exact h.elim
  | some s =>
    rw [q] at h
    cases s with
    | val d =>
      obtain ⟨v, h1, h2⟩ := rp.ok i _ q
      cases h2 with
      | lst a b => exact .inl ⟨_, h1, _, rfl, ⟨_, SqL.of (rp.gh _ _ a)⟩, k _ ρ G H _ h (Ex.refl G) rp (gives_list a b)⟩
      | tup a b => exact .inr ⟨_, h1, _, rfl, ⟨_, SqT.of (rp.gh _ _ a)⟩, k _ ρ G H _ h (Ex.refl G) rp (gives_tup a b)⟩
      | _ => exact h.elim
    | own ds =>
      obtain ⟨v, G', h1, h2, h3, h4⟩ := rp.freeze q
      cases h4 with
      | lst a b => exact .inl ⟨_, h1, _, rfl, ⟨_, SqL.of (h3.gh _ _ a)⟩, k _ _ G' H _ h h2 h3 (gives_list a b)⟩
    | _ => exact h.elim
def rngD (lo : Int) (n : Nat) : List PyData := (List.range n).map fun (i : Nat) => PyData.int (lo + (i : Int))
theorem rngD_len (lo : Int) (n : Nat) : (rngD lo n).length = n := by unfold rngD; rw [List.length_map, List.length_range]
theorem gives_range {G : Hp} {lo : Int} {n : Nat} : Gives G (Itr lo n) (rngD lo n) := by
  refine ⟨fun _ => True, YFn fun i => .int (lo + i), by rw [rngD_len]; exact walk_range, fun _ _ => trivial, fun i H x H' d e y hd G1 e1 e2 => ?_⟩
  obtain ⟨rfl, rfl⟩ := y
  unfold rngD at hd
  rw [List.getElem?_map] at hd
  cases q : (List.range n)[i]? with
  | none => rw [q] at hd; cases hd
  | some j =>
    rw [q] at hd
    have hj : j = i := by
      obtain ⟨h1, h2⟩ := List.getElem?_eq_some_iff.mp q
      rw [List.getElem_range] at h2
      exact h2.symm
    subst hj
    cases hd
    exact .inl ⟨rfl, .int _⟩
def dRange1 (da : DE) : DN := fun ρ Q => da ρ fun x ρ1 => match x with
  | .int n => -(2 ^ 62) ≤ n ∧ n < 2 ^ 62 ∧ Q (rngD 0 n.toNat) ρ1
  | _ => False
def dRange2 (da db : DE) : DN := fun ρ Q => da ρ fun x ρ1 => db ρ1 fun y ρ2 => match x, y with
  | .int lo, .int n => (-(2 ^ 62) ≤ lo ∧ lo < 2 ^ 62 ∧ -(2 ^ 62) ≤ n ∧ n < 2 ^ 62) ∧ Q (rngD lo (n - lo).toNat) ρ2
  | _, _ => False
variable {a b tg : Expr} {p : Pos} {da db de : DE}
theorem pid_range1 (hm : X.mg "range" = none) (ha : PD X a da) (hg : Gl X "range" := by rfl) (hs : starEach [a] X.env = [(false, eval a X.env)] := by rfl) : PID X tg (.Call (.Name "range" p) [a] [] pos) (dRange1 da) :=
  pi_imp (pi_range1 hg hm (pa_cons ha pa_nil (by rw [hs]; rfl)) hs) fun σ H R ⟨c, G, ρ, R', rp, hd, k⟩ => by
    refine ⟨c, G, ρ, _, rp, hd, fun x ρ1 G1 H1 v q1 e1 r1 hx => ?_⟩
    cases hx with
    | int n => exact ⟨n, rfl, q1.1, q1.2.1, k _ ρ1 G1 H1 _ q1.2.2 e1 r1 gives_range⟩
    | _ => exact q1.elim
theorem pid_range2 (hm : X.mg "range" = none) (ha : PD X a da) (hb : PD X b db) (hg : Gl X "range" := by rfl) (hs : starEach [a, b] X.env = [(false, eval a X.env), (false, eval b X.env)] := by rfl) (hs2 : starEach [b] X.env = [(false, eval b X.env)] := by rfl) : PID X tg (.Call (.Name "range" p) [a, b] [] pos) (dRange2 da db) :=
  pi_imp (pi_range2 hg hm (pa_cons ha (pa_cons hb pa_nil (by rw [hs2]; rfl)) (by rw [hs, hs2])) hs hs2) fun σ H R ⟨c, G, ρ, R', rp, hd, k⟩ => by
    refine ⟨c, G, ρ, _, rp, hd, fun x ρ1 G1 H1 v q1 e1 r1 hx => ?_⟩
    refine ⟨c, G1, ρ1, _, r1, q1, fun y ρ2 G2 H2 w q2 e2 r2 hy => ?_⟩
    cases hx with
    | int lo =>
      cases hy with
      | int n => exact ⟨lo, n, rfl, q2.1, k _ ρ2 G2 H2 _ q2.2 (e1.trans e2) r2 gives_range⟩
      | _ => exact q2.elim
    | _ => exact q2.elim
/-- pairs of a number and an item -/
def enumD : Nat → List PyData → List PyData
  | _, [] => []
  | k, d :: r => .tuple [.int (k : Int), d] :: enumD (k + 1) r
theorem enumD_len : ∀ (k : Nat) (ds : List PyData), (enumD k ds).length = ds.length
  | _, [] => rfl
  | k, d :: r => by
    show (enumD (k + 1) r).length + 1 = r.length + 1
    rw [enumD_len]
theorem enumD_at : ∀ (k : Nat) (ds : List PyData) (i : Nat) (e : PyData), (enumD k ds)[i]? = some e → ∃ d, ds[i]? = some d ∧ e = .tuple [.int ((k + i : Nat) : Int), d]
  | _, [], _, _, h => by
    have : ([] : List PyData)[0]? = none := rfl
    unfold enumD at h
    simp at h
  | k, d :: r, 0, e, h => ⟨d, rfl, (Option.some.inj h).symm⟩
  | k, d :: r, i + 1, e, h => by
    obtain ⟨d', h1, h2⟩ := enumD_at (k + 1) r i e h
    refine ⟨d', h1, ?_⟩
    rw [h2, show k + 1 + i = k + (i + 1) by omega]
theorem out_pair {G H : Hp} {T : Addr} {x y : V} {d e : PyData} (hT : H T = none) (gh : Ex G H) (h1 : Rp G x d) (h2 : Rp G y e) : Out G H (.ref T) (.tuple [d, e]) (upd H T (.tup [x, y])) := by
  have ex : Ex G (upd G T (.tup [x, y])) := Ex.new (none_up gh hT)
  exact .inr ⟨T, _, hT, rfl, rfl, .tup upd_same (.cons (h1.up ex) (.cons (h2.up ex) .nil))⟩
theorem gives_enum {K : PySem.W.Frag} {G : Hp} {a : Addr} {xs : List V} {ds : List PyData} (h : G a = some (.lst xs)) (r : RpAll G xs ds) : Gives G (Ite K a) (enumD 0 ds) := by
  refine ⟨fun H => SqL K H a xs, YPair (fun i => some (.int (i : Nat))) (fun i => xs[i]?), by rw [enumD_len, ← r.len]; exact walk_enum, fun H e => SqL.of (e _ _ h), fun i H x H' d e y hd G1 e1 e2 => ?_⟩
  obtain ⟨T, u, v, rfl, hT, rfl, hu, hv⟩ := y
  obtain ⟨d', h1, rfl⟩ := enumD_at 0 ds i d hd
  obtain ⟨v', h2, h3⟩ := r.at h1
  have e3 := hv.symm.trans h2
  cases e3
  cases hu
  rw [show (0 + i : Nat) = i by omega]
  exact out_pair hT e2 (.int _) (h3.up e1)
def dEnum (da : DE) : DN := fun ρ Q => da ρ fun x ρ1 => match x with
  | .list ds => Q (enumD 0 ds) ρ1
  | _ => False
theorem pid_enum {elts : List Expr} {kk : Nat} {tpos : Pos} (hm : X.mg "enumerate" = none) (ha : PD X a da) (hg : Gl X "enumerate" := by rfl) (hs : starEach [a] X.env = [(false, eval a X.env)] := by rfl) : PID X (.Tuple elts kk tpos) (.Call (.Name "enumerate" p) [a] [] pos) (dEnum da) :=
  pi_imp (pi_enum hg hm (pa_cons ha pa_nil (by rw [hs]; rfl)) hs) fun σ H R ⟨c, G, ρ, R', rp, hd, k⟩ => by
    refine ⟨c, G, ρ, _, rp, hd, fun x ρ1 G1 H1 v q1 e1 r1 hx => ?_⟩
    cases hx with
    | lst h1 h2 => exact ⟨_, _, rfl, SqL.of (r1.gh _ _ h1), k _ ρ1 G1 H1 _ q1 e1 r1 (gives_enum h1 h2)⟩
    | _ => exact q1.elim
def zipD : List PyData → List PyData → List PyData
  | d :: r, e :: s => .tuple [d, e] :: zipD r s
  | _, _ => []
theorem zipD_len : ∀ (ds es : List PyData), (zipD ds es).length = min ds.length es.length
  | [], es => by unfold zipD; simp
  | d :: r, [] => by unfold zipD; simp
  | d :: r, e :: s => by
    show (zipD r s).length + 1 = min (r.length + 1) (s.length + 1)
    rw [zipD_len]
    omega
theorem zipD_at : ∀ (ds es : List PyData) (i : Nat) (x : PyData), (zipD ds es)[i]? = some x → ∃ d e, ds[i]? = some d ∧ es[i]? = some e ∧ x = .tuple [d, e]
  | [], es, _, _, h => by unfold zipD at h; simp at h
  | d :: r, [], _, _, h => by unfold zipD at h; simp at h
  | d :: r, e :: s, 0, x, h => ⟨d, e, rfl, rfl, (Option.some.inj h).symm⟩
  | d :: r, e :: s, i + 1, x, h => zipD_at r s i x h
theorem gives_zip {K : PySem.W.Frag} {G : Hp} {a b : Addr} {xs ys : List V} {ds es : List PyData} (h : G a = some (.lst xs)) (r : RpAll G xs ds) (h' : G b = some (.lst ys)) (r' : RpAll G ys es) : Gives G (Itz K a b) (zipD ds es) := by
  refine ⟨fun H => SqL K H a xs ∧ SqL K H b ys, YPair (fun i => xs[i]?) (fun i => ys[i]?), walk_zip (by rw [zipD_len, r.len, r'.len]), fun H e => ⟨SqL.of (e _ _ h), SqL.of (e _ _ h')⟩, fun i H x H' d e y hd G1 e1 e2 => ?_⟩
  obtain ⟨T, u, v, rfl, hT, rfl, hu, hv⟩ := y
  obtain ⟨d', d2, h1, h2, rfl⟩ := zipD_at ds es i d hd
  obtain ⟨u', k1, k2⟩ := r.at h1
  obtain ⟨v', k3, k4⟩ := r'.at h2
  have e3 := hu.symm.trans k1
  cases e3
  have e4 := hv.symm.trans k3
  cases e4
  exact out_pair hT e2 (k2.up e1) (k4.up e1)
theorem walk_zipT {K : PySem.W.Frag} {a b : Addr} {xs ys : List V} {n : Nat} (hn : n = min xs.length ys.length) : Walk (ItzT K a b) n (fun H => SqT K H a xs ∧ SqT K H b ys) (YPair (fun i => xs[i]?) (fun i => ys[i]?)) := by
  subst hn
  refine ⟨fun i _ hi q => ?_, fun _ q => ⟨xs, ys, q.1, q.2, by omega⟩, fun i H v H' _ q y => ?_⟩
  · have h1 : i < xs.length := by omega
    have h2 : i < ys.length := by omega
    exact ⟨xs, ys, xs[i], ys[i], q.1, q.2, by simp [h1], by simp [h2]⟩
  · obtain ⟨T, x, z, h1, h2, h3, h4, h5⟩ := y
    exact ⟨T, x, z, h1, h2, h3, h4 xs q.1, h5 ys q.2⟩
theorem gives_zipT {K : PySem.W.Frag} {G : Hp} {a b : Addr} {xs ys : List V} {ds es : List PyData} (h : G a = some (.tup xs)) (r : RpAll G xs ds) (h' : G b = some (.tup ys)) (r' : RpAll G ys es) : Gives G (ItzT K a b) (zipD ds es) := by
  refine ⟨fun H => SqT K H a xs ∧ SqT K H b ys, YPair (fun i => xs[i]?) (fun i => ys[i]?), walk_zipT (by rw [zipD_len, r.len, r'.len]), fun H e => ⟨SqT.of (e _ _ h), SqT.of (e _ _ h')⟩, fun i H x H' d e y hd G1 e1 e2 => ?_⟩
  obtain ⟨T, u, v, rfl, hT, rfl, hu, hv⟩ := y
  obtain ⟨d', d2, h1, h2, rfl⟩ := zipD_at ds es i d hd
  obtain ⟨u', k1, k2⟩ := r.at h1
  obtain ⟨v', k3, k4⟩ := r'.at h2
  have e3 := hu.symm.trans k1
  cases e3
  have e4 := hv.symm.trans k3
  cases e4
  exact out_pair hT e2 (k2.up e1) (k4.up e1)
def dZip (da db : DE) : DN := fun ρ Q => da ρ fun x ρ1 => db ρ1 fun y ρ2 => match x, y with
  | .list ds, .list es => Q (zipD ds es) ρ2
  | .tuple ds, .tuple es => Q (zipD ds es) ρ2
  | _, _ => False
theorem pid_zip {elts : List Expr} {kk : Nat} {tpos : Pos} (hm : X.mg "zip" = none) (ha : PD X a da) (hb : PD X b db) (hg : Gl X "zip" := by rfl) (hs : starEach [a, b] X.env = (false, eval a X.env) :: starEach [b] X.env := by rfl) (hs2 : starEach [b] X.env = (false, eval b X.env) :: starEach [] X.env := by rfl) (hpl : (backTo pos (starEach [b] X.env)).any (·.1) = false := by rfl) :
    PID X (.Tuple elts kk tpos) (.Call (.Name "zip" p) [a, b] [] pos) (dZip da db) :=
  pi_imp (pi_zipA hg hm (pa_cons ha (pa_cons hb pa_nil hs2) hs) hs hpl) fun σ H R ⟨c, G, ρ, R', rp, hd, k⟩ => by
    refine ⟨c, G, ρ, _, rp, hd, fun x ρ1 G1 H1 v q1 e1 r1 hx => ?_⟩
    refine ⟨c, G1, ρ1, _, r1, q1, fun y ρ2 G2 H2 w q2 e2 r2 hy => ?_⟩
    cases hx with
    | lst h1 h2 =>
      cases hy with
      | lst h3 h4 => exact ⟨_, _, _, _, rfl, .inl ⟨SqL.of (r2.gh _ _ (e2 _ _ h1)), SqL.of (r2.gh _ _ h3), k _ ρ2 G2 H2 _ q2 (e1.trans e2) r2 (gives_zip (e2 _ _ h1) (h2.up e2) h3 h4)⟩⟩
      | _ => exact q2.elim
    | tup h1 h2 =>
      cases hy with
      | tup h3 h4 => exact ⟨_, _, _, _, rfl, .inr ⟨SqT.of (r2.gh _ _ (e2 _ _ h1)), SqT.of (r2.gh _ _ h3), k _ ρ2 G2 H2 _ q2 (e1.trans e2) r2 (gives_zipT (e2 _ _ h1) (h2.up e2) h3 h4)⟩⟩
      | _ => exact q2.elim
    | _ => exact q2.elim
end
/-! ### comprehensions -/
def wipeR (ρ : Rho) : List Nat → Rho
  | [] => ρ
  | v :: vs => (wipeR ρ vs).set v .no
theorem Rep.wiped {c : Co} {G H : Hp} {σ : L2.St} {ρ : Rho} (r : Rep c G σ H ρ) : ∀ vs : List Nat, Rep c G (L2.wipe σ vs) H (wipeR ρ vs)
  | [] => r
  | v :: vs => (Rep.wiped r vs).setNo
theorem wipe_at {σ : L2.St} {j : Nat} : ∀ {vs : List Nat}, j ∉ vs → (L2.wipe σ vs)[j]? = σ[j]?
  | [], _ => rfl
  | v :: vs, h => by
    show ((L2.wipe σ vs).set v none)[j]? = σ[j]?
    rw [set_at (fun z => h (by rw [z]; exact List.mem_cons_self)), wipe_at (fun z => h (List.mem_cons_of_mem _ z))]
theorem wipe_in {σ : L2.St} {j : Nat} : ∀ {vs : List Nat}, j ∈ vs → (L2.wipe σ vs)[j]? = if j < σ.length then some none else none
  | v :: vs, h => by
    show ((L2.wipe σ vs).set v none)[j]? = _
    by_cases e : v = j
    · subst e
      by_cases hl : v < σ.length
      · rw [List.getElem?_set_self (by rw [wipe_length]; exact hl), if_pos hl]
      · rw [if_neg hl, List.getElem?_eq_none (by rw [List.length_set, wipe_length]; omega)]
    · rw [List.getElem?_set_ne e]
      rcases List.mem_cons.mp h with z | z
      · exact absurd z.symm e
      · exact wipe_in z
theorem wipe_same {σ σ' : L2.St} {is vs : List Nat} (l : σ'.length = σ.length) (h : ∀ j, j ∉ is → σ'[j]? = σ[j]?) (hs : ∀ j ∈ is, j ∈ vs) : L2.wipe σ' vs = L2.wipe σ vs := by
  refine List.ext_getElem? fun j => ?_
  by_cases hj : j ∈ vs
  · rw [wipe_in hj, wipe_in hj, l]
  · rw [wipe_at hj, wipe_at hj]
    exact h j fun z => hj (hs j z)
theorem wipeR_no {ρ : Rho} {j : Nat} : ∀ {vs : List Nat}, j ∈ vs → (wipeR ρ vs)[j]? = none ∨ (wipeR ρ vs)[j]? = some .no
  | v :: vs, h => by
    show ((wipeR ρ vs).set v .no)[j]? = none ∨ ((wipeR ρ vs).set v .no)[j]? = some .no
    by_cases e : v = j
    · subst e
      by_cases hl : v < (wipeR ρ vs).length
      · exact .inr (List.getElem?_set_self hl)
      · exact .inl (List.getElem?_eq_none (by rw [List.length_set]; omega))
    · rw [List.getElem?_set_ne e]
      rcases List.mem_cons.mp h with z | z
      · exact absurd z.symm e
      · exact wipeR_no z
/-- behind the block: its own slots are told of no more -/
theorem Rep.unwipe {c : Co} {G H : Hp} {σ : L2.St} {ρ : Rho} {vs : List Nat} (r : Rep c G (L2.wipe σ vs) H ρ) (h : ∀ j ∈ vs, ρ[j]? = none ∨ ρ[j]? = some .no) : Rep c G σ H ρ := by
  have at_ : ∀ (j : Nat) (s : Sl), ρ[j]? = some s → s ≠ .no → (L2.wipe σ vs)[j]? = σ[j]? := fun j s hs hn => wipe_at fun z => by
    rcases h j z with q | q
    · rw [q] at hs; cases hs
    · rw [q] at hs; cases hs; exact hn rfl
  refine ⟨⟨r.g0, r.fr, r.gh, r.hh, r.dom⟩, by rw [r.len, wipe_length], fun i s hs => ?_, fun i j s t hij h1 h2 m1 m2 => ?_, fun q hq => ?_⟩
  · have o := r.ok i s hs
    cases s with
    | no => trivial
    | _ => rw [at_ i _ hs (fun z => by cases z)] at o; exact o
  · rw [← at_ i s h1 (fun z => by rw [z] at m1; cases m1), ← at_ j t h2 (fun z => by rw [z] at m2; cases m2)]
    exact r.sep i j s t hij h1 h2 m1 m2
  · obtain ⟨a, b, d⟩ := r.pins q hq
    refine ⟨a, b, fun i s hs m => ?_⟩
    rw [← at_ i s hs (fun z => by rw [z] at m; cases m)]
    exact d i s hs m
/-- [e for g in i if t]: vs the block's own slots -/
def dLc (di : DN) (dg : DG) (dt : DT) (de : DE) (vs : List Nat) : DN := fun ρ Q => di ρ fun items ρ1 => ∃ I : Nat → Rho → List PyData → Prop, I 0 (wipeR ρ1 vs) [] ∧
  (∀ i x ρ acc, items[i]? = some x → I i ρ acc → dg x ρ fun ρ2 => dt ρ2 fun b ρ3 => match b with
    | true => de ρ3 fun y ρ4 => acc.length < 100000 ∧ I (i + 1) (wipeR ρ4 vs) (acc ++ [y])
    | false => I (i + 1) (wipeR ρ3 vs) acc) ∧
  ∀ ρ acc, I items.length ρ acc → Q acc (wipeR ρ vs)
theorem wipe_idem (σ : L2.St) (vs : List Nat) : L2.wipe (L2.wipe σ vs) vs = L2.wipe σ vs := by
  refine List.ext_getElem? fun j => ?_
  by_cases hj : j ∈ vs
  · rw [wipe_in hj, wipe_in hj, wipe_length]
  · rw [wipe_at hj]
theorem wipeR_idem (ρ : Rho) (vs : List Nat) : ∀ j ∈ vs, (wipeR ρ vs)[j]? = none ∨ (wipeR ρ vs)[j]? = some .no := fun j h => wipeR_no h
/-- what is under way changes -/
theorem Rep.repin {c : Co} {G H : Hp} {σ : L2.St} {ρ : Rho} {D : Addr} {o o' : HO} (r : Rep { c with pin := (D, o) :: c.pin } G σ H ρ) (f : freeAt c D) : Rep { c with pin := (D, o') :: c.pin } G σ (upd H D o') ρ := by
  obtain ⟨p1, p2, p3⟩ := r.pins (D, o) List.mem_cons_self
  refine ⟨⟨r.g0, r.fr, fun a u h => ?_, fun a u h1 h2 => ?_, fun a h => ?_⟩, r.len, fun i s hs => ?_, r.sep, fun q hq => ?_⟩
  · rw [upd_ne (ne_of_none h p2)]
    exact r.gh a u h
  · rw [upd_ne (ne_of_none h1 f.1)]
    exact r.hh a u h1 h2
  · by_cases z : a = D
    · rw [z, upd_same]
      exact fun y => nomatch y
    · rw [upd_ne z]
      exact r.dom a h
  · have k := r.ok i s hs
    have k' : SlOk { c with pin := (D, o') :: c.pin } G H (σ[i]?) s := by cases s <;> exact k
    refine k'.go (Ex.refl G) fun a u z m ha => ?_
    obtain ⟨b, q1, q2, _⟩ := k'.adr m
    rw [z] at q1
    cases q1
    refine ⟨?_, q2⟩
    rw [upd_ne (fun y => p3 i s hs m (by rw [z, y]))]
    exact ha
  · rcases List.mem_cons.mp hq with rfl | hq
    · exact ⟨upd_same, p2, p3⟩
    · obtain ⟨q1, q2, q3⟩ := r.pins q (List.mem_cons_of_mem _ hq)
      refine ⟨?_, q2, q3⟩
      rw [upd_ne (f.2 q hq)]
      exact q1
theorem lc_go {wi : TI} {di : DN} {dg : DG} {dt : DT} {de : DE} {is vs : List Nat} (hs : ∀ j ∈ is, j ∈ vs) {σ : L2.St} {H : Hp} {Q : VK} (h : tN (dLc di dg dt de vs) σ H Q) : tLc (iD di) (gD is dg) (tT dt) (tD de) vs σ H Q := by
  obtain ⟨c, G, ρ, Q', rp, hd, k⟩ := h
  refine ⟨c, G, ρ, _, rp, hd, fun items ρ1 G1 H1 J q1 e1 r1 gv D hD => ?_⟩
  obtain ⟨I, i0, step, fin⟩ := q1
  obtain ⟨Gd, Y, W, hG, hY⟩ := gv
  have fr := r1.free hD
  -- the state of a turn
  let Pv : Nat → Hp → Prop := fun i H' => ∃ G' ρ' acc xs, Ex G1 G' ∧ Rep { c with pin := (D, .lst xs) :: c.pin } G' (L2.wipe σ vs) H' (wipeR ρ' vs) ∧ RpAll G' xs acc ∧ I i (wipeR ρ' vs) acc
  have h0 : Pv 0 (upd H1 D (.lst [])) := ⟨G1, ρ1, [], [], Ex.refl G1, (r1.pinN hD).wiped vs, .nil, i0⟩
  refine lc_it W Pv h0 (fun i H' _ ⟨G', ρ', acc, xs, e, r, _, _⟩ => hG H' (e.trans r.gh)) (fun i x H' H'' hi p y => ?_) (fun H' p => ?_)
  · obtain ⟨G', ρ', acc, xs, e, r, ra, hI⟩ := p
    obtain ⟨d, hdi⟩ : ∃ d, items[i]? = some d := ⟨_, List.getElem?_eq_getElem hi⟩
    obtain ⟨G2, e2, r2, hx⟩ := r.out (hY i H' x H'' d (e.trans r.gh) y hdi G' e r.gh)
    refine ⟨_, G2, _, d, _, r2, hx, step i d _ acc hdi hI, fun σ2 ρ2 q2 r3 l2 => ?_⟩
    have hw : L2.wipe σ2 vs = L2.wipe σ vs := by rw [wipe_same l2.1 l2.2 hs, wipe_idem]
    refine ⟨hw, _, G2, ρ2, _, r3, q2, fun b ρ3 G3 H3 q3 e3 r4 => ?_⟩
    cases b with
    | false =>
      show Pv (i + 1) H3
      have r5 := r4.wiped vs
      rw [hw] at r5
      exact ⟨G3, ρ3, acc, xs, (e.trans e2).trans e3, r5, ra.up (e2.trans e3), q3⟩
    | true =>
      show tD de σ2 H3 _
      refine ⟨_, G3, ρ3, _, r4, q3, fun y ρ4 G4 H4 w q4 e4 r5 hy => ?_⟩
      have r6 := (r5.repin (o' := .lst (xs ++ [w])) fr).wiped vs
      rw [hw] at r6
      refine ⟨xs, (r5.pins _ List.mem_cons_self).1, sz_lt (by rw [ra.len]; exact q4.1), ?_⟩
      exact ⟨G4, ρ4, acc ++ [y], xs ++ [w], ((e.trans e2).trans e3).trans e4, r6, (ra.up ((e2.trans e3).trans e4)).app (.cons hy .nil), q4.2⟩
  · obtain ⟨G', ρ', acc, xs, e, r, ra, hI⟩ := p
    refine k acc _ G' H' D xs (fin _ acc hI) (e1.trans e) ?_ fr ra
    have r5 := r.wiped vs
    rw [wipe_idem] at r5
    exact r5.unwipe fun j hj => wipeR_no hj
section
variable {X : Cx}
abbrev PTsD (X : Cx) (ifs : List Expr) (dt : DT) : Prop := PTs X ifs (tT dt)
def dYes : DT := fun ρ Q => Q true ρ
theorem ptsd_nil : PTsD X [] dYes := ⟨fun pins s σ H Q I ⟨c, G, ρ, Q', rp, hd, k⟩ => pts_nil.run pins s σ H Q I (k true ρ G H hd (Ex.refl G) rp)⟩
theorem ptsd_one {e : Expr} {dt : DT} (h : PTD X e dt) : PTsD X [e] dt := pts_one h
theorem pn_lc {elt tg iter : Expr} {ifs : List Expr} {scope : Scope} {own : List (Str × Nat)} {pos : Pos} {di : DN} {dg : DG} {dt : DT} {de : DE} {is : List Nat} (hc : X.calm = true) (hN : X.N.Nodup) (hi : PID X tg iter di) (ok : BlkOk X.N X.env.scope scope own)
    (hg : ∀ (s : Shared) (H : Hp) (C : Addr) (cl : List (Str × Addr)) (fp : List Addr), PGD (X.blk s H scope (compEnvC scope cl C X.env) fp) tg is dg) (ht : ∀ (s : Shared) (H : Hp) (C : Addr) (cl : List (Str × Addr)) (fp : List Addr), PTsD (X.blk s H scope (compEnvC scope cl C X.env) fp) ifs dt)
    (he : ∀ (s : Shared) (H : Hp) (C : Addr) (cl : List (Str × Addr)) (fp : List Addr), PD (X.blk s H scope (compEnvC scope cl C X.env) fp) elt de) (hj : ∀ j ∈ is, j ∈ own.map (·.2) := by decide) (hs : ∀ x, foldedSetIterable iter X.env x = pure x := by intro _; rfl) :
    PN X (.ListComp elt [⟨tg, iter, ifs, 0⟩] scope pos) (dLc di dg dt de (own.map (·.2))) := pe_imp (pe_lc hc hN hi ok hg ht he hs) fun _ _ _ h => lc_go (wi := iD di) hj h
end
end DL

set_option Elab.async false
set_option linter.all false
set_option maxRecDepth 100000
set_option maxHeartbeats 1000000
/-! DL4: statements and defs over data. -/
namespace DL
open PySem L2 Evl PyProof.Rows RZ

structure DEnds where
  nx : Rho → Prop
  /-- true: what is handed back is new -/
  rt : Bool → PyData → Rho → Prop
  bk : Rho → Prop := fun _ => False
  ct : Rho → Prop := fun _ => False
abbrev DS := DEnds → Rho → Prop
structure EndsOk (c : Co) (G : Hp) (D : Ends) (D' : DEnds) : Prop where
  nx : ∀ σ G' H ρ, D'.nx ρ → Ex G G' → Rep c G' σ H ρ → D.nx σ H
  rt : ∀ σ G' H ρ n d v, D'.rt n d ρ → Ex G G' → Rep c G' σ H ρ → Rp G' v d → (n = true → ∀ a, v = .ref a → c.H0 a = none) → D.rt v H
  bk : ∀ σ G' H ρ, D'.bk ρ → Ex G G' → Rep c G' σ H ρ → D.bk σ H
  ct : ∀ σ G' H ρ, D'.ct ρ → Ex G G' → Rep c G' σ H ρ → D.ct σ H
theorem EndsOk.up {c : Co} {G G' : Hp} {D : Ends} {D' : DEnds} (h : EndsOk c G D D') (e : Ex G G') : EndsOk c G' D D' :=
  ⟨fun σ G2 H ρ a b => h.nx σ G2 H ρ a (e.trans b), fun σ G2 H ρ n d v a b => h.rt σ G2 H ρ n d v a (e.trans b), fun σ G2 H ρ a b => h.bk σ G2 H ρ a (e.trans b), fun σ G2 H ρ a b => h.ct σ G2 H ρ a (e.trans b)⟩
def tS (ds : DS) : TS := fun D σ H => ∃ c G ρ D', Rep c G σ H ρ ∧ ds D' ρ ∧ EndsOk c G D D'
abbrev PSD (X : Cx) (st : Stmt) (ds : DS) : Prop := PS X st (tS ds)
abbrev PSsD (X : Cx) (sts : List Stmt) (ds : DS) : Prop := PSs X sts (tS ds)
def dNext : DS := fun D ρ => D.nx ρ
def dSeq (a b : DS) : DS := fun D ρ => a { D with nx := b D } ρ
def dBreak : DS := fun D ρ => D.bk ρ
def dCont : DS := fun D ρ => D.ct ρ
def dDrop (de : DE) : DS := fun D ρ => de ρ fun _ ρ1 => D.nx ρ1
def dRet (de : DE) : DS := fun D ρ => de ρ fun d ρ1 => D.rt false d ρ1
def dRetF (de : DE) : DS := fun D ρ => de ρ fun d ρ1 => D.rt true d ρ1
def dRetN : DS := fun D ρ => D.rt false .none ρ
def dIfS (dt : DT) (a b : DS) : DS := fun D ρ => dt ρ fun k ρ1 => match k with
  | true => a D ρ1
  | false => b D ρ1
def dSet (i : Nat) (de : DE) : DS := fun D ρ => de ρ fun d ρ1 => D.nx (ρ1.set i (.val d))
def dSetN (i : Nat) (dn : DN) : DS := fun D ρ => dn ρ fun ds ρ1 => D.nx (ρ1.set i (.own ds))
def dNever : DS := fun _ _ => False
section
variable {X : Cx} {st : Stmt} {rest sts : List Stmt} {a b : DS} {e : Expr} {de da db : DE} {dn : DN} {pos : Pos}
theorem pssd_nil : PSsD X [] dNext := pss_imp pss_nil fun D σ H ⟨c, G, ρ, D', r, h, k⟩ => k.nx σ G H ρ h (Ex.refl G) r
theorem pssd_cons (h1 : PSD X st a) (h2 : PSsD X rest b) : PSsD X (st :: rest) (dSeq a b) := pss_imp (pss_cons h1 h2) fun D σ H ⟨c, G, ρ, D', r, h, k⟩ =>
  ⟨c, G, ρ, _, r, h, ⟨fun σ' G' H' ρ' q e r' => ⟨c, G', ρ', D', r', q, k.up e⟩, k.rt, k.bk, k.ct⟩⟩
theorem pssd_one (h1 : PSD X st a) : PSsD X [st] a := pss_one h1
theorem psd_pass : PSD X (.Pass pos) dNext := ps_imp ps_pass fun D σ H ⟨c, G, ρ, D', r, h, k⟩ => k.nx σ G H ρ h (Ex.refl G) r
theorem psd_break : PSD X (.Break pos) dBreak := ps_imp ps_break fun D σ H ⟨c, G, ρ, D', r, h, k⟩ => k.bk σ G H ρ h (Ex.refl G) r
theorem psd_cont : PSD X (.Continue pos) dCont := ps_imp ps_continue fun D σ H ⟨c, G, ρ, D', r, h, k⟩ => k.ct σ G H ρ h (Ex.refl G) r
theorem psd_never : PSD X st dNever := ps_imp ps_never fun D σ H ⟨c, G, ρ, D', r, h, k⟩ => h
theorem pssd_never : PSsD X sts dNever := pss_imp pss_never fun D σ H ⟨c, G, ρ, D', r, h, k⟩ => h
theorem psd_drop (he : PD X e de) (hs : swapsWith e none pos.line X.env = pure false := by rfl) : PSD X (.Expr e pos) (dDrop de) := ps_imp (ps_expr he hs) fun D σ H ⟨c, G, ρ, D', r, h, k⟩ =>
  ⟨c, G, ρ, _, r, h, fun d ρ1 G1 H1 v q1 e1 r1 hx => k.nx σ G1 H1 ρ1 q1 e1 r1⟩
theorem psd_ret (he : PD X e de) : PSD X (.Return (some e) pos) (dRet de) := ps_imp (ps_ret he) fun D σ H ⟨c, G, ρ, D', r, h, k⟩ =>
  ⟨c, G, ρ, _, r, h, fun d ρ1 G1 H1 v q1 e1 r1 hx => k.rt σ G1 H1 ρ1 _ d v q1 e1 r1 hx (fun z => nomatch z)⟩
theorem psd_retN : PSD X (.Return none pos) dRetN := ps_imp ps_retN fun D σ H ⟨c, G, ρ, D', r, h, k⟩ => k.rt σ G H ρ _ _ _ h (Ex.refl G) r .non (fun z => nomatch z)
/-- a value that is data, and new where it is an object -/
def tF (de : DE) : TE := fun σ H Q => ∃ c G ρ Q', Rep c G σ H ρ ∧ de ρ Q' ∧ ∀ d ρ' G' H' v, Q' d ρ' → Ex G G' → Rep c G' σ H' ρ' → Rp G' v d → (∀ a, v = .ref a → c.H0 a = none ∧ G a = none) → Q v H'
abbrev PF (X : Cx) (e : Expr) (de : DE) : Prop := PE X e (tF de)
def dOwn (i : Nat) : DE := fun ρ Q => match ρ[i]? with
  | some (.own ds) => Q (.list ds) (ρ.set i (.val (.list ds)))
  | _ => False
theorem pf_own (i : Nat) {x : Str} {pos : Pos} (hN : X.N[i]? = some x := by rfl) (hv : Vis X.env.scope x := by first | exact Or.inl rfl | exact Or.inr (Or.inl rfl) | exact Or.inr (Or.inr rfl)) (hd : (x == ("__debug__" : Str)) = false := by decide)
    (hcd : (x == ("__classdict__" : Str)) = false := by decide) : PF X (.Name x pos) (dOwn i) := pe_imp (pe_var hN hv hd hcd) fun σ H Q ⟨c, G, ρ, Q', r, h, k⟩ => by
  unfold dOwn at h
  cases q : ρ[i]? with
  | none => rw [q] at h; exact h.elim
  | some s =>
    rw [q] at h
    cases s with
    | own ds =>
      obtain ⟨a, xs, g1, g2, g3, g4, g5⟩ := r.ok i _ q
      obtain ⟨v, G', h1, h2, h3, h4⟩ := r.freeze q
      refine ⟨v, h1, k _ _ G' H v h h2 h3 h4 fun b e => ?_⟩
      rw [h1, e] at g1
      cases g1
      exact ⟨g5, g4⟩
    | _ => exact h.elim
theorem pf_n (h : PN X e dn) : PF X e (asD dn) := pe_imp h fun σ H Q ⟨c, G, ρ, Q', r, hd, k⟩ => ⟨c, G, ρ, _, r, hd, fun ds ρ' G' H' p xs q e r' f h' => by
  obtain ⟨e2, r2⟩ := r'.settle f.1 f.2
  exact k (.list ds) ρ' _ H' (.ref p) q (e.trans e2) r2 (.lst upd_same (h'.up e2)) fun a z => by
    cases z
    exact ⟨f.1, by
      have := (r'.pins _ List.mem_cons_self).2.1
      cases y : G p with
      | none => rfl
      | some o => rw [e p o y] at this; cases this⟩⟩
theorem psd_retF (he : PF X e de) : PSD X (.Return (some e) pos) (dRetF de) := ps_imp (ps_ret he) fun D σ H ⟨c, G, ρ, D', r, h, k⟩ =>
  ⟨c, G, ρ, _, r, h, fun d ρ1 G1 H1 v q1 e1 r1 hx f => k.rt σ G1 H1 ρ1 _ d v q1 e1 r1 hx fun _ a z => (f a z).1⟩
theorem psd_if {t : Expr} {p q : List Stmt} {dt : DT} (ht : PTD X t dt) (ha : PSsD X p a) (hb : PSsD X q b) : PSD X (.If t p q pos) (dIfS dt a b) := ps_imp (ps_if ht ha hb) fun D σ H ⟨c, G, ρ, D', r, h, k⟩ => by
  refine ⟨c, G, ρ, _, r, h, fun b ρ1 G1 H1 q1 e1 r1 => ?_⟩
  cases b with
  | true => exact ⟨c, G1, ρ1, D', r1, q1, k.up e1⟩
  | false => exact ⟨c, G1, ρ1, D', r1, q1, k.up e1⟩
theorem psd_set (i : Nat) {x : Str} {p : Pos} (hN : X.N.Nodup) (he : PD X e de) (hi : X.N[i]? = some x := by rfl) (hx : Loc X.env.scope x := by first | exact Or.inl rfl | exact Or.inr rfl) (hs : swapsWith e (some (.Name x p)) pos.line X.env = pure false := by rfl) (hf : X.fn x = true ∨ X.env.scope.names.lookup x = some .local := by first | exact .inl rfl | exact .inr rfl) :
    PSD X (.Assign [.Name x p] e pos) (dSet i de) := ps_imp (ps_set hN hi hx he hs hf) fun D σ H ⟨c, G, ρ, D', r, h, k⟩ =>
  ⟨c, G, ρ, _, r, h, fun d ρ1 G1 H1 v q1 e1 r1 hx => k.nx _ G1 H1 _ q1 e1 (r1.setV hx)⟩
theorem psd_setN (i : Nat) {x : Str} {p : Pos} (hN : X.N.Nodup) (he : PN X e dn) (hi : X.N[i]? = some x := by rfl) (hx : Loc X.env.scope x := by first | exact Or.inl rfl | exact Or.inr rfl) (hs : swapsWith e (some (.Name x p)) pos.line X.env = pure false := by rfl) (hf : X.fn x = true ∨ X.env.scope.names.lookup x = some .local := by first | exact .inl rfl | exact .inr rfl) :
    PSD X (.Assign [.Name x p] e pos) (dSetN i dn) := ps_imp (ps_set hN hi hx he hs hf) fun D σ H ⟨c, G, ρ, D', r, h, k⟩ =>
  ⟨c, G, ρ, _, r, h, fun ds ρ1 G1 H1 p xs q1 e1 r1 f hx => k.nx _ G1 H1 _ q1 e1 (r1.setM (s := .own ds) rfl ⟨p, xs, rfl, (r1.pins _ List.mem_cons_self).1, hx, (r1.pins _ List.mem_cons_self).2.1, f.1⟩ f.2)⟩
/-- name = [..] on one line -/
theorem psd_setLc (i : Nat) {y : Str} {py : Pos} {elt tg iter : Expr} {ifs : List Expr} {scope : Scope} {own : List (Str × Nat)} {spos : Pos} {di : DN} {dg : DG} {dt : DT} {is : List Nat} (hc : X.calm = true) (hN : X.N.Nodup)
    (hi : PID X tg iter di) (ok : BlkOk X.N X.env.scope scope own)
    (hg : ∀ (s : Shared) (H : Hp) (C : Addr) (cl : List (Str × Addr)) (fp : List Addr), PGD (X.blk s H scope (compEnvC scope cl C X.env) fp) tg is dg) (ht : ∀ (s : Shared) (H : Hp) (C : Addr) (cl : List (Str × Addr)) (fp : List Addr), PTsD (X.blk s H scope (compEnvC scope cl C X.env) fp) ifs dt)
    (he : ∀ (s : Shared) (H : Hp) (C : Addr) (cl : List (Str × Addr)) (fp : List Addr), PD (X.blk s H scope (compEnvC scope cl C X.env) fp) elt de) (hy : X.N[i]? = some y := by rfl) (hyl : X.env.scope.names.lookup y = some .local := by rfl)
    (hsw : swapsWith (.ListComp elt [⟨tg, iter, ifs, 0⟩] scope pos) (some (.Name y py)) spos.line X.env = pure true := by exact sw_true rfl rfl rfl (by decide +kernel)) (hj : ∀ j ∈ is, j ∈ own.map (·.2) := by decide) (hs : ∀ x, foldedSetIterable iter X.env x = pure x := by intro _; rfl) :
    PSD X (.Assign [.Name y py] (.ListComp elt [⟨tg, iter, ifs, 0⟩] scope pos) spos) (dSet i (asD (dLc di dg dt de (own.map (·.2))))) :=
  ps_imp (ps_setLc hc hN hy hyl hsw hi ok hg ht he hs) fun D σ H ⟨c, G, ρ, D', r, h, k⟩ => lc_go (wi := iD di) hj ⟨c, G, ρ, _, r, h, fun ds ρ' G' H' p xs q e r' f h' => by
    obtain ⟨e2, r2⟩ := r'.settle f.1 f.2
    exact k.nx _ _ H' _ q (e.trans e2) (r2.setV (.lst upd_same (h'.up e2)))⟩
theorem psd_setLcN (i : Nat) {y : Str} {py : Pos} {elt tg iter : Expr} {ifs : List Expr} {scope : Scope} {own : List (Str × Nat)} {spos : Pos} {di : DN} {dg : DG} {dt : DT} {is : List Nat} (hc : X.calm = true) (hN : X.N.Nodup)
    (hi : PID X tg iter di) (ok : BlkOk X.N X.env.scope scope own)
    (hg : ∀ (s : Shared) (H : Hp) (C : Addr) (cl : List (Str × Addr)) (fp : List Addr), PGD (X.blk s H scope (compEnvC scope cl C X.env) fp) tg is dg) (ht : ∀ (s : Shared) (H : Hp) (C : Addr) (cl : List (Str × Addr)) (fp : List Addr), PTsD (X.blk s H scope (compEnvC scope cl C X.env) fp) ifs dt)
    (he : ∀ (s : Shared) (H : Hp) (C : Addr) (cl : List (Str × Addr)) (fp : List Addr), PD (X.blk s H scope (compEnvC scope cl C X.env) fp) elt de) (hy : X.N[i]? = some y := by rfl) (hyl : X.env.scope.names.lookup y = some .local := by rfl)
    (hsw : swapsWith (.ListComp elt [⟨tg, iter, ifs, 0⟩] scope pos) (some (.Name y py)) spos.line X.env = pure true := by exact sw_true rfl rfl rfl (by decide +kernel)) (hj : ∀ j ∈ is, j ∈ own.map (·.2) := by decide) (hs : ∀ x, foldedSetIterable iter X.env x = pure x := by intro _; rfl) :
    PSD X (.Assign [.Name y py] (.ListComp elt [⟨tg, iter, ifs, 0⟩] scope pos) spos) (dSetN i (dLc di dg dt de (own.map (·.2)))) :=
  ps_imp (ps_setLc hc hN hy hyl hsw hi ok hg ht he hs) fun D σ H ⟨c, G, ρ, D', r, h, k⟩ => lc_go (wi := iD di) hj ⟨c, G, ρ, _, r, h, fun ds ρ' G' H' p xs q e r' f h' =>
    k.nx _ G' H' _ q e (r'.setM (s := .own ds) rfl ⟨p, xs, rfl, (r'.pins _ List.mem_cons_self).1, h', (r'.pins _ List.mem_cons_self).2.1, f.1⟩ f.2)⟩
/-- a, b = a tuple -/
def dUnp (de : DE) (dg : DG) : DS := fun D ρ => de ρ fun d ρ1 => dg d ρ1 D.nx
theorem psd_unp {tg : Expr} {is : List Nat} {dg : DG} (he : PD X e de) (hg : PGD X tg is dg) (hs : swapsWithSole [tg] e pos.line X.env = pure false := by rfl) (hw : swappedStores [tg] e X.env = pure none := by rfl)
    (h1 : (assignEach [tg] X.env).map (·.2) = [assign tg X.env] := by rfl) : PSD X (.Assign [tg] e pos) (dUnp de dg) := ps_imp (ps_asg he hg hs hw h1) fun D σ H ⟨c, G, ρ, D', r, h, k⟩ =>
  ⟨c, G, ρ, _, r, h, fun d ρ1 G1 H1 v q1 e1 r1 hx => ⟨c, G1, ρ1, d, _, r1, hx, q1, fun σ' ρ' q2 r2 _ => k.nx _ G1 H1 _ q2 e1 r2⟩⟩
/-- a, b = x, y -/
def dPar (i j : Nat) (da db : DE) : DS := fun D ρ => da ρ fun x ρ1 => db ρ1 fun y ρ2 => D.nx ((ρ2.set i (.val x)).set j (.val y))
def dParN (i j : Nat) (dn : DN) (db : DE) : DS := fun D ρ => dn ρ fun xs ρ1 => db ρ1 fun y ρ2 => D.nx ((ρ2.set i (.own xs)).set j (.val y))
variable {e1 e2 : Expr}
theorem psd_par (i j : Nat) {x y : Str} {px py pt : Pos} {kt k2 pt2} (hc : X.calm = true) (hN : X.N.Nodup) (ha : PD X e1 da) (hb : PD X e2 db) (hi : X.N[i]? = some x := by rfl) (hj : X.N[j]? = some y := by rfl) (hij : i ≠ j := by decide)
    (hx : X.env.scope.names.lookup x = some .local := by rfl) (hy : X.env.scope.names.lookup y = some .local := by rfl) (hs1 : starEach [e1, e2] X.env = (false, eval e1 X.env) :: starEach [e2] X.env := by rfl) (hs2 : starEach [e2] X.env = (false, eval e2 X.env) :: starEach [] X.env := by rfl)
    (hw : swappedStores [.Tuple [.Name x px, .Name y py] kt pt] (.Tuple [e1, e2] k2 pt2) X.env = pure (some [x, y]) := by rfl) (hs : swapsWithSole [.Tuple [.Name x px, .Name y py] kt pt] (.Tuple [e1, e2] k2 pt2) pos.line X.env = pure false := by rfl) :
    PSD X (.Assign [.Tuple [.Name x px, .Name y py] kt pt] (.Tuple [e1, e2] k2 pt2) pos) (dPar i j da db) := ps_imp (ps_par hc hN hi hj hij hx hy (pa_cons ha (pa_cons hb pa_nil hs2) hs1) hw hs) fun D σ H ⟨c, G, ρ, D', r, h, k⟩ =>
  ⟨c, G, ρ, _, r, h, fun d ρ1 G1 H1 v q1 f1 r1 hx => ⟨c, G1, ρ1, _, r1, q1, fun d2 ρ2 G2 H2 w q2 f2 r2 hy => ⟨v, w, rfl, k.nx _ G2 H2 _ q2 (f1.trans f2) ((r2.setV (hx.up f2)).setV hy)⟩⟩⟩
theorem psd_parN (i j : Nat) {x y : Str} {px py pt : Pos} {kt k2 pt2} (hc : X.calm = true) (hN : X.N.Nodup) (ha : PN X e1 dn) (hb : PD X e2 db) (hi : X.N[i]? = some x := by rfl) (hj : X.N[j]? = some y := by rfl) (hij : i ≠ j := by decide)
    (hx : X.env.scope.names.lookup x = some .local := by rfl) (hy : X.env.scope.names.lookup y = some .local := by rfl) (hs1 : starEach [e1, e2] X.env = (false, eval e1 X.env) :: starEach [e2] X.env := by rfl) (hs2 : starEach [e2] X.env = (false, eval e2 X.env) :: starEach [] X.env := by rfl)
    (hw : swappedStores [.Tuple [.Name x px, .Name y py] kt pt] (.Tuple [e1, e2] k2 pt2) X.env = pure (some [x, y]) := by rfl) (hs : swapsWithSole [.Tuple [.Name x px, .Name y py] kt pt] (.Tuple [e1, e2] k2 pt2) pos.line X.env = pure false := by rfl) :
    PSD X (.Assign [.Tuple [.Name x px, .Name y py] kt pt] (.Tuple [e1, e2] k2 pt2) pos) (dParN i j dn db) := ps_imp (ps_par hc hN hi hj hij hx hy (pa_cons ha (pa_cons hb pa_nil hs2) hs1) hw hs) fun D σ H ⟨c, G, ρ, D', r, h, k⟩ =>
  ⟨c, G, ρ, _, r, h, fun ds ρ1 G1 H1 p xs q1 f1 r1 f hx => ⟨{ c with pin := (p, .lst xs) :: c.pin }, G1, ρ1, _, r1, q1, fun d2 ρ2 G2 H2 w q2 f2 r2 hy => ⟨_, w, rfl, k.nx _ G2 H2 _ q2 (f1.trans f2)
    ((r2.setM (s := .own ds) rfl ⟨p, xs, rfl, (r2.pins _ List.mem_cons_self).1, hx.up f2, (r2.pins _ List.mem_cons_self).2.1, f.1⟩ f.2).setV hy)⟩⟩⟩
def dPar3N (i j l : Nat) (dn : DN) (db dc : DE) : DS := fun D ρ => dn ρ fun xs ρ1 => db ρ1 fun y ρ2 => dc ρ2 fun z ρ3 => D.nx (((ρ3.set i (.own xs)).set j (.val y)).set l (.val z))
theorem psd_par3N (i j l : Nat) {x y z : Str} {e3 : Expr} {dc : DE} {px py pz pt : Pos} {kt k2 pt2} (hc : X.calm = true) (hN : X.N.Nodup) (ha : PN X e1 dn) (hb : PD X e2 db) (hd : PD X e3 dc) (hi : X.N[i]? = some x := by rfl) (hj : X.N[j]? = some y := by rfl) (hl : X.N[l]? = some z := by rfl) (hij : i ≠ j := by decide) (hil : i ≠ l := by decide) (hjl : j ≠ l := by decide)
    (hx : X.env.scope.names.lookup x = some .local := by rfl) (hy : X.env.scope.names.lookup y = some .local := by rfl) (hz : X.env.scope.names.lookup z = some .local := by rfl) (hs1 : starEach [e1, e2, e3] X.env = (false, eval e1 X.env) :: starEach [e2, e3] X.env := by rfl) (hs2 : starEach [e2, e3] X.env = (false, eval e2 X.env) :: starEach [e3] X.env := by rfl) (hs3 : starEach [e3] X.env = (false, eval e3 X.env) :: starEach [] X.env := by rfl)
    (hw : swappedStores [.Tuple [.Name x px, .Name y py, .Name z pz] kt pt] (.Tuple [e1, e2, e3] k2 pt2) X.env = pure (some [x, y, z]) := by rfl) (hs : swapsWithSole [.Tuple [.Name x px, .Name y py, .Name z pz] kt pt] (.Tuple [e1, e2, e3] k2 pt2) pos.line X.env = pure false := by rfl) :
    PSD X (.Assign [.Tuple [.Name x px, .Name y py, .Name z pz] kt pt] (.Tuple [e1, e2, e3] k2 pt2) pos) (dPar3N i j l dn db dc) := ps_imp (ps_par3 hc hN hi hj hl hij hil hjl hx hy hz (pa_cons ha (pa_cons hb (pa_cons hd pa_nil hs3) hs2) hs1) hw hs) fun D σ H ⟨c, G, ρ, D', r, h, k⟩ =>
  ⟨c, G, ρ, _, r, h, fun ds ρ1 G1 H1 p xs q1 f1 r1 f hx => ⟨{ c with pin := (p, .lst xs) :: c.pin }, G1, ρ1, _, r1, q1, fun d2 ρ2 G2 H2 w q2 f2 r2 hy => ⟨_, G2, ρ2, _, r2, q2, fun d3 ρ3 G3 H3 w3 q3 f3 r3 hz => ⟨_, w, w3, rfl, k.nx _ G3 H3 _ q3 ((f1.trans f2).trans f3)
    (((r3.setM (s := .own ds) rfl ⟨p, xs, rfl, (r3.pins _ List.mem_cons_self).1, hx.up (f2.trans f3), (r3.pins _ List.mem_cons_self).2.1, f.1⟩ f.2).setV (hy.up f3)).setV hz)⟩⟩⟩⟩
/-! ### what is changed in place -/
/-- the list of a slot that may be changed -/
def own (ρ : Rho) (i : Nat) (k : List PyData → (List PyData → Rho) → Prop) : Prop := match ρ[i]? with
  | some (.own ds) => k ds fun es => ρ.set i (.own es)
  | some (.pur ds) => k ds fun es => ρ.set i (.pur es)
  | _ => False
theorem own_some {c : Co} {G H : Hp} {σ : L2.St} {ρ : Rho} {i : Nat} {k : List PyData → (List PyData → Rho) → Prop} (r : Rep c G σ H ρ) (h : own ρ i k) : ∃ a xs ds put, σ[i]? = some (some (.ref a)) ∧ H a = some (.lst xs) ∧ RpAll G xs ds ∧ k ds put ∧
    ∀ ys es, RpAll G ys es → Rep c G σ (upd H a (.lst ys)) (put es) := by
  unfold own at h
  cases q : ρ[i]? with
  | none => rw [q] at h; exact h.elim
  | some s =>
    rw [q] at h
    have o := r.ok i s q
    cases s with
    | own ds =>
      obtain ⟨a, xs, h1, h2, h3, h4, h5⟩ := o
      exact ⟨a, xs, ds, _, h1, h2, h3, h, fun ys es hy => r.chg q rfl rfl h1 (.inl h5) ⟨a, ys, rfl, upd_same, hy, h4, h5⟩⟩
    | pur ds =>
      obtain ⟨a, xs, h1, h2, h3, h4, h5⟩ := o
      exact ⟨a, xs, ds, _, h1, h2, h3, h, fun ys es hy => r.chg q rfl rfl h1 (.inr h5) ⟨a, ys, rfl, upd_same, hy, h4, h5⟩⟩
    | _ => exact h.elim
/-- x.append(e) -/
def dApp (i : Nat) (de : DE) : DS := fun D ρ => own ρ i fun _ _ => de ρ fun d ρ1 => own ρ1 i fun ds put => ds.length < 100000 ∧ D.nx (put (ds ++ [d]))
theorem psd_app (i : Nat) {x : Str} {p apos cpos : Pos} (he : PD X e de) (hN : X.N[i]? = some x := by rfl) (hv : Vis X.env.scope x := by first | exact Or.inl rfl | exact Or.inr (Or.inl rfl) | exact Or.inr (Or.inr rfl)) (hd : (x == ("__debug__" : Str)) = false := by decide)
    (hcd : (x == ("__classdict__" : Str)) = false := by decide) (hp : PE X (.Call (.Attribute (.Name x p) "append" apos) [e] [] cpos) (tBM X.K "list" rAppend (tVar i) (tCons (tD de) tNil))) (hs : swapsWith (.Call (.Attribute (.Name x p) "append" apos) [e] [] cpos) none pos.line X.env = pure false := by rfl) :
    PSD X (.Expr (.Call (.Attribute (.Name x p) "append" apos) [e] [] cpos) pos) (dApp i de) := ps_imp (ps_expr hp hs) fun D σ H ⟨c, G, ρ, D', r, h, k⟩ => by
  obtain ⟨a, xs, ds, put, h1, h2, h3, h4, h5⟩ := own_some r h
  refine ⟨_, h1, Or.inl ⟨rfl, xs, SqL.of h2⟩, c, G, ρ, _, r, h4, fun d ρ1 G1 H1 v q1 e1 r1 hx => ?_⟩
  obtain ⟨a', xs', ds', put', k1, k2, k3, k4, k5⟩ := own_some r1 q1
  rw [h1] at k1
  cases k1
  exact ⟨a, xs', v, rfl, rfl, k2, sz_lt (by rw [k3.len]; exact k4.1), k.nx _ G1 _ _ k4.2 e1 (k5 _ _ (k3.app (.cons hx .nil)))⟩
/-- x[n] = e -/
def dSetIx (i : Nat) (de dk : DE) : DS := fun D ρ => de ρ fun d ρ1 => own ρ1 i fun _ _ => dk ρ1 fun z ρ2 => own ρ2 i fun ds put => match z with
  | .int n => ∃ j, ixN ds.length n = some j ∧ D.nx (put (ds.set j d))
  | _ => False
theorem psd_setIx (i : Nat) {x : Str} {p tpos : Pos} {kx : Expr} {dk : DE} (he : PD X e de) (hk : PD X kx dk) (hN : X.N[i]? = some x := by rfl) (hv : Vis X.env.scope x := by first | exact Or.inl rfl | exact Or.inr (Or.inl rfl) | exact Or.inr (Or.inr rfl)) (hd : (x == ("__debug__" : Str)) = false := by decide)
    (hcd : (x == ("__classdict__" : Str)) = false := by decide) (ha : ∀ v, assign (.Subscript (.Name x p) kx tpos) X.env v = (do
      let ov ← holding [v] (eval (.Name x p) X.env)
      let iv ← holding [v, ov] (eval kx X.env)
      standAt tpos
      holding [v, ov, iv] (setItem ov iv v)
      release [v, ov, iv] []) := by intro _; rfl) (hs : swapsWithSole [.Subscript (.Name x p) kx tpos] e pos.line X.env = pure false := by rfl) (hw : swappedStores [.Subscript (.Name x p) kx tpos] e X.env = pure none := by rfl)
    (h1 : (assignEach [.Subscript (.Name x p) kx tpos] X.env).map (·.2) = [assign (.Subscript (.Name x p) kx tpos) X.env] := by rfl) : PSD X (.Assign [.Subscript (.Name x p) kx tpos] e pos) (dSetIx i de dk) :=
  ps_imp (ps_asg he (pg_sub (pe_var hN hv hd hcd) hk set_list ha) hs hw h1) fun D σ H ⟨c, G, ρ, D', r, h, k⟩ => by
    refine ⟨c, G, ρ, _, r, h, fun d ρ1 G1 H1 v q1 e1 r1 hx => ?_⟩
    obtain ⟨a, xs, ds, put, h1, h2, h3, h4, h5⟩ := own_some r1 q1
    refine ⟨_, h1, c, G1, ρ1, _, r1, h4, fun z ρ2 G2 H2 w q2 e2 r2 hz => ?_⟩
    obtain ⟨a', xs', ds', put', k1, k2, k3, k4, k5⟩ := own_some r2 q2
    rw [h1] at k1
    cases k1
    cases hz with
    | int n =>
      obtain ⟨j, j1, j2⟩ := k4
      exact ⟨a, xs', n, j, rfl, rfl, k2, by rw [k3.len]; exact j1, k.nx _ G2 _ _ j2 (e1.trans e2) (k5 _ _ (k3.put j (hx.up e2)))⟩
    | _ => exact k4.elim
/-- x += e, ints -/
def dAug (i : Nat) (f : Int → Int → Int) (de : DE) : DS := fun D ρ => rd ρ i fun x => de ρ fun y ρ1 => match x, y with
  | .int n, .int m => D.nx (ρ1.set i (.val (.int (f n m))))
  | _, _ => False
theorem psd_aug (i : Nat) {x : Str} {p : Pos} {op : Operator} {f : Int → Int → Int} (ho : PIp X op (ipI f)) (hN : X.N.Nodup) (he : PD X e de) (hi : X.N[i]? = some x := by rfl) (hx : Loc X.env.scope x := by first | exact Or.inl rfl | exact Or.inr rfl) (hf : X.fn x = true ∨ X.env.scope.names.lookup x = some .local := by first | exact .inl rfl | exact .inr rfl) :
    PSD X (.AugAssign (.Name x p) op e pos) (dAug i f de) := ps_imp (ps_aug hN hi hx he ho hf) fun D σ H ⟨c, G, ρ, D', r, h, k⟩ => by
  obtain ⟨v, d, h1, h2, h3⟩ := rd_some r h
  refine ⟨v, h1, c, G, ρ, _, r, h3, fun y ρ1 G1 H1 w q1 e1 r1 hy => ?_⟩
  cases d with
  | int n =>
    cases hy with
    | int m => exact ⟨n, m, h2.int, rfl, k.nx _ G1 _ _ q1 e1 (r1.setV (.int _))⟩
    | _ => exact q1.elim
  | _ => cases y <;> exact q1.elim
/-! ### loops -/
def dWhile (dt : DT) (db : DS) : DS := fun D ρ => ∃ W : Nat → Rho → Prop, (∃ m, W m ρ) ∧ ∀ m ρ, W m ρ → dt ρ fun b ρ1 => match b with
  | true => db { D with nx := fun ρ' => ∃ m', m' < m ∧ W m' ρ', ct := fun ρ' => ∃ m', m' < m ∧ W m' ρ', bk := D.nx } ρ1
  | false => D.nx ρ1
theorem psd_while {t : Expr} {body : List Stmt} {dt : DT} {b : DS} (hp : PassesOwn (model X.prog X.w) X.A X.env X.xe) (ht : PTD X t dt) (hb : PSsD X body b) : PSD X (.While t body [] pos) (dWhile dt b) := ps_imp (ps_while hp ht hb) fun D σ H ⟨c, G, ρ, D', r, h, k⟩ => by
  obtain ⟨W, ⟨m0, w0⟩, turn⟩ := h
  refine ⟨fun m σ' H' => ∃ G' ρ', Ex G G' ∧ Rep c G' σ' H' ρ' ∧ W m ρ', ⟨m0, G, ρ, Ex.refl G, r, w0⟩, fun m σ1 H1 ⟨G1, ρ1, e1, r1, w1⟩ => ?_⟩
  refine ⟨c, G1, ρ1, _, r1, turn m ρ1 w1, fun b ρ2 G2 H2 q2 e2 r2 => ?_⟩
  cases b with
  | false => exact k.nx _ G2 H2 ρ2 q2 (e1.trans e2) r2
  | true =>
    show ∃ N : L2.St → Hp → Prop, _
    refine ⟨fun σ' H' => ∃ m' G' ρ', m' < m ∧ Ex G G' ∧ Rep c G' σ' H' ρ' ∧ W m' ρ', fun σ' H' ⟨m', G', ρ', a1, a2, a3, a4⟩ => ⟨m', a1, G', ρ', a2, a3, a4⟩, c, G2, ρ2, _, r2, q2, ⟨?_, ?_, ?_, ?_⟩⟩
    · exact fun σ' G' H' ρ' ⟨m', a1, a2⟩ e3 r3 => ⟨m', G', ρ', a1, (e1.trans e2).trans e3, r3, a2⟩
    · exact fun σ' G' H' ρ' n d v a e3 r3 hv => k.rt σ' G' H' ρ' n d v a ((e1.trans e2).trans e3) r3 hv
    · exact fun σ' G' H' ρ' a e3 r3 => k.nx σ' G' H' ρ' a ((e1.trans e2).trans e3) r3
    · exact fun σ' G' H' ρ' ⟨m', a1, a2⟩ e3 r3 => ⟨m', G', ρ', a1, (e1.trans e2).trans e3, r3, a2⟩
def dFor (di : DN) (dg : DG) (db : DS) : DS := fun D ρ => di ρ fun items ρ1 => ∃ I : Nat → Rho → Prop, I 0 ρ1 ∧
  (∀ i x ρ, items[i]? = some x → I i ρ → dg x ρ fun ρ' => db { D with nx := I (i + 1), ct := I (i + 1), bk := D.nx } ρ') ∧ ∀ ρ, I items.length ρ → D.nx ρ
theorem psd_for {tg iter : Expr} {body : List Stmt} {di : DN} {dg : DG} {is : List Nat} {b : DS} (hp : PassesOwn (model X.prog X.w) X.A X.env X.xe) (hc : X.calm = true) (hi : PID X tg iter di) (hg : PGD X tg is dg) (hb : PSsD X body b)
    (hs : ∀ x, foldedSetIterable iter X.env x = pure x := by intro _; rfl) : PSD X (.For tg iter body [] pos) (dFor di dg b) := ps_imp (ps_for hp hc hi hg hb hs) fun D σ H ⟨c, G, ρ, D', r, h, k⟩ => by
  refine ⟨c, G, ρ, _, r, h, fun items ρ1 G1 H1 J q1 e1 r1 gv => ?_⟩
  obtain ⟨I, i0, step, fin⟩ := q1
  obtain ⟨Gd, Y, W, hG, hY⟩ := gv
  refine for_it W (fun i σ' H' => ∃ G' ρ', Ex G1 G' ∧ Rep c G' σ' H' ρ' ∧ I i ρ') ⟨G1, ρ1, Ex.refl G1, r1, i0⟩ (fun i σ' H' _ ⟨G', ρ', e, r', _⟩ => hG H' (e.trans r'.gh)) (fun i x σ' H' H'' hi p y => ?_) (fun σ' H' p => ?_)
  · obtain ⟨G', ρ', e, r', hI⟩ := p
    obtain ⟨d, hdi⟩ : ∃ d, items[i]? = some d := ⟨_, List.getElem?_eq_getElem hi⟩
    obtain ⟨G2, e2, r2, hx⟩ := r'.out (hY i H' x H'' d (e.trans r'.gh) y hdi G' e r'.gh)
    refine ⟨c, G2, ρ', d, _, r2, hx, step i d ρ' hdi hI, fun σ2 ρ2 q2 r3 _ => ⟨c, G2, ρ2, _, r3, q2, ⟨?_, ?_, ?_, ?_⟩⟩⟩
    · exact fun σ3 G3 H3 ρ3 a e3 r4 => ⟨G3, ρ3, (e.trans e2).trans e3, r4, a⟩
    · exact fun σ3 G3 H3 ρ3 n d v a e3 r4 hv => k.rt σ3 G3 H3 ρ3 n d v a (((e1.trans e).trans e2).trans e3) r4 hv
    · exact fun σ3 G3 H3 ρ3 a e3 r4 => k.nx σ3 G3 H3 ρ3 a (((e1.trans e).trans e2).trans e3) r4
    · exact fun σ3 G3 H3 ρ3 a e3 r4 => ⟨G3, ρ3, (e.trans e2).trans e3, r4, a⟩
  · obtain ⟨G', ρ', e, r', hI⟩ := p
    exact k.nx _ G' H' ρ' (fin ρ' hI) (e1.trans e) r'
/-- the turns written out -/
def unroll (dg : DG) (db : DS) (D : DEnds) : List PyData → Rho → Prop
  | [], ρ => D.nx ρ
  | x :: r, ρ => dg x ρ fun ρ' => db { D with nx := unroll dg db D r, ct := unroll dg db D r, bk := D.nx } ρ'
theorem for_unroll {di : DN} {dg : DG} {db : DS} {D : DEnds} {items : List PyData} {ρ : Rho} (h : unroll dg db D items ρ) : ∃ I : Nat → Rho → Prop, I 0 ρ ∧
    (∀ i x ρ, items[i]? = some x → I i ρ → dg x ρ fun ρ' => db { D with nx := I (i + 1), ct := I (i + 1), bk := D.nx } ρ') ∧ ∀ ρ, I items.length ρ → D.nx ρ := by
  refine ⟨fun i ρ => unroll dg db D (items.drop i) ρ, h, fun i x ρ hx p => ?_, fun ρ p => ?_⟩
  · obtain ⟨hi, e⟩ := List.getElem?_eq_some_iff.mp hx
    have p2 : unroll dg db D (items.drop i) ρ := p
    rw [List.drop_eq_getElem_cons hi, e] at p2
    exact p2
  · have p2 : unroll dg db D (items.drop items.length) ρ := p
    rw [List.drop_length] at p2
    exact p2
end
end DL

set_option Elab.async false
set_option linter.all false
set_option maxRecDepth 100000
set_option maxHeartbeats 1000000
/-! DL5: what a def promises over data; calls of defs. -/
namespace DL
open PySem L2 Evl PyProof.Rows RZ

abbrev M1 := List PyData → (PyData → Prop) → Prop
abbrev MP := List PyData → List PyData → (PyData → List PyData → Prop) → Prop
/-- from data to data -/
def spD (m : M1) : Sp := fun vs H Q _ => ∃ G ds Q', Ex G H ∧ RpAll G vs ds ∧ m ds Q' ∧ ∀ d G' H' v, Q' d → Fin ⟨G, H, [], []⟩ G' H' → Rp G' v d → Q v H'
/-- the first argument a list that may be changed -/
def spP (m : MP) : Sp := fun vs H Q _ => ∃ G p ws xs ps ds Q', vs = .ref p :: ws ∧ Ex G H ∧ G p = none ∧ H p = some (.lst xs) ∧ RpAll G xs ps ∧ RpAll G ws ds ∧ m ps ds Q' ∧
  ∀ d qs G' H' v ys, Q' d qs → Fin ⟨G, H, [p], []⟩ G' H' → H' p = some (.lst ys) → RpAll G' ys qs → Rp G' v d → Q v H'
def startR (N : List Str) (ds : List PyData) : Rho := ds.map Sl.val ++ List.replicate (N.length - ds.length) Sl.no
def startP (N : List Str) (ps ds : List PyData) : Rho := .pur ps :: (ds.map Sl.val ++ List.replicate (N.length - (ds.length + 1)) Sl.no)

theorem fin_refl {G H : Hp} {P : List Addr} {pin : List (Addr × HO)} (e : Ex G H) : Fin ⟨G, H, P, pin⟩ G H := ⟨Ex.refl G, fun _ _ h => h, e, fun _ _ h _ => h, fun _ h => h⟩
theorem vals_at {G : Hp} : ∀ {vs : List V} {ds : List PyData} {n m : Nat} {i : Nat} {s : Sl}, RpAll G vs ds → (ds.map Sl.val ++ List.replicate n Sl.no)[i]? = some s → s ≠ .no → ∃ v d, (vs.map some ++ List.replicate m Option.none)[i]? = some (some v) ∧ s = .val d ∧ Rp G v d
  | _, _, n, m, i, s, .nil, h, hn => by
    rw [List.map_nil, List.nil_append, List.getElem?_replicate] at h
    split at h
    · cases h; exact absurd rfl hn
    · cases h
  | _, _, n, m, 0, s, .cons r _, h, hn => by
    have e := Option.some.inj h
    subst e
    exact ⟨_, _, rfl, rfl, r⟩
  | _, _, n, m, i + 1, s, .cons _ t, h, hn => vals_at (i := i) (m := m) t h hn
theorem rep_start {G H : Hp} {vs : List V} {ds : List PyData} {N : List Str} (e : Ex G H) (h : RpAll G vs ds) : Rep ⟨G, H, [], []⟩ G (start N vs) H (startR N ds) where
  toFin := fin_refl e
  len := by
    unfold L2.start startR
    rw [List.length_append, List.length_append, List.length_map, List.length_map, List.length_replicate, List.length_replicate, h.len]
  ok := fun i s hs => by
    cases s with
    | no => trivial
    | val d =>
      obtain ⟨v, d', h1, h2, h3⟩ := vals_at (m := N.length - vs.length) h hs (fun z => nomatch z)
      cases h2
      exact ⟨v, h1, h3⟩
    | _ => obtain ⟨v, d', h1, h2, h3⟩ := vals_at (m := 0) h hs (fun z => nomatch z); cases h2
  sep := fun i j s t _ h1 _ m1 _ => by
    obtain ⟨v, d', _, h2, _⟩ := vals_at (m := 0) h h1 (fun z => by rw [z] at m1; cases m1)
    rw [h2] at m1
    cases m1
  pins := fun q hq => by cases hq
theorem rep_startP {G H : Hp} {p : Addr} {xs vs : List V} {ps ds : List PyData} {N : List Str} (e : Ex G H) (hp : G p = none) (hx : H p = some (.lst xs)) (hq : RpAll G xs ps) (h : RpAll G vs ds) : Rep ⟨G, H, [p], []⟩ G (start N (.ref p :: vs)) H (startP N ps ds) where
  toFin := fin_refl e
  len := by
    unfold L2.start startP
    rw [List.length_append, List.length_cons, List.length_append, List.length_map, List.length_map, List.length_replicate, List.length_replicate, List.length_cons, h.len]
    omega
  ok := fun i s hs => by
    cases i with
    | zero =>
      have e := Option.some.inj hs
      subst e
      exact ⟨p, xs, rfl, hx, hq, hp, List.mem_singleton.mpr rfl⟩
    | succ i =>
      have hs : (ds.map Sl.val ++ List.replicate (N.length - (ds.length + 1)) Sl.no)[i]? = some s := hs
      cases s with
      | no => trivial
      | val d =>
        obtain ⟨v, d', h1, h2, h3⟩ := vals_at (m := N.length - (.ref p :: vs).length) h hs (fun z => nomatch z)
        cases h2
        exact ⟨v, h1, h3⟩
      | _ => obtain ⟨v, d', h1, h2, h3⟩ := vals_at (m := 0) h hs (fun z => nomatch z); cases h2
  sep := fun i j s t hij h1 h2 m1 m2 => by
    have z : ∀ {i : Nat} {s : Sl}, (startP N ps ds)[i]? = some s → s.mt = true → i = 0 := fun {i s} h1 m1 => by
      cases i with
      | zero => rfl
      | succ i =>
        have h1 : (ds.map Sl.val ++ List.replicate (N.length - (ds.length + 1)) Sl.no)[i]? = some s := h1
        obtain ⟨v, d', _, h2, _⟩ := vals_at (m := 0) h h1 (fun z => by rw [z] at m1; cases m1)
        rw [h2] at m1
        cases m1
    exact absurd ((z h1 m1).trans (z h2 m2).symm) hij
  pins := fun q hq => by cases hq
section
variable {P : Program} {w : World} {K : PySem.W.Frag} {mg : Str → Option Value} {base : Heap} {x qual : Str} {params : Arguments} {body : List Stmt} {scope : Scope} {dvs : List V} {kws : List (Str × V)} {f : Addr} {fd : FuncData} {N ps : List Str} {k : Nat} {bd : DS}
/-- THE RULE for a def from data to data -/
theorem fn_D {m : M1} (F : FunD K x qual params body scope dvs kws f fd) (S : FnScope N ps scope) (hl : ∀ xs Q, m xs Q → xs.length = ps.length)
    (hbody : ∀ (cdv : Value) (A : Around) (outer : List Env) (s : Shared) (H : Hp) (E : XK), Room k (A.deeper (envOfC qual scope s.heap.objs.size f cdv)) → PSsD (cxOf CX0 P w K mg base N qual scope f cdv A outer s H E).nox body bd)
    (hm : ∀ xs Q, m xs Q → bd { nx := fun _ => Q .none, rt := fun _ d _ => Q d } (startR N xs)) : FnOk P w K mg base CX0 (k + 1) f fd ps (spD m) :=
  F.ok S (fun vs H Q E ⟨G, ds, Q', e, h, hq, _⟩ => by rw [h.len]; exact hl ds Q' hq) fun cdv A outer s H vs Q E hr ⟨G, ds, Q', e, h, hq, kk⟩ =>
    ⟨_, (hbody cdv A outer s H E hr).nox, ⟨G, H, [], []⟩, G, startR N ds, _, rep_start e h, hm ds Q' hq, ⟨fun σ G' H' ρ q _ r => kk _ G' H' _ q r.toFin .non, fun σ G' H' ρ _ d v q _ r hv _ => kk d G' H' v q r.toFin hv, fun _ _ _ _ q _ _ => q.elim, fun _ _ _ _ q _ _ => q.elim⟩⟩
/-- from data to data, what comes is new -/
def spN (m : M1) : Sp := fun vs H Q _ => ∃ G ds Q', Ex G H ∧ RpAll G vs ds ∧ m ds Q' ∧ ∀ d G' H' v, Q' d → Fin ⟨G, H, [], []⟩ G' H' → Rp G' v d → (∀ a, v = .ref a → H a = none) → Q v H'
theorem FnOk.ofN {m : M1} (F : FnOk P w K mg base CX0 k f fd ps (spN m)) : FnOk P w K mg base CX0 k f fd ps (spD m) := F.imp fun vs H Q E ⟨G, ds, Q', a, b, c, d⟩ => ⟨G, ds, Q', a, b, c, fun x G' H' v q f r _ => d x G' H' v q f r⟩
theorem fn_N {m : M1} (F : FunD K x qual params body scope dvs kws f fd) (S : FnScope N ps scope) (hl : ∀ xs Q, m xs Q → xs.length = ps.length)
    (hbody : ∀ (cdv : Value) (A : Around) (outer : List Env) (s : Shared) (H : Hp) (E : XK), Room k (A.deeper (envOfC qual scope s.heap.objs.size f cdv)) → PSsD (cxOf CX0 P w K mg base N qual scope f cdv A outer s H E).nox body bd)
    (hm : ∀ xs Q, m xs Q → bd { nx := fun _ => False, rt := fun n d _ => n = true ∧ Q d } (startR N xs)) : FnOk P w K mg base CX0 (k + 1) f fd ps (spN m) :=
  F.ok S (fun vs H Q E ⟨G, ds, Q', e, h, hq, _⟩ => by rw [h.len]; exact hl ds Q' hq) fun cdv A outer s H vs Q E hr ⟨G, ds, Q', e, h, hq, kk⟩ =>
    ⟨_, (hbody cdv A outer s H E hr).nox, ⟨G, H, [], []⟩, G, startR N ds, _, rep_start e h, hm ds Q' hq, ⟨fun σ G' H' ρ q _ r => q.elim, fun σ G' H' ρ n d v q _ r hv fr => kk d G' H' v q.2 r.toFin hv (fr q.1), fun _ _ _ _ q _ _ => q.elim, fun _ _ _ _ q _ _ => q.elim⟩⟩
/-- what the first slot holds in the end -/
def pur0 (ρ : Rho) (k : List PyData → Prop) : Prop := match ρ[(0 : Nat)]? with
  | some (.pur qs) => k qs
  | _ => False
theorem pur0_some {G H G0 : Hp} {p : Addr} {σ : L2.St} {H' : Hp} {ρ : Rho} {k : List PyData → Prop} (r : Rep ⟨G0, H, [p], []⟩ G σ H' ρ) (h : pur0 ρ k) : ∃ ys qs, H' p = some (.lst ys) ∧ RpAll G ys qs ∧ k qs := by
  unfold pur0 at h
  cases q : ρ[(0 : Nat)]? with
  | none => rw [q] at h; exact h.elim
  | some s =>
    rw [q] at h
    have o := r.ok 0 s q
    cases s with
    | pur qs =>
      obtain ⟨a, xs, h1, h2, h3, h4, h5⟩ := o
      have e : a = p := List.mem_singleton.mp h5
      subst e
      exact ⟨xs, qs, h2, h3, h⟩
    | _ => exact h.elim
theorem Fin.frees {c c' : Co} {G H : Hp} (f : Fin c G H) (h1 : c.G0 = c'.G0) (h2 : c.H0 = c'.H0) (h3 : c.P = c'.P) : Fin c' G H := by
  obtain ⟨a, b, d, pin⟩ := c
  obtain ⟨a', b', d', pin'⟩ := c'
  cases h1
  cases h2
  cases h3
  exact ⟨f.g0, f.fr, f.gh, f.hh, f.dom⟩
/-- THE RULE for a def that may change its first argument (its own name of it is never set) -/
theorem fn_P {m : MP} (F : FunD K x qual params body scope dvs kws f fd) (S : FnScope N ps scope) (hl : ∀ qs xs Q, m qs xs Q → xs.length + 1 = ps.length)
    (hbody : ∀ (cdv : Value) (A : Around) (outer : List Env) (s : Shared) (H : Hp) (E : XK), Room k (A.deeper (envOfC qual scope s.heap.objs.size f cdv)) → PSsD (cxOf CX0 P w K mg base N qual scope f cdv A outer s H E).nox body bd)
    (hm : ∀ qs xs Q, m qs xs Q → bd { nx := fun ρ => pur0 ρ (Q .none), rt := fun _ d ρ => pur0 ρ (Q d) } (startP N qs xs)) : FnOk P w K mg base CX0 (k + 1) f fd ps (spP m) :=
  F.ok S (fun vs H Q E ⟨G, p, ws, xs, qs, ds, Q', e1, _, _, _, _, h, hq, _⟩ => by rw [e1, List.length_cons, h.len]; exact hl qs ds Q' hq) fun cdv A outer s H vs Q E hr ⟨G, p, ws, xs, qs, ds, Q', e1, e, gp, hx, hp, h, hq, kk⟩ => by
    subst e1
    refine ⟨_, (hbody cdv A outer s H E hr).nox, ⟨G, H, [p], []⟩, G, startP N qs ds, _, rep_startP e gp hx hp h, hm qs ds Q' hq, ⟨fun σ G' H' ρ q _ r => ?_, fun σ G' H' ρ _ d v q _ r hv _ => ?_, fun _ _ _ _ q _ _ => q.elim, fun _ _ _ _ q _ _ => q.elim⟩⟩
    · obtain ⟨ys, rs, a1, a2, a3⟩ := pur0_some r q
      exact kk _ rs G' H' _ ys a3 r.toFin a1 a2 .non
    · obtain ⟨ys, rs, a1, a2, a3⟩ := pur0_some r q
      exact kk d rs G' H' v ys a3 r.toFin a1 a2 hv
end

/-! ### calls -/
section
variable {c : Co} {G H : Hp} {σ : L2.St} {ρ : Rho}
theorem Rep.called (r : Rep c G σ H ρ) {G' H' : Hp} (f : Fin ⟨G, H, [], []⟩ G' H') : Ex G G' ∧ Rep c G' σ H' ρ :=
  ⟨f.g0, r.grow f.g0 (fun a o h => f.hh a o h (fun z => nomatch z)) f.fr f.gh⟩
/-- behind a call that may have changed the list of a slot -/
theorem own_call {i : Nat} {k : List PyData → (List PyData → Rho) → Prop} (r : Rep c G σ H ρ) (h : own ρ i k) : ∃ a xs ds put, σ[i]? = some (some (.ref a)) ∧ H a = some (.lst xs) ∧ G a = none ∧ RpAll G xs ds ∧ k ds put ∧
    ∀ G' H' ys es, Fin ⟨G, H, [a], []⟩ G' H' → H' a = some (.lst ys) → RpAll G' ys es → Rep c G' σ H' (put es) := by
  have main : ∀ {s : Sl} {a : Addr} {xs : List V} {t : List PyData → Sl}, ρ[i]? = some s → s.mt = true → (∀ es, (t es).mt = true) → σ[i]? = some (some (.ref a)) → H a = some (.lst xs) → G a = none → (c.H0 a = none ∨ a ∈ c.P) →
      (∀ G' H' ys es, H' a = some (.lst ys) → RpAll G' ys es → G' a = none → SlOk c G' H' (some (some (.ref a))) (t es)) →
      ∀ G' H' ys es, Fin ⟨G, H, [a], []⟩ G' H' → H' a = some (.lst ys) → RpAll G' ys es → Rep c G' σ H' (ρ.set i (t es)) := by
    intro s a xs t q m hm h1 h2 h4 hp ok G' H' ys es f hy re
    have g' : G' a = none := f.fr a (show H a ≠ none by rw [h2]; exact fun z => nomatch z) h4
    have r2 : Rep c G' σ (upd H' a (.lst xs)) ρ := by
      refine r.grow f.g0 (fun b o hb => ?_) f.fr (fun b o hb => ?_)
      · by_cases z : b = a
        · subst z
          rw [h2] at hb
          cases hb
          exact upd_same
        · rw [upd_ne z]
          exact f.hh b o hb (fun y => z (List.mem_singleton.mp y))
      · rw [upd_ne (ne_of_none hb g')]
        exact f.gh b o hb
    have e : upd (upd H' a (.lst xs)) a (.lst ys) = H' := by
      rw [upd_upd]
      funext b
      by_cases z : b = a
      · rw [z, upd_same, hy]
      · rw [upd_ne z]
    have r3 := r2.chg (t := t es) (o := .lst ys) q m (hm es) h1 hp (ok _ _ ys es upd_same re g')
    rw [e] at r3
    exact r3
  unfold own at h
  cases q : ρ[i]? with
  | none => rw [q] at h; exact h.elim
  | some s =>
    rw [q] at h
    have o := r.ok i s q
    cases s with
    | own ds =>
      obtain ⟨a, xs, h1, h2, h3, h4, h5⟩ := o
      exact ⟨a, xs, ds, _, h1, h2, h4, h3, h, main (t := fun es => .own es) q rfl (fun _ => rfl) h1 h2 h4 (.inl h5) fun G' H' ys es a1 a2 a3 => ⟨a, ys, rfl, a1, a2, a3, h5⟩⟩
    | pur ds =>
      obtain ⟨a, xs, h1, h2, h3, h4, h5⟩ := o
      exact ⟨a, xs, ds, _, h1, h2, h4, h3, h, main (t := fun es => .pur es) q rfl (fun _ => rfl) h1 h2 h4 (.inr h5) fun G' H' ys es a1 a2 a3 => ⟨a, ys, rfl, a1, a2, a3, h5⟩⟩
    | _ => exact h.elim
end
def dCall (m : M1) (dd : List PyData) (da : DN) : DE := fun ρ Q => da ρ fun ds ρ1 => m (ds ++ dd) fun d => Q d ρ1
def dCallP (m : MP) (i : Nat) (dd : List PyData) (da : DN) : DE := fun ρ Q => own ρ i fun _ _ => da ρ fun ds ρ1 => own ρ1 i fun qs put => m qs (ds ++ dd) fun d rs => Q d (put rs)
section
variable {X : Cx} {k : Nat} {f : Addr} {fd : FuncData} {ps ks : List Str} {dvs : List V} {ds : List Value} {dd : List PyData} {x : Str} {p pos : Pos} {e : Expr} {es : List Expr} {da : DN}
theorem pd_call {m : M1} (F : FnOk X.prog X.w X.K X.mg X.base CX0 k f fd ps (spD m)) (hr : Room k X.A) (hm : X.mg x = some (.ref f)) (hk : PySem.W.keepIn X.K (.ref f) = true) (hb : Binds X.K fd ps ds) (hd : Vals dvs ds) (hdd : ∀ G, RpAll G dvs dd) (ha : PAD X (e :: es) da)
    (hg : Gl X x := by rfl) (hdb : (x == ("__debug__" : Str)) = false := by decide) (he : starEach (e :: es) X.env = (false, eval e X.env) :: starEach es X.env := by rfl) (hpl : (backTo pos (starEach es X.env)).any (·.1) = false := by rfl) :
    PD X (.Call (.Name x p) (e :: es) [] pos) (dCall m dd da) := pe_imp (pe_call F hr hg hm hk hb hd pass0 ha hdb he hpl) fun σ H Q ⟨c, G, ρ, Q', rp, h, kk⟩ => by
  refine ⟨c, G, ρ, _, rp, h, fun xs ρ1 G1 H1 vs q1 e1 r1 hx => ?_⟩
  refine ⟨G1, xs ++ dd, _, r1.gh, hx.app (hdd G1), q1, fun d G' H' v q2 fi hv => ?_⟩
  obtain ⟨e2, r2⟩ := r1.called fi
  exact kk d ρ1 G' H' v q2 (e1.trans e2) r2 hv
theorem pf_call {m : M1} (F : FnOk X.prog X.w X.K X.mg X.base CX0 k f fd ps (spN m)) (hr : Room k X.A) (hm : X.mg x = some (.ref f)) (hk : PySem.W.keepIn X.K (.ref f) = true) (hb : Binds X.K fd ps ds) (hd : Vals dvs ds) (hdd : ∀ G, RpAll G dvs dd) (ha : PAD X (e :: es) da)
    (hg : Gl X x := by rfl) (hdb : (x == ("__debug__" : Str)) = false := by decide) (he : starEach (e :: es) X.env = (false, eval e X.env) :: starEach es X.env := by rfl) (hpl : (backTo pos (starEach es X.env)).any (·.1) = false := by rfl) :
    PF X (.Call (.Name x p) (e :: es) [] pos) (dCall m dd da) := pe_imp (pe_call F hr hg hm hk hb hd pass0 ha hdb he hpl) fun σ H Q ⟨c, G, ρ, Q', rp, h, kk⟩ => by
  refine ⟨c, G, ρ, _, rp, h, fun xs ρ1 G1 H1 vs q1 e1 r1 hx => ?_⟩
  refine ⟨G1, xs ++ dd, _, r1.gh, hx.app (hdd G1), q1, fun d G' H' v q2 fi hv fr => ?_⟩
  obtain ⟨e2, r2⟩ := r1.called fi
  refine kk d ρ1 G' H' v q2 (e1.trans e2) r2 hv fun a z => ?_
  have := fr a z
  constructor
  · cases q : c.H0 a with
    | none => rfl
    | some o => exact absurd this (r1.dom a (by rw [q]; exact fun z => nomatch z))
  · cases q : G a with
    | none => rfl
    | some o => rw [r1.gh a o (e1 a o q)] at this; cases this
theorem pd_callP (i : Nat) {m : MP} {y : Str} {p2 : Pos} (F : FnOk X.prog X.w X.K X.mg X.base CX0 k f fd ps (spP m)) (hr : Room k X.A) (hm : X.mg x = some (.ref f)) (hk : PySem.W.keepIn X.K (.ref f) = true) (hb : Binds X.K fd ps ds) (hd : Vals dvs ds) (hdd : ∀ G, RpAll G dvs dd) (ha : PAD X es da)
    (hN : X.N[i]? = some y := by rfl) (hv : Vis X.env.scope y := by first | exact Or.inl rfl | exact Or.inr (Or.inl rfl) | exact Or.inr (Or.inr rfl)) (hdb2 : (y == ("__debug__" : Str)) = false := by decide) (hcd : (y == ("__classdict__" : Str)) = false := by decide)
    (hg : Gl X x := by rfl) (hdb : (x == ("__debug__" : Str)) = false := by decide) (he : starEach (.Name y p2 :: es) X.env = (false, eval (.Name y p2) X.env) :: starEach es X.env := by rfl) (hpl : (backTo pos (starEach es X.env)).any (·.1) = false := by rfl) :
    PD X (.Call (.Name x p) (.Name y p2 :: es) [] pos) (dCallP m i dd da) := pe_imp (pe_call F hr hg hm hk hb hd pass0 (pa_cons (pe_var hN hv hdb2 hcd) ha he) hdb he hpl) fun σ H Q ⟨c, G, ρ, Q', rp, h, kk⟩ => by
  obtain ⟨a, _, _, _, h1, _, _, _, h, _⟩ := own_call rp h
  refine ⟨_, h1, c, G, ρ, _, rp, h, fun xs ρ1 G1 H1 vs q1 e1 r1 hx => ?_⟩
  obtain ⟨a', ys, qs, put, k1, k2, k3, k4, k5, k6⟩ := own_call r1 q1
  rw [h1] at k1
  cases k1
  refine ⟨G1, a, vs ++ dvs, ys, qs, xs ++ dd, _, rfl, r1.gh, k3, k2, k4, hx.app (hdd G1), k5, fun d rs G' H' v zs q2 fi hz rz hv => ?_⟩
  exact kk d _ G' H' v q2 (e1.trans fi.g0) (k6 G' H' zs rs fi hz rz) hv
/-! ### keywords -/
def pick {α : Type} (ix : List Nat) (l : List α) : List α := ix.filterMap fun i => l[i]?
theorem pick_vals {ix : List Nat} {vs : List V} {us : List Value} (h : Vals vs us) : Vals (pick ix vs) (pick ix us) := by
  unfold pick
  induction ix with
  | nil => exact .nil
  | cons i r ih =>
    rw [List.filterMap_cons, List.filterMap_cons]
    cases q : vs[i]? with
    | none =>
      rw [h.none_of q]
      exact ih
    | some v =>
      obtain ⟨u, h1, h2⟩ := h.get q
      rw [h1]
      exact .cons h2 ih
theorem pick_rp {G : Hp} {ix : List Nat} {vs : List V} {ds : List PyData} (h : RpAll G vs ds) : RpAll G (pick ix vs) (pick ix ds) := by
  unfold pick
  induction ix with
  | nil => exact .nil
  | cons i r ih =>
    rw [List.filterMap_cons, List.filterMap_cons]
    cases q : ds[i]? with
    | none =>
      have : vs[i]? = none := List.getElem?_eq_none (by rw [h.len]; exact List.getElem?_eq_none_iff.mp q)
      rw [this]
      exact ih
    | some d =>
      obtain ⟨v, h1, h2⟩ := h.at q
      rw [h1]
      exact .cons h2 ih
abbrev PKD (X : Cx) (kws : List Keyword) (da : DN) : Prop := PK X kws (tAd da)
theorem pk_imp {kws : List Keyword} {t t' : TA} (h : PK X kws t) (k : ∀ σ H Q, t' σ H Q → t σ H Q) : PK X kws t' := ⟨fun pos pins s σ H Q I q => h.run pos pins s σ H Q I (k σ H Q q)⟩
theorem pkd_nil : PKD X [] daNil := pk_imp pk_nil fun σ H Q ⟨c, G, ρ, Q', rp, hd, k⟩ => k [] ρ G H [] hd (Ex.refl G) rp .nil
theorem pkd_cons {nm : Option Str} {kpos : Pos} {kws : List Keyword} {de : DE} (ha : PD X e de) (hr : PKD X kws da) : PKD X (⟨nm, e, kpos⟩ :: kws) (daCons de da) := pk_imp (pk_cons ha hr) fun σ H Q ⟨c, G, ρ, Q', rp, hd, k⟩ => by
  refine ⟨c, G, ρ, _, rp, hd, fun x ρ1 G1 H1 v q1 e1 r1 hx => ?_⟩
  exact ⟨c, G1, ρ1, _, r1, q1, fun ys ρ2 G2 H2 vs q2 e2 r2 hy => k (x :: ys) ρ2 G2 H2 (v :: vs) q2 (e1.trans e2) r2 (.cons (hx.up e2) hy)⟩
/-- how keywords bind: the places of the parameters among what is written -/
def KPick (K : PySem.W.Frag) (fd : FuncData) (ps ks : List Str) (n : Nat) (ix : List Nat) : Prop :=
  ∀ (s : Shared) (us ws : List Value), K.In s.heap → us.length = n → ws.length = ks.length → BindsTo s fd ⟨us, ks.zip ws⟩ (ps.zip (pick ix (us ++ ws)))
theorem kpick_of {K : PySem.W.Frag} {n : Nat} {ix : List Nat} (h : ∀ us ws : List Value, us.length = n → ws.length = ks.length → bindArgs fd ⟨us, ks.zip ws⟩ = pure (ps.zip (pick ix (us ++ ws)))) : KPick K fd ps ks n ix :=
  fun s us ws _ h1 h2 => .of_eq (h us ws h1 h2)
theorem kp_of {K : PySem.W.Frag} {y qual : Str} {params : Arguments} {body : List Stmt} {scope : Scope} {n : Nat} {ix : List Nat} {dvs : List V} {kws : List (Str × V)} (F : FunD K y qual params body scope dvs kws f fd) (hd : dvs = [])
    (h : ∀ (kV doc pm : Value) (an : Option Addr) (cdv ct : Value) (us ws : List Value), us.length = n → ws.length = ks.length → bindArgs (PySem.W.fnOf y qual params body scope .none kV doc pm an cdv ct) ⟨us, ks.zip ws⟩ = pure (ps.zip (pick ix (us ++ ws)))) : KPick K fd ps ks n ix := by
  obtain ⟨oc, od, dV, kV, doc, pm, an, cdv, ct, osl, rfl, lk, hcd, hD, hK⟩ := F.ex
  rcases hD with ⟨_, rfl⟩ | ⟨e, _⟩
  · exact fun s us ws _ h1 h2 => .of_eq (h kV doc pm an cdv ct us ws h1 h2)
  · exact absurd hd e
def dCallK (m : M1) (n l : Nat) (ix : List Nat) (da dk : DN) : DE := fun ρ Q => da ρ fun ds ρ1 => dk ρ1 fun es ρ2 => ds.length = n ∧ es.length = l ∧ m (pick ix (ds ++ es)) fun d => Q d ρ2
theorem pd_callK {m : M1} {n : Nat} {ix : List Nat} {kws : List Keyword} {dk : DN} (F : FnOk X.prog X.w X.K X.mg X.base CX0 k f fd ps (spD m)) (hr : Room k X.A) (hm : X.mg x = some (.ref f)) (hk : PySem.W.keepIn X.K (.ref f) = true) (hb : KPick X.K fd ps ks n ix) (ha : PAD X (e :: es) da) (hkw : PKD X kws dk)
    (hall : (backToKw pos (keywordEach kws X.env)).all (·.1.isSome) = true := by rfl) (hks : (backToKw pos (keywordEach kws X.env)).filterMap (·.1) = ks := by rfl) (hg : Gl X x := by rfl)
    (hdb : (x == ("__debug__" : Str)) = false := by decide) (he : starEach (e :: es) X.env = (false, eval e X.env) :: starEach es X.env := by rfl)
    (hpl : ((backTo pos (starEach (e :: es) X.env)).any (·.1) || (backToKw pos (keywordEach kws X.env)).any (·.1.isNone)) = false := by rfl) :
    PD X (.Call (.Name x p) (e :: es) kws pos) (dCallK m n ks.length ix da dk) := pe_imp (pe_callN (n := n) (g := fun us ws => pick ix (us ++ ws)) (gV := fun vs zs => pick ix (vs ++ zs)) F hr hg hm hk ⟨hb, fun r rz => pick_vals (r.append rz)⟩ pass0 ha hkw hall hks hdb he hpl) fun σ H Q ⟨c, G, ρ, Q', rp, h, kk⟩ => by
  refine ⟨c, G, ρ, _, rp, h, fun xs ρ1 G1 H1 vs q1 e1 r1 hx => ?_⟩
  refine ⟨c, G1, ρ1, _, r1, q1, fun zs ρ2 G2 H2 ws q2 e2 r2 hz => ?_⟩
  refine ⟨by rw [hx.len]; exact q2.1, by rw [hz.len]; exact q2.2.1, G2, _, _, r2.gh, pick_rp ((hx.up e2).app hz), q2.2.2, fun d G' H' v q3 fi hv => ?_⟩
  obtain ⟨e3, r3⟩ := r2.called fi
  exact kk d ρ2 G' H' v q3 ((e1.trans e2).trans e3) r3 hv
theorem pd_callK0 {m : M1} {ix : List Nat} {kws : List Keyword} {dk : DN} (F : FnOk X.prog X.w X.K X.mg X.base CX0 k f fd ps (spD m)) (hr : Room k X.A) (hm : X.mg x = some (.ref f)) (hk : PySem.W.keepIn X.K (.ref f) = true) (hb : KPick X.K fd ps ks 0 ix) (hkw : PKD X kws dk)
    (hall : (backToKw pos (keywordEach kws X.env)).all (·.1.isSome) = true := by rfl) (hks : (backToKw pos (keywordEach kws X.env)).filterMap (·.1) = ks := by rfl) (hg : Gl X x := by rfl)
    (hdb : (x == ("__debug__" : Str)) = false := by decide)
    (hpl : ((backTo pos (starEach [] X.env)).any (·.1) || (backToKw pos (keywordEach kws X.env)).any (·.1.isNone)) = false := by rfl) :
    PD X (.Call (.Name x p) [] kws pos) (dCallK m 0 ks.length ix daNil dk) := ⟨fun pins s σ H Q I ⟨c, G, ρ, Q', rp, h, kk⟩ => by
  have h : dk ρ fun es ρ2 => ([] : List PyData).length = 0 ∧ es.length = ks.length ∧ m (pick ix ([] ++ es)) fun d => Q' d ρ2 := h
  refine wpAny_Call_Name_kw (ld_glob I hg hm ?_ hdb)
  refine PySem.W.callWith_KW0 (h₀ := X.base) I.ok.mod.kin hk hall ?_ hpl
  refine thn (hkw.run pos pins s σ H (fun zs H2 => zs.length = ks.length ∧ spD m (pick ix ([] ++ zs)) H2 Q E0) I ⟨c, G, ρ, _, rp, h, fun zs ρ2 G2 H2 ws q2 e2 r2 hz => ⟨by rw [hz.len]; exact q2.2.1, G2, _, _, r2.gh, pick_rp hz, q2.2.2, fun d G' H' v q3 fi hv => ?_⟩⟩) fun ws s2 ⟨zs, H2, I2, rz, l2, q2⟩ => ⟨I2.kIn, ?_⟩
  · obtain ⟨e3, r3⟩ := r2.called fi
    exact kk d ρ2 G' H' v q3 (e2.trans e3) r3 hv
  · rw [hks]
    exact run_fnN (n := 0) (g := fun us ws => pick ix (us ++ ws)) (gV := fun vs zs => pick ix (vs ++ zs)) F hr ⟨hb, fun r rz => pick_vals (r.append rz)⟩ pass0 I2 .nil rz rfl l2 q2⟩
end
end DL

set_option Elab.async false
set_option linter.all false
set_option maxRecDepth 100000
set_option maxHeartbeats 1000000
/-! DL6: operators, what is built in. -/
namespace DL
open PySem L2 Evl PyProof.Rows RZ

/-! ### ints -/
def dI0 (f : Int → Int → PyData) : D2 := fun x y Q => match x, y with
  | .int i, .int j => Q (f i j)
  | _, _ => False
def dIC (C : Int → Int → Prop) (f : Int → Int → PyData) : D2 := fun x y Q => match x, y with
  | .int i, .int j => C i j ∧ Q (f i j)
  | _, _ => False
theorem ro_I0 {g : Int → Int → V} {f : Int → Int → PyData} (hg : ∀ G i j, Rp G (g i j) (f i j) := by intros; constructor) : ROp (rI0 g) (dI0 f) := fun G H v w x y Q Q' e hv hw h k => by
  cases x with
  | int i =>
    cases y with
    | int j => exact ⟨i, j, hv.int, hw.int, k _ _ _ (.inl ⟨rfl, hg G i j⟩) h⟩
    | _ => exact h.elim
  | _ => cases y <;> exact h.elim
theorem ro_IC {C D : Int → Int → Prop} {g : Int → Int → V} {f : Int → Int → PyData} (hC : ∀ i j, D i j → C i j) (hg : ∀ G i j, Rp G (g i j) (f i j) := by intros; constructor) : ROp (rI C g) (dIC D f) := fun G H v w x y Q Q' e hv hw h k => by
  cases x with
  | int i =>
    cases y with
    | int j => exact ⟨i, j, hv.int, hw.int, hC i j h.1, k _ _ _ (.inl ⟨rfl, hg G i j⟩) h.2⟩
    | _ => exact h.elim
  | _ => cases y <;> exact h.elim
/-- small enough for every operator -/
def Sz (i : Int) : Prop := i.natAbs < 2 ^ 3000
theorem Sz.log {i : Int} (h : Sz i) : i.natAbs.log2 < 3000 := PySem.Flt.log2_lt_of (by decide) h
theorem sz_le {i : Int} {n : Nat} (h : i.natAbs ≤ n) (hn : decide (n < 2 ^ 3000) = true) : Sz i := Nat.lt_of_le_of_lt h (of_decide_eq_true hn)
def fSub : D2 := dI0 fun i j => .int (i - j)
def fMod : D2 := dIC (fun _ j => 0 < j) fun i j => .int (i % j)
def fDiv : D2 := dIC (fun _ j => 0 < j ∧ Sz j) fun i j => .int (i / j)
def fPow : D2 := dIC (fun i j => 0 ≤ j ∧ (Builtin.Int.intBits i : Int) * j ≤ 100000) fun i j => .int (i ^ j.toNat)
def fLt : D2 := dI0 fun i j => .bool (decide (i < j))
def fLe : D2 := dI0 fun i j => .bool (decide (i ≤ j))
def fGt : D2 := dI0 fun i j => .bool (decide (j < i))
def fGe : D2 := dI0 fun i j => .bool (decide (j ≤ i))
section
variable {X : Cx}
theorem ro_sub : ROp (rI0 fun i j => .int (i - j)) fSub := ro_I0
theorem ro_mod : ROp (rI (fun _ j => 0 < j) fun i j => .int (i % j)) fMod := ro_IC fun _ _ h => h
theorem ro_div : ROp (rI CDivW fun i j => .int (i / j)) fDiv := ro_IC fun _ _ h => ⟨h.1, Nat.lt_trans h.2.log (by decide)⟩
theorem ro_lt : ROp (rI0 fun i j => .bl (decide (i < j))) fLt := ro_I0
theorem ro_le : ROp (rI0 fun i j => .bl (decide (i ≤ j))) fLe := ro_I0
theorem ro_gt : ROp (rI0 fun i j => .bl (decide (j < i))) fGt := ro_I0
theorem ro_ge : ROp (rI0 fun i j => .bl (decide (j ≤ i))) fGe := ro_I0
def CPowB (i j : Int) : Prop := 0 ≤ j ∧ (Builtin.Int.intBits i : Int) * j ≤ 100000
theorem op_powB : OpR X (binaryOp .Pow) (rI CPowB fun i j => .int (i ^ j.toNat)) := opI fun i j _ _ _ _ _ hc q => pow_int hc.1 (Int.le_trans hc.2 (by decide)) q
theorem ro_pow : ROp (rI CPowB fun i j => .int (i ^ j.toNat)) fPow := ro_IC fun _ _ h => h
/-! ### + and * -/
def fAdd : D2 := fun x y Q => match x, y with
  | .int i, .int j => Q (.int (i + j))
  | .list a, .list b => a.length + b.length ≤ 100000 ∧ Q (.list (a ++ b))
  | _, _ => False
def rAddU : R2 := fun x y H Q => rI0 (fun i j => .int (i + j)) x y H Q ∨ rCat x y H Q
theorem op_addU : OpR X (binaryOp .Add) rAddU := or_i op_add op_cat
theorem out_lst {G H : Hp} {p : Addr} {xs : List V} {ds : List PyData} (e : Ex G H) (hp : H p = none) (r : RpAll G xs ds) : Out G H (.ref p) (.list ds) (upd H p (.lst xs)) :=
  .inr ⟨p, _, hp, rfl, rfl, .lst upd_same (r.up (Ex.new (none_up e hp)))⟩
theorem out_tup {G H : Hp} {p : Addr} {xs : List V} {ds : List PyData} (e : Ex G H) (hp : H p = none) (r : RpAll G xs ds) : Out G H (.ref p) (.tuple ds) (upd H p (.tup xs)) :=
  .inr ⟨p, _, hp, rfl, rfl, .tup upd_same (r.up (Ex.new (none_up e hp)))⟩
theorem ro_add : ROp rAddU fAdd := fun G H v w x y Q Q' e hv hw h k => by
  cases x with
  | int i =>
    cases y with
    | int j => exact .inl ⟨i, j, hv.int, hw.int, k _ _ _ (.inl ⟨rfl, .int _⟩) h⟩
    | _ => exact h.elim
  | list a =>
    cases y with
    | list b =>
      obtain ⟨l, xs, rfl, h1, h2⟩ := hv.lst e
      obtain ⟨l2, ys, rfl, h3, h4⟩ := hw.lst e
      exact .inr ⟨l, l2, xs, ys, rfl, rfl, h1, h3, sz_of (by rw [h2.len, h4.len]; exact h.1), fun p hp => k _ _ _ (out_lst e hp (h2.app h4)) h.2⟩
    | _ => exact h.elim
  | _ => cases y <;> exact h.elim
def repD (k : Nat) (a : List PyData) : List PyData := (List.replicate k a).flatten
def fMul : D2 := fun x y Q => match x, y with
  | .int i, .int j => (Sz i ∧ Sz j) ∧ Q (.int (i * j))
  | .list a, .int k => (-(2 ^ 63) ≤ k ∧ k < 2 ^ 63 ∧ a.length * k.toNat ≤ 100000) ∧ Q (.list (repD k.toNat a))
  | _, _ => False
def rMulU : R2 := fun x y H Q => rI CMulW (fun i j => .int (i * j)) x y H Q ∨ rRep x y H Q
theorem op_mulU : OpR X (binaryOp .Mult) rMulU := or_i op_mulW op_rep
theorem RpAll.rep {G : Hp} {xs : List V} {ds : List PyData} (r : RpAll G xs ds) : ∀ k : Nat, RpAll G (List.replicate k xs).flatten (List.replicate k ds).flatten
  | 0 => .nil
  | k + 1 => by
    rw [List.replicate_succ, List.replicate_succ, List.flatten_cons, List.flatten_cons]
    exact r.app (RpAll.rep r k)
theorem ro_mul : ROp rMulU fMul := fun G H v w x y Q Q' e hv hw h k => by
  cases x with
  | int i =>
    cases y with
    | int j =>
      have h1 := h.1.1.log
      have h2 := h.1.2.log
      exact .inl ⟨i, j, hv.int, hw.int, (by show i.natAbs.log2 + j.natAbs.log2 < 1000000; omega), k _ _ _ (.inl ⟨rfl, .int _⟩) h.2⟩
    | _ => exact h.elim
  | list a =>
    cases y with
    | int n =>
      obtain ⟨l, xs, rfl, h1, h2⟩ := hv.lst e
      exact .inr ⟨l, n, xs, rfl, hw.int, h1, h.1.1, h.1.2.1, sz_of (by rw [h2.len]; exact h.1.2.2), fun p hp => k _ _ _ (out_lst e hp (h2.rep _)) h.2⟩
    | _ => exact h.elim
  | _ => cases y <;> exact h.elim
/-! ### ==, is, in -/
def fEq : D2 := fun x y Q => (SeqAt.shaped x = true ∧ SeqAt.shaped y = true) ∧ Q (.bool (PyData.eqv x y))
def fNe : D2 := fun x y Q => (SeqAt.shaped x = true ∧ SeqAt.shaped y = true) ∧ Q (.bool (!PyData.eqv x y))
theorem ro_eq : ROp (rEqD X.K) fEq := fun G H v w x y Q Q' e hv hw h k => ⟨x, y, hv.dp e, hw.dp e, h.1.1, h.1.2, k _ _ _ (.inl ⟨rfl, .bl _⟩) h.2⟩
theorem ro_ne : ROp (rNeD X.K) fNe := fun G H v w x y Q Q' e hv hw h k => ⟨x, y, hv.dp e, hw.dp e, h.1.1, h.1.2, k _ _ _ (.inl ⟨rfl, .bl _⟩) h.2⟩
def isN : PyData → Bool
  | .none => true
  | _ => false
theorem rv_isN {G H : Hp} {v : V} {x : PyData} (h : Rv G H v x) : decide (v = .non) = isN x := by
  rcases h with h | ⟨a, xs, ds, rfl, rfl, _, _⟩
  · cases h <;> rfl
  · rfl
def fIs : D2 := fun x y Q => match y with
  | .none => Q (.bool (isN x))
  | _ => False
def fIsNot : D2 := fun x y Q => match y with
  | .none => Q (.bool (!isN x))
  | _ => False
theorem ro_is : ROp (fun x y H Q => y = .non ∧ Q (.bl (decide (x = .non))) H) fIs := fun G H v w x y Q Q' e hv hw h k => by
  cases y with
  | none => exact ⟨hw.non, by rw [rv_isN hv]; exact k _ _ _ (.inl ⟨rfl, .bl _⟩) h⟩
  | _ => exact h.elim
theorem ro_isNot : ROp (fun x y H Q => y = .non ∧ Q (.bl (!decide (x = .non))) H) fIsNot := fun G H v w x y Q Q' e hv hw h k => by
  cases y with
  | none => exact ⟨hw.non, by rw [rv_isN hv]; exact k _ _ _ (.inl ⟨rfl, .bl _⟩) h⟩
  | _ => exact h.elim
def flatD : PyData → Bool
  | .none => true
  | .bool _ => true
  | .int _ => true
  | .str _ => true
  | _ => false
theorem rp_flat {G : Hp} {v : V} {x : PyData} (h : Rp G v x) (f : flatD x = true) : flatV v = true := by
  cases h <;> first | rfl | cases f
theorem rp_eqV {G : Hp} {v w : V} {x y : PyData} (h : Rp G v x) (h' : Rp G w y) (f : flatD x = true) (f' : flatD y = true) : eqV v w = PyData.eqv x y := by
  cases h <;> cases h' <;> first | (simp [eqV, PyData.eqv]; done) | rfl | cases f | cases f'
def inD (x : PyData) (ds : List PyData) : Bool := ds.any fun y => PyData.eqv y x
theorem rp_in {G : Hp} {v : V} {x : PyData} (h : Rp G v x) (f : flatD x = true) : ∀ {ws : List V} {ds : List PyData}, RpAll G ws ds → ds.all flatD = true → ws.all flatV = true ∧ inV v ws = inD x ds
  | _, _, .nil, _ => ⟨rfl, rfl⟩
  | _, _, .cons r t, g => by
    rw [List.all_cons, Bool.and_eq_true] at g
    obtain ⟨a, b⟩ := rp_in h f t g.2
    refine ⟨by rw [List.all_cons, rp_flat r g.1, a] <;> rfl, ?_⟩
    show (_ :: _).any _ = (_ :: _).any _
    rw [List.any_cons, List.any_cons, rp_eqV r h g.1 f]
    exact congrArg _ b
def fIn (neg : Bool) : D2 := fun x y Q => match y with
  | .list ds => (flatD x = true ∧ ds.all flatD = true) ∧ Q (.bool (if neg then !inD x ds else inD x ds))
  | .tuple ds => (flatD x = true ∧ ds.all flatD = true) ∧ Q (.bool (if neg then !inD x ds else inD x ds))
  | _ => False
theorem rv_rp {G H : Hp} {v : V} {x : PyData} (h : Rv G H v x) (f : flatD x = true) : Rp G v x := by
  rcases h with h | ⟨a, xs, ds, rfl, rfl, _, _⟩
  · exact h
  · cases f
theorem ro_in {neg : Bool} : ROp (rIn X.K neg) (fIn neg) := fun G H v w x y Q Q' e hv hw h k => by
  cases y with
  | list ds =>
    obtain ⟨l, xs, rfl, h1, h2⟩ := hw.lst e
    obtain ⟨a, b⟩ := rp_in (rv_rp hv h.1.1) h.1.1 h2 h.1.2
    exact ⟨l, xs, rfl, .inl (SqL.of h1), rp_flat (rv_rp hv h.1.1) h.1.1, a, by rw [b]; exact k _ _ _ (.inl ⟨rfl, .bl _⟩) h.2⟩
  | tuple ds =>
    obtain ⟨l, xs, rfl, h1, h2⟩ := hw.tup e
    obtain ⟨a, b⟩ := rp_in (rv_rp hv h.1.1) h.1.1 h2 h.1.2
    exact ⟨l, xs, rfl, .inr (SqT.of h1), rp_flat (rv_rp hv h.1.1) h.1.1, a, by rw [b]; exact k _ _ _ (.inl ⟨rfl, .bl _⟩) h.2⟩
  | _ => exact h.elim
/-! ### items, slices -/
theorem atI_rp {G : Hp} {xs : List V} {ds : List PyData} {i : Int} {d : PyData} (r : RpAll G xs ds) (h : atI ds i = some d) : ∃ v, atI xs i = some v ∧ Rp G v d := by
  unfold atI at h ⊢
  rw [r.len]
  cases q : ixN ds.length i with
  | none => rw [q] at h; cases h
  | some j =>
    rw [q] at h
    obtain ⟨v, h1, h2⟩ := r.at (i := j) h
    exact ⟨v, h1, h2⟩
def fIx : D2 := fun x y Q => match x, y with
  | .list ds, .int i => ∃ d, atI ds i = some d ∧ Q d
  | .tuple ds, .int i => ∃ d, atI ds i = some d ∧ Q d
  | _, _ => False
theorem ro_ix : ROp (rIx X.K) fIx := fun G H v w x y Q Q' e hv hw h k => by
  cases x with
  | list ds =>
    cases y with
    | int i =>
      obtain ⟨d, h1, h2⟩ := h
      obtain ⟨l, xs, rfl, h3, h4⟩ := hv.lst e
      obtain ⟨u, h5, h6⟩ := atI_rp h4 h1
      exact .inl ⟨l, xs, i, u, rfl, hw.int, SqL.of h3, h5, k _ _ _ (.inl ⟨rfl, h6⟩) h2⟩
    | _ => exact h.elim
  | tuple ds =>
    cases y with
    | int i =>
      obtain ⟨d, h1, h2⟩ := h
      obtain ⟨l, xs, rfl, h3, h4⟩ := hv.tup e
      obtain ⟨u, h5, h6⟩ := atI_rp h4 h1
      exact .inr (.inl ⟨l, xs, i, u, rfl, hw.int, SqT.of h3, h5, k _ _ _ (.inl ⟨rfl, h6⟩) h2⟩)
    | _ => exact h.elim
  | _ => cases y <;> exact h.elim
def cutD (ds : List PyData) (lo hi : Option Int) : List PyData := (ds.drop (HT.sIx ds.length 0 lo)).take (HT.sIx ds.length ds.length hi - HT.sIx ds.length 0 lo)
theorem RpAll.cut {G : Hp} {xs : List V} {ds : List PyData} (r : RpAll G xs ds) (lo hi : Option Int) : RpAll G (cutV xs lo hi) (cutD ds lo hi) := by
  unfold cutV cutD
  rw [r.len]
  exact (r.drop _).take _
abbrev DO := Rho → (Option Int → Rho → Prop) → Prop
def tO (od : DO) : TO := fun σ H Q => ∃ c G ρ Q', Rep c G σ H ρ ∧ od ρ Q' ∧ ∀ o ρ' G' H', Q' o ρ' → Ex G G' → Rep c G' σ H' ρ' → Q o H'
abbrev POD (X : Cx) (e : Option Expr) (od : DO) : Prop := PO X e (tO od)
def dNoPart : DO := fun ρ Q => Q none ρ
def dPart (de : DE) : DO := fun ρ Q => de ρ fun x ρ1 => match x with
  | .int i => Q (some i) ρ1
  | _ => False
theorem po_imp {e : Option Expr} {t t' : TO} (h : PO X e t) (k : ∀ σ H Q, t' σ H Q → t σ H Q) : PO X e t' := ⟨fun pins s σ H Q I q => h.run pins s σ H Q I (k σ H Q q)⟩
theorem pod_none : POD X none dNoPart := po_imp po_none fun σ H Q ⟨c, G, ρ, Q', rp, hd, k⟩ => k none ρ G H hd (Ex.refl G) rp
theorem pod_some {e : Expr} {de : DE} (h : PD X e de) : POD X (some e) (dPart de) := po_imp (po_some h) fun σ H Q ⟨c, G, ρ, Q', rp, hd, k⟩ => by
  refine ⟨c, G, ρ, _, rp, hd, fun x ρ1 G1 H1 v q1 e1 r1 hx => ?_⟩
  cases hx with
  | int i => exact ⟨i, rfl, k _ ρ1 G1 H1 q1 e1 r1⟩
  | _ => exact q1.elim
/-- x[lo:hi] of a list; x a name -/
def dSlV (i : Nat) (ol oh : DO) : DN := fun ρ Q => rd ρ i fun _ => ol ρ fun lo ρ1 => oh ρ1 fun hi ρ2 => rd ρ2 i fun x => match x with
  | .list ds => Q (cutD ds lo hi) ρ2
  | _ => False
theorem pn_slV (i : Nat) {x : Str} {p p2 pos : Pos} {lo hi : Option Expr} {ol oh : DO} (hl : POD X lo ol) (hh : POD X hi oh) (hN : X.N[i]? = some x := by rfl) (hv : Vis X.env.scope x := by first | exact Or.inl rfl | exact Or.inr (Or.inl rfl) | exact Or.inr (Or.inr rfl)) (hd : (x == ("__debug__" : Str)) = false := by decide)
    (hcd : (x == ("__classdict__" : Str)) = false := by decide) : PN X (.Subscript (.Name x p) (.Slice lo hi none p2) pos) (dSlV i ol oh) := pe_imp (pe_slice sl_list (pe_var hN hv hd hcd) hl hh) fun σ H Q ⟨c, G, ρ, Q', rp, h, k⟩ => by
  obtain ⟨v, d0, h1, _, h⟩ := rd_some rp h
  refine ⟨v, h1, c, G, ρ, _, rp, h, fun lo ρ1 G1 H1 q1 e1 r1 => ⟨c, G1, ρ1, _, r1, q1, fun hi ρ2 G2 H2 q2 e2 r2 => ?_⟩⟩
  obtain ⟨v', d, h2, h3, q3⟩ := rd_some r2 q2
  rw [h1] at h2
  cases h2
  cases d with
  | list ds =>
    obtain ⟨l, xs, rfl, h4, h5⟩ := h3.lst r2.gh
    exact ⟨l, xs, rfl, SqL.of h4, fun p hp => k _ ρ2 G2 _ p _ q3 (e1.trans e2) (r2.pinN hp) (r2.free hp) (h5.cut lo hi)⟩
  | _ => exact q3.elim
/-- of any other list -/
def dSl (de : DE) (ol oh : DO) : DN := fun ρ Q => de ρ fun x ρ0 => ol ρ0 fun lo ρ1 => oh ρ1 fun hi ρ2 => match x with
  | .list ds => Q (cutD ds lo hi) ρ2
  | _ => False
theorem pn_sl {e : Expr} {de : DE} {p2 pos : Pos} {lo hi : Option Expr} {ol oh : DO} (he : PD X e de) (hl : POD X lo ol) (hh : POD X hi oh) : PN X (.Subscript e (.Slice lo hi none p2) pos) (dSl de ol oh) := pe_imp (pe_slice sl_list he hl hh) fun σ H Q ⟨c, G, ρ, Q', rp, h, k⟩ => by
  refine ⟨c, G, ρ, _, rp, h, fun x ρ0 G0 H0 v q0 e0 r0 hx => ⟨c, G0, ρ0, _, r0, q0, fun lo ρ1 G1 H1 q1 e1 r1 => ⟨c, G1, ρ1, _, r1, q1, fun hi ρ2 G2 H2 q2 e2 r2 => ?_⟩⟩⟩
  cases hx with
  | lst a b => exact ⟨_, _, rfl, SqL.of (r2.gh _ _ (e2 _ _ (e1 _ _ a))), fun p hp => k _ ρ2 G2 _ p _ q2 ((e0.trans e1).trans e2) (r2.pinN hp) (r2.free hp) ((b.up (e1.trans e2)).cut lo hi)⟩
  | _ => exact q2.elim
/-! ### what is built in -/
def fLen : D1 := fun x Q => match x with
  | .list ds => Q (.int ds.length)
  | .tuple ds => Q (.int ds.length)
  | _ => False
theorem rc_len : RC1 (fun xs H Q => ∃ p ys, xs = [.ref p] ∧ (SqL X.K H p ys ∨ SqT X.K H p ys) ∧ Q (.int ys.length) H) fLen := fun G H v x Q Q' e hv h k => by
  cases x with
  | list ds =>
    obtain ⟨l, xs, rfl, h1, h2⟩ := hv.lst e
    exact ⟨l, xs, rfl, .inl (SqL.of h1), by rw [h2.len]; exact k _ _ _ (.inl ⟨rfl, .int _⟩) h⟩
  | tuple ds =>
    obtain ⟨l, xs, rfl, h1, h2⟩ := hv.tup e
    exact ⟨l, xs, rfl, .inr (SqT.of h1), by rw [h2.len]; exact k _ _ _ (.inl ⟨rfl, .int _⟩) h⟩
  | _ => exact h.elim
def fSum : D1 := fun x Q => ∃ ns : List Int, x = .list (ns.map .int) ∧ Q (.int ns.sum)
theorem rc_sum : RC1 (rSum X.K) fSum := fun G H v x Q Q' e hv ⟨ns, h1, h2⟩ k => by
  subst h1
  obtain ⟨l, xs, rfl, h3, h4⟩ := hv.lst e
  have z := h4.ints
  subst z
  exact ⟨l, ns, rfl, SqL.of h3, k _ _ _ (.inl ⟨rfl, .int _⟩) h2⟩
def fMax1 : D1 := fun x Q => ∃ ns : List Int, x = .list (ns.map .int) ∧ 0 < ns.length ∧ ∀ m, m ∈ ns → (∀ y, y ∈ ns → y ≤ m) → Q (.int m)
theorem rc_max1 : RC1 (rMax X.K) fMax1 := fun G H v x Q Q' e hv ⟨ns, h1, h0, h2⟩ k => by
  subst h1
  obtain ⟨l, xs, rfl, h3, h4⟩ := hv.lst e
  have z := h4.ints
  subst z
  exact ⟨l, ns, rfl, SqL.of h3, h0, fun m a b => k _ _ _ (.inl ⟨rfl, .int _⟩) (h2 m a b)⟩
def fMin1 : D1 := fun x Q => ∃ ns : List Int, x = .list (ns.map .int) ∧ 0 < ns.length ∧ ∀ m, m ∈ ns → (∀ y, y ∈ ns → m ≤ y) → Q (.int m)
theorem rc_min1 : RC1 (rMin X.K) fMin1 := fun G H v x Q Q' e hv ⟨ns, h1, h0, h2⟩ k => by
  subst h1
  obtain ⟨l, xs, rfl, h3, h4⟩ := hv.lst e
  have z := h4.ints
  subst z
  exact ⟨l, ns, rfl, SqL.of h3, h0, fun m a b => k _ _ _ (.inl ⟨rfl, .int _⟩) (h2 m a b)⟩
def fMax2 : D2 := dI0 fun i j => .int (max i j)
def fMin2 : D2 := dI0 fun i j => .int (min i j)
theorem rc_max2 : RC2 (fun xs H Q => ∃ i j, xs = [.int i, .int j] ∧ Q (.int (if j > i then j else i)) H) fMax2 := fun G H v w x y Q Q' e hv hw h k => by
  cases x with
  | int i =>
    cases y with
    | int j =>
      refine ⟨i, j, by rw [hv.int, hw.int], ?_⟩
      have z : (if j > i then j else i) = max i j := by split <;> omega
      rw [z]
      exact k _ _ _ (.inl ⟨rfl, .int _⟩) h
    | _ => exact h.elim
  | _ => cases y <;> exact h.elim
theorem rc_min2 : RC2 (fun xs H Q => ∃ i j, xs = [.int i, .int j] ∧ Q (.int (if j < i then j else i)) H) fMin2 := fun G H v w x y Q Q' e hv hw h k => by
  cases x with
  | int i =>
    cases y with
    | int j =>
      refine ⟨i, j, by rw [hv.int, hw.int], ?_⟩
      have z : (if j < i then j else i) = min i j := by split <;> omega
      rw [z]
      exact k _ _ _ (.inl ⟨rfl, .int _⟩) h
    | _ => exact h.elim
  | _ => cases y <;> exact h.elim
def fInt : D1 := fun x Q => match x with
  | .int i => Q (.int i)
  | .bool b => Q (.int (if b then 1 else 0))
  | _ => False
theorem rc_int : RC1 (fun xs H Q => (∃ i, xs = [.int i] ∧ Q (.int i) H) ∨ ∃ k, xs = [.bl k] ∧ Q (.int (if k then 1 else 0)) H) fInt := fun G H v x Q Q' e hv h k => by
  cases x with
  | int i => exact .inl ⟨i, by rw [hv.int], k _ _ _ (.inl ⟨rfl, .int _⟩) h⟩
  | bool b => exact .inr ⟨b, by rw [hv.bl], k _ _ _ (.inl ⟨rfl, .int _⟩) h⟩
  | _ => exact h.elim
def fAll : D1 := fun x Q => ∃ bs : List Bool, x = .list (bs.map .bool) ∧ Q (.bool (bs.all id))
def fAny : D1 := fun x Q => ∃ bs : List Bool, x = .list (bs.map .bool) ∧ Q (.bool (bs.any id))
theorem rc_all : RC1 (rAll X.K) fAll := fun G H v x Q Q' e hv ⟨ns, h1, h2⟩ k => by
  subst h1
  obtain ⟨l, xs, rfl, h3, h4⟩ := hv.lst e
  have z := h4.bools
  subst z
  exact ⟨l, ns, rfl, SqL.of h3, k _ _ _ (.inl ⟨rfl, .bl _⟩) h2⟩
theorem rc_any : RC1 (rAny X.K) fAny := fun G H v x Q Q' e hv ⟨ns, h1, h2⟩ k => by
  subst h1
  obtain ⟨l, xs, rfl, h3, h4⟩ := hv.lst e
  have z := h4.bools
  subst z
  exact ⟨l, ns, rfl, SqL.of h3, k _ _ _ (.inl ⟨rfl, .bl _⟩) h2⟩
def fList : D1 := fun x Q => match x with
  | .list ds => Q (.list ds)
  | .tuple ds => Q (.list ds)
  | _ => False
theorem rc_list : RC1 (fun xs H Q => ∃ p ys, xs = [.ref p] ∧ (SqL X.K H p ys ∨ SqT X.K H p ys) ∧ ∀ l, H l = none → Q (.ref l) (upd H l (.lst ys))) fList := fun G H v x Q Q' e hv h k => by
  cases x with
  | list ds =>
    obtain ⟨l, xs, rfl, h1, h2⟩ := hv.lst e
    exact ⟨l, xs, rfl, .inl (SqL.of h1), fun p hp => k _ _ _ (out_lst e hp h2) h⟩
  | tuple ds =>
    obtain ⟨l, xs, rfl, h1, h2⟩ := hv.tup e
    exact ⟨l, xs, rfl, .inr (SqT.of h1), fun p hp => k _ _ _ (out_lst e hp h2) h⟩
  | _ => exact h.elim
def fTuple : D1 := fun x Q => match x with
  | .list ds => Q (.tuple ds)
  | .tuple ds => Q (.tuple ds)
  | _ => False
theorem rc_tuple : RC1 (fun xs H Q => ∃ p ys, xs = [.ref p] ∧ ((SqL X.K H p ys ∧ ∀ l, H l = none → Q (.ref l) (upd H l (.tup ys))) ∨ (SqT X.K H p ys ∧ Q (.ref p) H))) fTuple := fun G H v x Q Q' e hv h k => by
  cases x with
  | list ds =>
    obtain ⟨l, xs, rfl, h1, h2⟩ := hv.lst e
    exact ⟨l, xs, rfl, .inl ⟨SqL.of h1, fun p hp => k _ _ _ (out_tup e hp h2) h⟩⟩
  | tuple ds =>
    have r := hv
    obtain ⟨l, xs, rfl, h1, h2⟩ := hv.tup e
    rcases r with r | ⟨_, _, _, _, z, _, _⟩
    · exact ⟨l, xs, rfl, .inr ⟨SqT.of h1, k _ _ _ (.inl ⟨rfl, r⟩) h⟩⟩
    · cases z
  | _ => exact h.elim
/-- n.bit_length() -/
def dBits (de : DE) : DE := fun ρ Q => de ρ fun x ρ1 => match x with
  | .int i => Q (.int (Builtin.Int.intBits i : Nat)) ρ1
  | _ => False
theorem pd_bits {o : Expr} {de : DE} {apos pos : Pos} (ho : PD X o de) (hbase : attributeBase o "bit_length" X.env (eval o X.env) = eval o X.env := by rfl) (hline : (apos.endLine == pos.line) = true := by rfl) : PD X (.Call (.Attribute o "bit_length" apos) [] [] pos) (dBits de) := pe_imp (pe_bits ho hbase hline) fun σ H Q ⟨c, G, ρ, Q', rp, h, k⟩ => by
  refine ⟨c, G, ρ, _, rp, h, fun x ρ1 G1 H1 v q1 e1 r1 hx => ?_⟩
  cases hx with
  | int i => exact ⟨i, rfl, k _ ρ1 G1 H1 _ q1 e1 r1 (.int _)⟩
  | _ => exact q1.elim
/-! ### isinstance -/
def kindD : PyData → String
  | .none => "NoneType"
  | .bool _ => "bool"
  | .int _ => "int"
  | .str _ => "str"
  | .list _ => "list"
  | .tuple _ => "tuple"
  | .dict _ => "dict"
def isT : PyData → String → Bool
  | .bool _, T => T == "bool" || T == "int"
  | d, T => kindD d == T
def Tys : List String := ["bool", "int", "str", "list", "tuple", "dict"]
theorem kit_all : ∀ T ∈ Tys, kitB "NoneType" T = some ("NoneType" == T) ∧ kitB "bool" T = some (T == "bool" || T == "int") ∧ kitB "int" T = some ("int" == T) ∧ kitB "str" T = some ("str" == T) ∧ kitB "list" T = some ("list" == T) ∧ kitB "tuple" T = some ("tuple" == T) := by decide +kernel
theorem rv_ty {K : PySem.W.Frag} {G H : Hp} {v : V} {x : PyData} (e : Ex G H) (h : Rv G H v x) : TyX K H v (.type (kindD x)) := by
  rcases h with h | ⟨a, xs, ds, rfl, rfl, h1, _⟩
  · cases h with
    | non => exact .base .non
    | bl b => exact .base (.bl b)
    | int i => exact .base (.int i)
    | str y => exact .base (.str y)
    | lst a b => exact .base (.lst (e _ _ a))
    | tup a b => exact .base (.tup (e _ _ a))
  · exact .base (.lst h1)
theorem kit_is {K : PySem.W.Frag} {G H : Hp} {v : V} {x : PyData} {T : String} (hT : T ∈ Tys) (h : Rv G H v x) : PySem.W.kitOne K (.type (kindD x)) (.type T) = some (isT x T) := by
  obtain ⟨k1, k2, k3, k4, k5, k6⟩ := kit_all T hT
  cases x with
  | none => exact kit_ty k1
  | bool b => exact kit_ty k2
  | int i => exact kit_ty k3
  | str y => exact kit_ty k4
  | list ds => exact kit_ty k5
  | tuple ds => exact kit_ty k6
  | dict kvs =>
    rcases h with h | ⟨_, _, _, _, z, _, _⟩
    · cases h
    · cases z
def fIsT (T : String) : D1 := fun x Q => Q (.bool (isT x T))
def dIs1 (T : String) (de : DE) : DE := dUn (fIsT T) de
variable {e : Expr} {de : DE} {x y : Str} {p p2 pos : Pos}
theorem pd_is1 {T : String} (hm : X.mg x = none) (hm2 : X.mg y = none) (he : PR X e de) (hT : T ∈ Tys := by decide) (hg : Gl X x := by rfl) (hv : bootBuiltins x = some (.builtin "isinstance") := by decide +kernel) (hg2 : Gl X y := by rfl) (hv2 : bootBuiltins y = some (.type T) := by decide +kernel) (hn : x ≠ "__name__" := by decide) (hdb : (x == ("__debug__" : Str)) = false := by decide)
    (hs : starEach [e, .Name y p2] X.env = (false, eval e X.env) :: starEach [.Name y p2] X.env := by rfl) (hs2 : starEach [.Name y p2] X.env = (false, eval (.Name y p2) X.env) :: starEach [] X.env := by rfl) (hpl : (backTo pos (starEach [.Name y p2] X.env)).any (·.1) = false := by rfl) (hn2 : y ≠ "__name__" := by decide) (hdb2 : (y == ("__debug__" : Str)) = false := by decide) :
    PD X (.Call (.Name x p) [e, .Name y p2] [] pos) (dIs1 T de) := pe_imp (pe_callB call_isi hg hm hv (pa_cons he (pa_cons (pe_bltn (v := .ty T) hg2 hm2 hv2 rfl (hn := hn2) (hd := hdb2)) pa_nil hs2) hs) hn hdb hs hpl) fun σ H Q ⟨c, G, ρ, Q', rp, hd, k⟩ => by
  refine ⟨c, G, ρ, _, rp, hd, fun d ρ1 G1 H1 v q1 e1 r1 hx => ?_⟩
  exact ⟨v, .ty T, _, _, _, rfl, .ty T, rv_ty r1.gh hx, kit_is hT hx, k _ ρ1 G1 H1 _ q1 e1 r1 (.bl _)⟩
def fIsTs (Ts : List String) : D1 := fun x Q => Q (.bool (Ts.any (isT x)))
theorem kit_any {K : PySem.W.Frag} {G H : Hp} {v : V} {x : PyData} (h : Rv G H v x) : ∀ {Ts : List String}, (∀ T ∈ Ts, T ∈ Tys) → PySem.W.kitAny K (.type (kindD x)) (Ts.map Value.type) = some (Ts.any (isT x))
  | [], _ => kitAny_nil
  | T :: r, hT => by
    have ih := kit_any (K := K) h (Ts := r) fun S hS => hT S (List.mem_cons_of_mem _ hS)
    have h1 := kit_is (K := K) (hT T List.mem_cons_self) h
    rw [List.map_cons, List.any_cons]
    cases q : isT x T with
    | true =>
      rw [q] at h1
      exact kitAny_cons h1 (fun z => nomatch z) fun _ => rfl
    | false =>
      rw [q] at h1
      exact kitAny_cons h1 (fun _ => ih) fun z => nomatch z
/-- isinstance(x, (T1, T2, ..)) -/
def dIsTs (Ts : List String) (de : DE) : DE := dUn (fIsTs Ts) de
def NmT (X : Cx) (n : Expr) (T : String) : Prop := PE X n (tC (.ty T))
theorem nm_ty {T : String} (hm2 : X.mg y = none) (hg2 : Gl X y := by rfl) (hv2 : bootBuiltins y = some (.type T) := by decide +kernel) (hn2 : y ≠ "__name__" := by decide) (hdb2 : (y == ("__debug__" : Str)) = false := by decide) : NmT X (.Name y p2) T := pe_bltn (v := .ty T) hg2 hm2 hv2 rfl (hn := hn2) (hd := hdb2)
inductive NmTs (X : Cx) : List Expr → List String → TA → Prop where
  | nil : NmTs X [] [] tNil
  | cons {n : Expr} {T : String} {ns : List Expr} {Ts : List String} {t : TA} (h : NmT X n T) (hs : starEach (n :: ns) X.env = (false, eval n X.env) :: starEach ns X.env) (r : NmTs X ns Ts t) : NmTs X (n :: ns) (T :: Ts) (tCons (tC (.ty T)) t)
theorem NmTs.pa : ∀ {ns : List Expr} {Ts : List String} {t : TA}, NmTs X ns Ts t → PA X ns t
  | _, _, _, .nil => pa_nil
  | _, _, _, .cons h hs r => pa_cons h r.pa hs
theorem NmTs.goes : ∀ {ns : List Expr} {Ts : List String} {t : TA}, NmTs X ns Ts t → ∀ {σ : L2.St} {H : Hp} {Q : List V → Hp → Prop}, Q (Ts.map V.ty) H → t σ H Q
  | _, _, _, .nil, _, _, _, h => h
  | _, _, _, .cons _ _ r, _, _, _, h => r.goes h
theorem cls_all : ∀ Ts : List String, Paired ClsV (Ts.map V.ty) (Ts.map Value.type)
  | [] => .nil
  | T :: r => .cons (.ty T) (cls_all r)
theorem pd_isTs {ns : List Expr} {Ts : List String} {t : TA} {kk : Nat} {tpos : Pos} (hm : X.mg x = none) (he : PR X e de) (hN : NmTs X ns Ts t) (hT : ∀ T ∈ Ts, T ∈ Tys := by decide) (hl : Ts.length ≤ 1000 := by decide) (hg : Gl X x := by rfl) (hv : bootBuiltins x = some (.builtin "isinstance") := by decide +kernel) (hn : x ≠ "__name__" := by decide) (hdb : (x == ("__debug__" : Str)) = false := by decide)
    (hs : starEach [e, .Tuple ns kk tpos] X.env = (false, eval e X.env) :: starEach [.Tuple ns kk tpos] X.env := by rfl) (hs2 : starEach [.Tuple ns kk tpos] X.env = (false, eval (.Tuple ns kk tpos) X.env) :: starEach [] X.env := by rfl) (hpl : (backTo pos (starEach [.Tuple ns kk tpos] X.env)).any (·.1) = false := by rfl) :
    PD X (.Call (.Name x p) [e, .Tuple ns kk tpos] [] pos) (dIsTs Ts de) := pe_imp (pe_callB call_isiT hg hm hv (pa_cons he (pa_cons (pe_tup hN.pa) pa_nil hs2) hs) hn hdb hs hpl) fun σ H Q ⟨c, G, ρ, Q', rp, hd, k⟩ => by
  refine ⟨c, G, ρ, _, rp, hd, fun d ρ1 G1 H1 v q1 e1 r1 hx => ?_⟩
  refine hN.goes ⟨by rw [List.length_map]; exact Nat.le_of_lt (small1000 hl), fun p hp => ?_⟩
  have r2 := r1.newH (o := .tup (Ts.map V.ty)) hp
  have hx2 : Rv G1 (upd H1 p (.tup (Ts.map V.ty))) v d := by
    rcases hx with hx | ⟨a, xs, ds, a1, a2, a3, a4⟩
    · exact .inl hx
    · exact .inr ⟨a, xs, ds, a1, a2, by rw [upd_ne (ne_of_none a3 hp)]; exact a3, a4⟩
  exact ⟨v, p, Ts.map V.ty, _, Ts.map Value.type, _, rfl, upd_same, cls_all Ts, rv_ty r2.gh hx2, kit_any hx2 hT, k _ ρ1 G1 _ _ q1 e1 r2 (.bl _)⟩
end
end DL

set_option Elab.async false
set_option linter.all false
set_option maxRecDepth 100000
set_option maxHeartbeats 1000000
/-! DL7: chains in tests, stars in displays, dicts of one's own, repr. -/
namespace DL
open PySem L2 Evl PyProof.Rows RZ

section
variable {X : Cx} {e a b : Expr} {es : List Expr} {pos : Pos} {de da db : DE}
theorem ptd_chain {e3 : Expr} {dc : DE} {op op' : CmpOp} {r r' : R2} {f g : D2} (ho : OpR X (compareOp op) r) (ho' : OpR X (compareOp op') r') (hr : ROp r f) (hr' : ROp r' g) (ha : PD X a da) (hb : PD X b db) (hc : PR X e3 dc) (hm : lastMarks [op, op'] [b, e3] = false := by rfl) :
    PTD X (.Compare a [op, op'] [b, e3] pos) (dB (dChain f g da db dc)) := pt_imp (pt_chain ho ho' ha hb hc hm) fun σ H Q ⟨c, G, ρ, Q', rp, hd, k⟩ => by
  refine ⟨c, G, ρ, _, rp, hd, fun x ρ1 G1 H1 v q1 e1 r1 hx => ?_⟩
  refine ⟨c, G1, ρ1, _, r1, q1, fun y ρ2 G2 H2 w q2 e2 r2 hy => ?_⟩
  refine hr G2 H2 v w x y _ _ r2.gh (.inl (hx.up e2)) (.inl hy) q2 fun d u H' o q3 => ?_
  obtain ⟨G3, e3, r3, h3⟩ := r2.out o
  cases d with
  | bool z =>
    cases h3
    refine ⟨z, rfl, ?_⟩
    cases z with
    | false => exact ⟨false, rfl, k _ ρ2 G3 H' q3 ((e1.trans e2).trans e3) r3⟩
    | true =>
      refine ⟨c, G3, ρ2, _, r3, q3, fun w' ρ3 G4 H4 w2 q4 e4 r4 h4 => ?_⟩
      refine hr' G4 H4 w w2 y w' _ _ r4.gh (.inl (hy.up (e3.trans e4))) h4 q4 fun d u H' o q5 => ?_
      obtain ⟨G5, e5, r5, h5⟩ := r4.out o
      cases d with
      | bool z =>
        cases h5
        exact ⟨z, rfl, k z ρ3 G5 H' q5 ((((e1.trans e2).trans e3).trans e4).trans e5) r5⟩
      | _ => exact q5.elim
  | _ => exact q3.elim
/-- *e in a display -/
def daStar (de : DE) (da : DN) : DN := fun ρ Q => de ρ fun d ρ1 => match d with
  | .list ds => da ρ1 fun es ρ2 => Q (ds ++ es) ρ2
  | .tuple ds => da ρ1 fun es ρ2 => Q (ds ++ es) ρ2
  | _ => False
theorem pad_star {da : DN} {p : Pos} (he : PD X e de) (hr : PAD X es da) (hs : starEach (.Starred e p :: es) X.env = (true, eval e X.env) :: starEach es X.env := by rfl) : PAD X (.Starred e p :: es) (daStar de da) :=
  pa_imp (StX.pa_star he hr hs) fun σ H Q ⟨c, G, ρ, Q', rp, hd, k⟩ => by
    refine ⟨c, G, ρ, _, rp, hd, fun x ρ1 G1 H1 v q1 e1 r1 hx => ?_⟩
    cases hx with
    | lst h1 h2 => exact ⟨_, _, rfl, .inr (SqL.of (r1.gh _ _ h1)), c, G1, ρ1, _, r1, q1, fun ys ρ2 G2 H2 vs q2 e2 r2 hy => k _ ρ2 G2 H2 _ q2 (e1.trans e2) r2 ((h2.up e2).app hy)⟩
    | tup h1 h2 => exact ⟨_, _, rfl, .inl (SqT.of (r1.gh _ _ h1)), c, G1, ρ1, _, r1, q1, fun ys ρ2 G2 H2 vs q2 e2 r2 hy => k _ ρ2 G2 H2 _ q2 (e1.trans e2) r2 ((h2.up e2).app hy)⟩
    | _ => exact q1.elim
end
/-! ### dicts of one's own -/
def keyD : PyData → Option Key
  | .int i => some (.inl i)
  | .str x => some (.inr x)
  | _ => none
theorem key_v {G H : Hp} {v : V} {d : PyData} {k : Key} (h : Rv G H v d) (e : keyD d = some k) : v = kV k := by
  cases d <;> cases e
  · exact h.int
  · exact h.str
def atD : List (Key × PyData) → Key → Option PyData
  | [], _ => none
  | (j, d) :: r, k => if j = k then some d else atD r k
def setD : List (Key × PyData) → Key → PyData → List (Key × PyData)
  | [], k, d => [(k, d)]
  | (j, e) :: r, k, d => if j = k then (j, d) :: setX r k d else (j, e) :: setD r k d
where
  setX : List (Key × PyData) → Key → PyData → List (Key × PyData)
  | [], _, _ => []
  | (j, e) :: r, k, d => (if j = k then (j, d) else (j, e)) :: setX r k d
theorem kv_len {G : Hp} : ∀ {a : List (Key × V)} {b : List (Key × PyData)}, KvRp G a b → a.length = b.length
  | _, _, .nil => rfl
  | _, _, .cons _ t => by rw [List.length_cons, List.length_cons, kv_len t]
theorem kv_at {G : Hp} {k : Key} : ∀ {a : List (Key × V)} {b : List (Key × PyData)}, KvRp G a b → (∀ d, atD b k = some d → ∃ v, valV a k = some v ∧ Rp G v d) ∧ (atD b k = none → valV a k = none)
  | _, _, .nil => ⟨fun d h => (nomatch (h : (none : Option PyData) = some d)), fun _ => rfl⟩
  | _, _, .cons (k := j) (d := e) (v := v) (r := r) h t => by
    by_cases z : j = k
    · subst z
      refine ⟨fun d q => ?_, fun q => ?_⟩
      · unfold atD at q
        rw [if_pos rfl] at q
        cases q
        exact ⟨v, valV_pos rfl, h⟩
      · unfold atD at q
        rw [if_pos rfl] at q
        cases q
    · have ih := kv_at (k := k) t
      refine ⟨fun d q => ?_, fun q => ?_⟩
      · unfold atD at q
        rw [if_neg z] at q
        rw [valV_neg z]
        exact ih.1 d q
      · unfold atD at q
        rw [if_neg z] at q
        rw [valV_neg z]
        exact ih.2 q
/-- only new keys are ever put -/
theorem kv_new {G : Hp} {k : Key} {v : V} {d : PyData} {a : List (Key × V)} {b : List (Key × PyData)} (h : KvRp G a b) (n : atD b k = none) (hv : Rp G v d) : KvRp G (putK a k v) (b ++ [(k, d)]) := by
  have e : putK a k v = a ++ [(k, v)] := by
    have := valV_any k a
    rw [(kv_at h).2 n] at this
    unfold putK
    rw [this]
    rfl
  rw [e]
  have main : ∀ {a : List (Key × V)} {b : List (Key × PyData)}, KvRp G a b → KvRp G (a ++ [(k, v)]) (b ++ [(k, d)]) := by
    intro a b h
    induction h with
    | nil => exact .cons hv .nil
    | cons h _ ih => exact .cons h ih
  exact main h
section
variable {X : Cx} {e a b : Expr} {es : List Expr} {pos : Pos} {de da db : DE}
def dic (ρ : Rho) (i : Nat) (k : List (Key × PyData) → Prop) : Prop := match ρ[i]? with
  | some (.dic kvs) => k kvs
  | _ => False
theorem dic_some {c : Co} {G H : Hp} {σ : L2.St} {ρ : Rho} {i : Nat} {k : List (Key × PyData) → Prop} (r : Rep c G σ H ρ) (h : dic ρ i k) : ∃ a kws kvs, σ[i]? = some (some (.ref a)) ∧ H a = some (.dK kws) ∧ KvRp G kws kvs ∧ k kvs ∧
    ρ[i]? = some (.dic kvs) ∧ G a = none ∧ c.H0 a = none := by
  unfold dic at h
  cases q : ρ[i]? with
  | none => rw [q] at h; exact h.elim
  | some s =>
    rw [q] at h
    have o := r.ok i s q
    cases s with
    | dic kvs => obtain ⟨a, kws, h1, h2, h3, h4, h5⟩ := o; exact ⟨a, kws, kvs, h1, h2, h3, h, rfl, h4, h5⟩
    | _ => exact h.elim
/-- len(d) -/
def dLenD (i : Nat) : DE := fun ρ Q => dic ρ i fun kvs => Q (.int (kvs.length : Int)) ρ
theorem pd_lenD (i : Nat) {x y : Str} {p p2 : Pos} (hm : X.mg x = none) (hN : X.N[i]? = some y := by rfl) (hvy : Vis X.env.scope y := by first | exact Or.inl rfl | exact Or.inr (Or.inl rfl) | exact Or.inr (Or.inr rfl)) (hdy : (y == ("__debug__" : Str)) = false := by decide) (hcd : (y == ("__classdict__" : Str)) = false := by decide)
    (hg : Gl X x := by rfl) (hv : bootBuiltins x = some (.builtin "len") := by decide +kernel) (hn : x ≠ "__name__" := by decide) (hdb : (x == ("__debug__" : Str)) = false := by decide) (hs : starEach [.Name y p2] X.env = (false, eval (.Name y p2) X.env) :: starEach [] X.env := by rfl) (hpl : (backTo pos (starEach [] X.env)).any (·.1) = false := by rfl) :
    PD X (.Call (.Name x p) [.Name y p2] [] pos) (dLenD i) := pe_imp (pe_callB call_lenD hg hm hv (pa_cons (pe_var hN hvy hdy hcd) pa_nil hs) hn hdb hs hpl) fun σ H Q ⟨c, G, ρ, Q', rp, h, k⟩ => by
  obtain ⟨a, kws, kvs, h1, h2, h3, h4, _⟩ := dic_some rp h
  refine ⟨_, h1, a, kws, rfl, h2, ?_⟩
  rw [kv_len h3]
  exact k _ ρ G H _ h4 (Ex.refl G) rp (.int _)
/-- d[k] -/
def dDGet (i : Nat) (dk : DE) : DE := fun ρ Q => dic ρ i fun _ => dk ρ fun z ρ1 => dic ρ1 i fun kvs => ∃ k d, keyD z = some k ∧ atD kvs k = some d ∧ Q d ρ1
theorem pd_dget (i : Nat) {y : Str} {p2 : Pos} {dk : DE} (hu : X.A.units + 1 < cLine) (hk : PD X e dk) (hs : NoSl e := by intro _ _; rfl) (hN : X.N[i]? = some y := by rfl) (hvy : Vis X.env.scope y := by first | exact Or.inl rfl | exact Or.inr (Or.inl rfl) | exact Or.inr (Or.inr rfl)) (hdy : (y == ("__debug__" : Str)) = false := by decide) (hcd : (y == ("__classdict__" : Str)) = false := by decide) :
    PD X (.Subscript (.Name y p2) e pos) (dDGet i dk) := pe_imp (pe_dget hu (pe_var hN hvy hdy hcd) hk hs) fun σ H Q ⟨c, G, ρ, Q', rp, h, k⟩ => by
  obtain ⟨a, kws, kvs, h1, _, _, h4, _⟩ := dic_some rp h
  refine ⟨_, h1, c, G, ρ, _, rp, h4, fun z ρ1 G1 H1 w q1 e1 r1 hz => ?_⟩
  obtain ⟨a', kws', kvs', k1, k2, k3, k4, _⟩ := dic_some r1 q1
  rw [h1] at k1
  cases k1
  obtain ⟨kk, d, z1, z2, z3⟩ := k4
  obtain ⟨v, v1, v2⟩ := (kv_at k3).1 d z2
  refine ⟨a, v, rfl, ?_, k d ρ1 G1 H1 v z3 e1 r1 v2⟩
  rw [key_v (H := H1) (.inl hz) z1]
  have g := DGet.k (k := kk) k2
  rw [v1] at g
  exact g
/-- k in d -/
def dDIn (neg : Bool) (dk : DE) (i : Nat) : DE := fun ρ Q => dk ρ fun z ρ1 => dic ρ1 i fun kvs => ∃ k, keyD z = some k ∧ Q (.bool ((atD kvs k).isSome != neg)) ρ1
theorem din_core {c : Co} {G H : Hp} {σ : L2.St} {ρ : Rho} {i : Nat} {z : PyData} {w : V} {k : List (Key × PyData) → Key → Prop} (r : Rep c G σ H ρ) (hz : Rp G w z) (h : dic ρ i fun kvs => ∃ kk, keyD z = some kk ∧ k kvs kk) :
    ∃ a o kvs kk, σ[i]? = some (some (.ref a)) ∧ DGet H a w o ∧ o.isSome = (atD kvs kk).isSome ∧ k kvs kk := by
  obtain ⟨a, kws, kvs, k1, k2, k3, ⟨kk, k4, k5⟩, _⟩ := dic_some r h
  refine ⟨a, valV kws kk, kvs, kk, k1, by rw [key_v (H := H) (.inl hz) k4]; exact DGet.k k2, ?_, k5⟩
  cases q : atD kvs kk with
  | none =>
    have z := (kv_at k3).2 q
    rw [z]
    rfl
  | some d =>
    obtain ⟨v, v1, _⟩ := (kv_at k3).1 d q
    rw [v1]
    rfl
theorem pc_imp {op : CmpOp} {t t' : TE} (h : PC X op a b t) (k : ∀ σ H Q, t' σ H Q → t σ H Q) : PC X op a b t' := ⟨fun pins s σ H Q I q => h.run pins s σ H Q I (k σ H Q q)⟩
theorem pcd_notin (i : Nat) {y : Str} {p2 : Pos} {dk : DE} (hu : X.A.units + 1 < cLine) (hk : PD X e dk) (hN : X.N[i]? = some y := by rfl) (hvy : Vis X.env.scope y := by first | exact Or.inl rfl | exact Or.inr (Or.inl rfl) | exact Or.inr (Or.inr rfl)) (hdy : (y == ("__debug__" : Str)) = false := by decide) (hcd : (y == ("__classdict__" : Str)) = false := by decide) :
    PC X .NotIn e (.Name y p2) (tD (dDIn true dk i)) := pc_imp (pc_dnotin hu hk (pe_var hN hvy hdy hcd)) fun σ H Q ⟨c, G, ρ, Q', rp, h, k⟩ => by
  refine ⟨c, G, ρ, _, rp, h, fun z ρ1 G1 H1 w q1 e1 r1 hz => ?_⟩
  obtain ⟨a, o, kvs, kk, z1, z2, z3, z4⟩ := din_core r1 hz q1
  refine ⟨_, z1, a, o, rfl, z2, ?_⟩
  rw [show (!o.isSome) = ((atD kvs kk).isSome != true) by rw [z3]; cases (atD kvs kk).isSome <;> rfl]
  exact k _ ρ1 G1 H1 _ z4 e1 r1 (.bl _)
theorem pcd_in (i : Nat) {y : Str} {p2 : Pos} {dk : DE} (hu : X.A.units + 1 < cLine) (hk : PD X e dk) (hN : X.N[i]? = some y := by rfl) (hvy : Vis X.env.scope y := by first | exact Or.inl rfl | exact Or.inr (Or.inl rfl) | exact Or.inr (Or.inr rfl)) (hdy : (y == ("__debug__" : Str)) = false := by decide) (hcd : (y == ("__classdict__" : Str)) = false := by decide) :
    PC X .In e (.Name y p2) (tD (dDIn false dk i)) := pc_imp (pc_din hu hk (pe_var hN hvy hdy hcd)) fun σ H Q ⟨c, G, ρ, Q', rp, h, k⟩ => by
  refine ⟨c, G, ρ, _, rp, h, fun z ρ1 G1 H1 w q1 e1 r1 hz => ?_⟩
  obtain ⟨a, o, kvs, kk, z1, z2, z3, z4⟩ := din_core r1 hz q1
  refine ⟨_, z1, a, o, rfl, z2, ?_⟩
  rw [show o.isSome = ((atD kvs kk).isSome != false) by rw [z3]; cases (atD kvs kk).isSome <;> rfl]
  exact k _ ρ1 G1 H1 _ z4 e1 r1 (.bl _)
/-- d[k] = e, k new -/
def dDPut (i : Nat) (dk de : DE) : DS := fun D ρ => de ρ fun d ρ1 => dic ρ1 i fun _ => dk ρ1 fun z ρ2 => dic ρ2 i fun kvs => ∃ k, keyD z = some k ∧ atD kvs k = none ∧ kvs.length < 100000 ∧ D.nx (ρ2.set i (.dic (kvs ++ [(k, d)])))
theorem psd_dput (i : Nat) {y : Str} {p2 p3 : Pos} {kx : Expr} {dk : DE} (hu : X.A.units + 1 < cLine) (he : PD X e de) (hk : PD X kx dk) (hN : X.N[i]? = some y := by rfl) (hvy : Vis X.env.scope y := by first | exact Or.inl rfl | exact Or.inr (Or.inl rfl) | exact Or.inr (Or.inr rfl)) (hdy : (y == ("__debug__" : Str)) = false := by decide) (hcd : (y == ("__classdict__" : Str)) = false := by decide)
    (hs : swapsWith e (some (.Subscript (.Name y p2) kx p3)) pos.line X.env = pure false := by rfl) : PSD X (.Assign [.Subscript (.Name y p2) kx p3] e pos) (dDPut i dk de) := ps_imp (ps_dput hu (pe_var hN hvy hdy hcd) hk he hs) fun D σ H ⟨c, G, ρ, D', r, h, k⟩ => by
  refine ⟨c, G, ρ, _, r, h, fun d ρ1 G1 H1 v q1 e1 r1 hx => ?_⟩
  obtain ⟨a, _, _, h1, _, _, h4, _⟩ := dic_some r1 q1
  refine ⟨_, h1, c, G1, ρ1, _, r1, h4, fun z ρ2 G2 H2 w q2 e2 r2 hz => ?_⟩
  obtain ⟨a', kws, kvs, k1, k2, k3, ⟨kk, z1, z2, z3, z4⟩, k5, k6, k7⟩ := dic_some r2 q2
  rw [h1] at k1
  cases k1
  refine ⟨a, _, rfl, ?_, k.nx _ G2 _ _ z4 (e1.trans e2) (r2.chg (t := .dic (kvs ++ [(kk, d)])) (o := .dK (putK kws kk v)) k5 rfl rfl h1 (.inl k7) ⟨a, _, rfl, upd_same, kv_new k3 z2 (hx.up e2), k6, k7⟩)⟩
  rw [key_v (H := H2) (.inl hz) z1]
  exact DPut.k k2 (sz_lt (by rw [kv_len k3]; exact z3))
/-- a, b = ({}, [..]) -/
def dParDN (i j : Nat) (dn : DN) : DS := fun D ρ => dn ρ fun xs ρ1 => D.nx ((ρ1.set i (.dic [])).set j (.own xs))
theorem psd_parDN (i j : Nat) {e2 : Expr} {dn : DN} {x y : Str} {px py pt pd : Pos} {kt k2 pt2} (hc : X.calm = true) (hN : X.N.Nodup) (hb : PN X e2 dn) (hi : X.N[i]? = some x := by rfl) (hj : X.N[j]? = some y := by rfl) (hij : i ≠ j := by decide)
    (hx : X.env.scope.names.lookup x = some .local := by rfl) (hy : X.env.scope.names.lookup y = some .local := by rfl) (hs1 : starEach [.Dict [] [] pd, e2] X.env = (false, eval (.Dict [] [] pd) X.env) :: starEach [e2] X.env := by rfl) (hs2 : starEach [e2] X.env = (false, eval e2 X.env) :: starEach [] X.env := by rfl)
    (hw : swappedStores [.Tuple [.Name x px, .Name y py] kt pt] (.Tuple [.Dict [] [] pd, e2] k2 pt2) X.env = pure (some [x, y]) := by rfl) (hs : swapsWithSole [.Tuple [.Name x px, .Name y py] kt pt] (.Tuple [.Dict [] [] pd, e2] k2 pt2) pos.line X.env = pure false := by rfl) :
    PSD X (.Assign [.Tuple [.Name x px, .Name y py] kt pt] (.Tuple [.Dict [] [] pd, e2] k2 pt2) pos) (dParDN i j dn) := ps_imp (ps_par hc hN hi hj hij hx hy (pa_cons pe_dnewK (pa_cons hb pa_nil hs2) hs1) hw hs) fun D σ H ⟨c, G, ρ, D', r, h, k⟩ => by
  intro p hp
  have r1 := r.pinN (o := .dK []) hp
  have fp := r.free hp
  refine ⟨_, G, ρ, _, r1, h, fun ds ρ1 G1 H1 q xs q1 f1 r2 f hx => ?_⟩
  refine ⟨_, _, rfl, k.nx _ G1 H1 _ q1 f1 ?_⟩
  have a1 := r2.pins (q, .lst xs) List.mem_cons_self
  have a2 := r2.pins (p, .dK []) (List.mem_cons_of_mem _ List.mem_cons_self)
  have hpq : p ≠ q := f.2 (p, .dK []) List.mem_cons_self
  have r3 : Rep { c with pin := (p, .dK []) :: (q, .lst xs) :: c.pin } G1 σ H1 ρ1 := by
    refine ⟨⟨r2.g0, r2.fr, r2.gh, r2.hh, r2.dom⟩, r2.len, fun i s h => ?_, r2.sep, fun z hz => ?_⟩
    · have := r2.ok i s h
      cases s <;> exact this
    · rcases List.mem_cons.mp hz with rfl | hz
      · exact a2
      · rcases List.mem_cons.mp hz with rfl | hz
        · exact a1
        · exact r2.pins z (List.mem_cons_of_mem _ (List.mem_cons_of_mem _ hz))
  have r4 := Rep.setM (c := { c with pin := (q, .lst xs) :: c.pin }) (i := i) r3 (s := .dic []) rfl ⟨p, [], rfl, a2.1, .nil, a2.2.1, fp.1⟩ fun z hz => by
    rcases List.mem_cons.mp hz with rfl | hz
    · exact fun y => hpq y.symm
    · exact fp.2 z hz
  exact Rep.setM (c := c) r4 (s := .own ds) rfl ⟨q, xs, rfl, a1.1, hx, a1.2.1, f.1⟩ fun z hz => f.2 z (List.mem_cons_of_mem _ hz)
/-! ### repr -/
theorem call_reprD (hg : X.A.guards = some []) (hu : X.A.units + 65 < cLine) : CallR X (.builtin "repr") (fun xs H Q => ∃ p d, xs = [.ref p] ∧ Dp X.K H (.ref p) d ∧ d.showable = true ∧ d.hasDict = false ∧ d.depth ≤ 60 ∧ d.shown.length ≤ sizeLine ∧ Q (.str d.shown) H) := by
  intro pins s σ H xs us Q I r h
  obtain ⟨p, d, rfl, hp, h1, h2, h3, h4, q⟩ := h
  obtain ⟨u, rfl, ru⟩ := vals1 r
  obtain rfl : u = Value.ref p := ru
  obtain ⟨as, rd⟩ := Dp.reads I d _ _ hp rfl
  refine repr_of_reads' rd h1 (fun z => by rw [h2] at z; cases z) hg (by omega) (fun _ _ e => e) (fun h' t tk hk => ⟨.str _, H, I.kept (t' := tk) hk, ⟨t, rfl⟩, q⟩) h4
/-- repr of a list -/
def fRepr : D1 := fun x Q => match x with
  | .list ds => (PyData.list ds).showable = true ∧ (PyData.list ds).hasDict = false ∧ (PyData.list ds).depth ≤ 60 ∧ (PyData.list ds).shown.length ≤ sizeLine ∧ Q (.str (PyData.list ds).shown)
  | _ => False
theorem rc_repr {K : PySem.W.Frag} : RC1 (fun xs H Q => ∃ p d, xs = [.ref p] ∧ Dp K H (.ref p) d ∧ d.showable = true ∧ d.hasDict = false ∧ d.depth ≤ 60 ∧ d.shown.length ≤ sizeLine ∧ Q (.str d.shown) H) fRepr := by
  intro G H v x Q Q' e hv h k
  cases x with
  | list ds =>
    obtain ⟨a, xs, rfl, ha, hx⟩ := hv.lst e
    exact ⟨a, .list ds, rfl, hv.dp e, h.1, h.2.1, h.2.2.1, h.2.2.2.1, k _ _ H (.inl ⟨rfl, .str _⟩) h.2.2.2.2⟩
  | _ => exact h.elim
end
end DL

set_option Elab.async false
set_option linter.all false
set_option maxRecDepth 100000
set_option maxHeartbeats 1000000
/-! DL8: defs that need the quiet of the guards (repr), the script, the law's own def, the end. -/
namespace DL
open PySem L2 Evl PyProof.Rows RZ

/-! ### with no guard about -/
structure FnG (P : Program) (w : World) (K : PySem.W.Frag) (mg : Str → Option Value) (base : Heap) (k : Nat) (f : Addr) (fd : FuncData) (ps : List Str) (sp : Sp) : Prop where
  len : ∀ vs H Q E, sp vs H Q E → vs.length = ps.length
  run : ∀ (A : Around) (outer : List Env) (s : Shared) (H : Hp) (args : Args) (us : List Value) (vs : List V) (Q : VK) (E : XK), A.guards = some [] → Room k A → Env0 P w K mg base A outer s H → BindsTo s fd args (ps.zip us) → Vals vs us → sp vs H Q E →
    codeAny (model P w) A (.call (.ref f) args) (CR CX0 outer P w H s Q E) s
section
variable {P : Program} {w : World} {K : PySem.W.Frag} {mg : Str → Option Value} {base : Heap} {x qual : Str} {params : Arguments} {body : List Stmt} {scope : Scope} {dvs : List V} {kws : List (Str × V)} {f : Addr} {fd : FuncData} {N ps : List Str} {k j : Nat} {bd : DS} {sp sp' : Sp}
theorem FnG.mono (F : FnG P w K mg base j f fd ps sp) (h : j ≤ k) : FnG P w K mg base k f fd ps sp := ⟨F.len, fun A o s H a us vs Q E g r => F.run A o s H a us vs Q E g (r.mono h)⟩
theorem FnOk.toG (F : FnOk P w K mg base CX0 k f fd ps sp) : FnG P w K mg base k f fd ps sp := ⟨F.len, fun A o s H a us vs Q E _ r => F.run A o s H a us vs Q E r⟩
theorem fin_g {X : Cx} {outer : List Env} {σ' : L2.St} {H H' : Hp} {s s' : Shared} {v : V} {u : Value} {Q : VK} (h1 : CE outer X.prog X.w H s Q u s') : CR CX0 outer X.prog X.w H s Q E0 (.ok (.ret u)) s' := h1
/-- THE RULE for a def, told with no guard about -/
theorem okG (F : FunD K x qual params body scope dvs kws f fd) (S : FnScope N ps scope) (len : ∀ vs H Q E, sp vs H Q E → vs.length = ps.length)
    (run : ∀ (cdv : Value) (A : Around) (outer : List Env) (s : Shared) (H : Hp) (vs : List V) (Q : VK) (E : XK), A.guards = some [] → Room k (A.deeper (envOfC qual scope s.heap.objs.size f cdv)) → sp vs H Q E →
      ∃ t, PSs (cxOf CX0 P w K mg base N qual scope f cdv A outer s H E).nox body t ∧ t { nx := fun _ H' => Q .non H', rt := Q } (start N vs) H) : FnG P w K mg base (k + 1) f fd ps sp := by
  obtain ⟨oc, od, dV, kV, doc, pm, an, cdv, ct, osl, hfd, lk, hcd, _, _⟩ := F.ex
  subst hfd
  refine ⟨len, fun A outer s H args us vs Q E hg hr e0 hb r hsp => ?_⟩
  have same : ∀ b o, base.get? b = some o → s.heap.get? b = some o := fun b o e => (e0.bs b o e).1
  have KX : K.In s.heap := e0.mod.kin.keeps same
  have lim : s.heap.NoLimit := e0.mod.nolimit.keeps same
  have n := len vs H Q E hsp
  obtain ⟨t, ht, hq⟩ := run cdv A outer s H vs Q E hg (hr.deeper _) hsp
  refine codeAny_call_function hr.depth (KX _ _ lk) rfl S.co S.gen rfl (PySem.W.codeRec_of KX hcd) (hb _ _ _ _ (wpAny_newFunctionEnv_cells S.kind ?_ ?_))
  · rintro ⟨y, v⟩ hy
    have := S.par y (List.of_mem_zip hy).1
    rcases this with q | q
    · exact .inl q
    · exact .inr ⟨q, PySem.W.cellsFrom_some _ _ _ (.inl q)⟩
  · rintro env he s1 inn
    subst he
    refine ⟨lim.keeps inn.toInCall.keep, codeAny_func ?_⟩
    have I0 := inv_start (CX := CX0) (E := E) S hr.hd e0 n r inn
    refine wpAny_mono (ht.nox.run [] s1 _ H _ I0 hq) (fun fl s2 g => ?_) fun e s2 g => g
    cases fl with
    | next =>
      obtain ⟨σ2, H2, J, q⟩ := g
      exact ⟨.non, H2, J.os, J.bare, J.base, J.hok, rfl, q⟩
    | ret u =>
      obtain ⟨v, σ2, H2, J, rv, q⟩ := g
      exact ⟨v, H2, J.os, J.bare, J.base, J.hok, rv, q⟩
    | brk => obtain ⟨_, _, _, z⟩ := g; exact z.elim
    | cont => obtain ⟨_, _, _, z⟩ := g; exact z.elim
theorem fnG_D {m : M1} (F : FunD K x qual params body scope dvs kws f fd) (S : FnScope N ps scope) (hl : ∀ xs Q, m xs Q → xs.length = ps.length)
    (hbody : ∀ (cdv : Value) (A : Around) (outer : List Env) (s : Shared) (H : Hp) (E : XK), A.guards = some [] → Room k (A.deeper (envOfC qual scope s.heap.objs.size f cdv)) → PSsD (cxOf CX0 P w K mg base N qual scope f cdv A outer s H E).nox body bd)
    (hm : ∀ xs Q, m xs Q → bd { nx := fun _ => Q .none, rt := fun _ d _ => Q d } (startR N xs)) : FnG P w K mg base (k + 1) f fd ps (spD m) :=
  okG F S (fun vs H Q E ⟨G, ds, Q', e, h, hq, _⟩ => by rw [h.len]; exact hl ds Q' hq) fun cdv A outer s H vs Q E hg hr ⟨G, ds, Q', e, h, hq, kk⟩ =>
    ⟨_, hbody cdv A outer s H E hg hr, ⟨G, H, [], []⟩, G, startR N ds, _, rep_start e h, hm ds Q' hq, ⟨fun σ G' H' ρ q _ r => kk _ G' H' _ q r.toFin .non, fun σ G' H' ρ _ d v q _ r hv _ => kk d G' H' v q r.toFin hv, fun _ _ _ _ q _ _ => q.elim, fun _ _ _ _ q _ _ => q.elim⟩⟩
theorem fnG_P {m : MP} (F : FunD K x qual params body scope dvs kws f fd) (S : FnScope N ps scope) (hl : ∀ qs xs Q, m qs xs Q → xs.length + 1 = ps.length)
    (hbody : ∀ (cdv : Value) (A : Around) (outer : List Env) (s : Shared) (H : Hp) (E : XK), A.guards = some [] → Room k (A.deeper (envOfC qual scope s.heap.objs.size f cdv)) → PSsD (cxOf CX0 P w K mg base N qual scope f cdv A outer s H E).nox body bd)
    (hm : ∀ qs xs Q, m qs xs Q → bd { nx := fun ρ => pur0 ρ (Q .none), rt := fun _ d ρ => pur0 ρ (Q d) } (startP N qs xs)) : FnG P w K mg base (k + 1) f fd ps (spP m) :=
  okG F S (fun vs H Q E ⟨G, p, ws, xs, qs, ds, Q', e1, _, _, _, _, h, hq, _⟩ => by rw [e1, List.length_cons, h.len]; exact hl qs ds Q' hq) fun cdv A outer s H vs Q E hg hr ⟨G, p, ws, xs, qs, ds, Q', e1, e, gp, hx, hp, h, hq, kk⟩ => by
    subst e1
    refine ⟨_, hbody cdv A outer s H E hg hr, ⟨G, H, [p], []⟩, G, startP N qs ds, _, rep_startP e gp hx hp h, hm qs ds Q' hq, ⟨fun σ G' H' ρ q _ r => ?_, fun σ G' H' ρ _ d v q _ r hv _ => ?_, fun _ _ _ _ q _ _ => q.elim, fun _ _ _ _ q _ _ => q.elim⟩⟩
    · obtain ⟨ys, rs, a1, a2, a3⟩ := pur0_some r q
      exact kk _ rs G' H' _ ys a3 r.toFin a1 a2 .non
    · obtain ⟨ys, rs, a1, a2, a3⟩ := pur0_some r q
      exact kk d rs G' H' v ys a3 r.toFin a1 a2 hv
end
section
variable {X : Cx} {k : Nat} {f : Addr} {fd : FuncData} {ps ks : List Str} {dvs : List V} {ds : List Value} {dd : List PyData} {x : Str} {p pos : Pos} {e : Expr} {es : List Expr} {da : DN} {sp : Sp} {t : TA}
theorem pe_callG (F : FnG X.prog X.w X.K X.mg X.base k f fd ps sp) (hq : X.A.guards = some []) (hr : Room k X.A) (hg : Gl X x) (hm : X.mg x = some (.ref f)) (hk : PySem.W.keepIn X.K (.ref f) = true) (hb : Binds X.K fd ps ds) (hd : Vals dvs ds)
    (ha : PA X (e :: es) t) (hdb : (x == ("__debug__" : Str)) = false := by decide) (he : starEach (e :: es) X.env = (false, eval e X.env) :: starEach es X.env := by rfl) (hpl : (backTo pos (starEach es X.env)).any (·.1) = false := by rfl) :
    PE X (.Call (.Name x p) (e :: es) [] pos) (tCall sp dvs E0 t) := ⟨fun pins s σ H Q I h => by
  refine wpAny_Call_Name_kw (ld_glob I hg hm (PySem.W.callWith_K (h₀ := X.base) I.ok.mod.kin hk (thn (ha.run pos pins s σ H _ I h) fun us s1 ⟨vs, H1, I1, r, q⟩ => ⟨I1.kIn, ?_⟩) he hpl) hdb)
  have r2 := r.append hd
  have n := F.len _ _ _ _ q
  rw [r2.length] at n
  refine wpAny_call (codeAny_mono (F.run X.A X.stack s1 H1 ⟨us, []⟩ _ _ Q E0 hq hr I1.env0 (hb s1 us I1.kIn n) r2 q) fun r s' z => ?_)
  match r, z with
  | .error _, z => exact z.elim
  | .ok (.ret u), z => exact I1.after z⟩
theorem pd_callG {m : M1} (F : FnG X.prog X.w X.K X.mg X.base k f fd ps (spD m)) (hq : X.A.guards = some []) (hr : Room k X.A) (hm : X.mg x = some (.ref f)) (hk : PySem.W.keepIn X.K (.ref f) = true) (hb : Binds X.K fd ps ds) (hd : Vals dvs ds) (hdd : ∀ G, RpAll G dvs dd) (ha : PAD X (e :: es) da)
    (hg : Gl X x := by rfl) (hdb : (x == ("__debug__" : Str)) = false := by decide) (he : starEach (e :: es) X.env = (false, eval e X.env) :: starEach es X.env := by rfl) (hpl : (backTo pos (starEach es X.env)).any (·.1) = false := by rfl) :
    PD X (.Call (.Name x p) (e :: es) [] pos) (dCall m dd da) := pe_imp (pe_callG F hq hr hg hm hk hb hd ha hdb he hpl) fun σ H Q ⟨c, G, ρ, Q', rp, h, kk⟩ => by
  refine ⟨c, G, ρ, _, rp, h, fun xs ρ1 G1 H1 vs q1 e1 r1 hx => ?_⟩
  refine ⟨G1, xs ++ dd, _, r1.gh, hx.app (hdd G1), q1, fun d G' H' v q2 fi hv => ?_⟩
  obtain ⟨e2, r2⟩ := r1.called fi
  exact kk d ρ1 G' H' v q2 (e1.trans e2) r2 hv
theorem pd_callPG (i : Nat) {m : MP} {y : Str} {p2 : Pos} (F : FnG X.prog X.w X.K X.mg X.base k f fd ps (spP m)) (hq : X.A.guards = some []) (hr : Room k X.A) (hm : X.mg x = some (.ref f)) (hk : PySem.W.keepIn X.K (.ref f) = true) (hb : Binds X.K fd ps ds) (hd : Vals dvs ds) (hdd : ∀ G, RpAll G dvs dd) (ha : PAD X es da)
    (hN : X.N[i]? = some y := by rfl) (hv : Vis X.env.scope y := by first | exact Or.inl rfl | exact Or.inr (Or.inl rfl) | exact Or.inr (Or.inr rfl)) (hdb2 : (y == ("__debug__" : Str)) = false := by decide) (hcd : (y == ("__classdict__" : Str)) = false := by decide)
    (hg : Gl X x := by rfl) (hdb : (x == ("__debug__" : Str)) = false := by decide) (he : starEach (.Name y p2 :: es) X.env = (false, eval (.Name y p2) X.env) :: starEach es X.env := by rfl) (hpl : (backTo pos (starEach es X.env)).any (·.1) = false := by rfl) :
    PD X (.Call (.Name x p) (.Name y p2 :: es) [] pos) (dCallP m i dd da) := pe_imp (pe_callG F hq hr hg hm hk hb hd (pa_cons (pe_var hN hv hdb2 hcd) ha he) hdb he hpl) fun σ H Q ⟨c, G, ρ, Q', rp, h, kk⟩ => by
  obtain ⟨a, _, _, _, h1, _, _, _, h, _⟩ := own_call rp h
  refine ⟨_, h1, c, G, ρ, _, rp, h, fun xs ρ1 G1 H1 vs q1 e1 r1 hx => ?_⟩
  obtain ⟨a', ys, qs, put, k1, k2, k3, k4, k5, k6⟩ := own_call r1 q1
  rw [h1] at k1
  cases k1
  refine ⟨G1, a, vs ++ dvs, ys, qs, xs ++ dd, _, rfl, r1.gh, k3, k2, k4, hx.app (hdd G1), k5, fun d rs G' H' v zs q2 fi hz rz hv => ?_⟩
  exact kk d _ G' H' v q2 (e1.trans fi.g0) (k6 G' H' zs rs fi hz rz) hv
end

/-! ### the script -/
def ScrOk (K : PySem.W.Frag) (H : Hp) (a : Addr) (ns : List Int) : Prop := (∃ o, H a = some (.frz o (.lst (ns.map V.int)))) ∨ ∀ H' : Hp, SqL K H' a (ns.map V.int)
theorem scrOk_of {K : PySem.W.Frag} {H : Hp} {a : Addr} {ns : List Int} (o : Only H) (h : SqL K H a (ns.map V.int)) : ScrOk K H a ns := by
  rcases h with h | h
  · rcases h with h | h
    · rcases o a with z | ⟨ob, xs, z⟩
      · rw [z] at h; cases h
      · rw [z] at h; cases h
    · exact .inl h
  · exact .inr fun _ => .inr h
def scr (K : PySem.W.Frag) (ρ : Rho) (i : Nat) (k : List Int → Prop) : Prop := match ρ[i]? with
  | some (.scr K' ns) => K' = K ∧ k ns
  | _ => False
theorem scr_some {K : PySem.W.Frag} {c : Co} {G H : Hp} {σ : L2.St} {ρ : Rho} {i : Nat} {k : List Int → Prop} (r : Rep c G σ H ρ) (h : scr K ρ i k) : ∃ a ns, σ[i]? = some (some (.ref a)) ∧ k ns ∧ ∀ c' G' H' σ' ρ', c'.H0 = c.H0 → c'.P = c.P → Rep c' G' σ' H' ρ' → ScrOk K H' a ns := by
  unfold scr at h
  cases q : ρ[i]? with
  | none => rw [q] at h; exact h.elim
  | some s =>
    rw [q] at h
    have o := r.ok i s q
    cases s with
    | scr K' ns =>
      obtain ⟨rfl, h⟩ := h
      obtain ⟨a, h1, h2⟩ := o
      refine ⟨a, ns, h1, h, fun c' G' H' σ' ρ' z1 z2 r' => ?_⟩
      rcases h2 with ⟨o, h2, h3⟩ | h2
      · exact .inl ⟨o, r'.hh a _ (by rw [z1]; exact h2) (by rw [z2]; exact h3)⟩
      · exact .inr h2
    | _ => exact h.elim
theorem ScrOk.sq {K : PySem.W.Frag} {H : Hp} {a : Addr} {ns : List Int} (h : ScrOk K H a ns) : SqL K H a (ns.map V.int) := h.elim (fun z => .inl (.inr z)) fun z => z H
section
variable {X : Cx} {x y : Str} {p p2 pos : Pos} {e : Expr} {es : List Expr} {da : DN} {de : DE} (K : PySem.W.Frag)
def dLenS (i : Nat) : DE := fun ρ Q => scr K ρ i fun ns => Q (.int (ns.length : Int)) ρ
theorem pd_lenS (i : Nat) (hm : X.mg x = none) (hN : X.N[i]? = some y := by rfl) (hvy : Vis X.env.scope y := by first | exact Or.inl rfl | exact Or.inr (Or.inl rfl) | exact Or.inr (Or.inr rfl)) (hdy : (y == ("__debug__" : Str)) = false := by decide) (hcd : (y == ("__classdict__" : Str)) = false := by decide)
    (hg : Gl X x := by rfl) (hv : bootBuiltins x = some (.builtin "len") := by decide +kernel) (hn : x ≠ "__name__" := by decide) (hdb : (x == ("__debug__" : Str)) = false := by decide) (hs : starEach [.Name y p2] X.env = (false, eval (.Name y p2) X.env) :: starEach [] X.env := by rfl) (hpl : (backTo pos (starEach [] X.env)).any (·.1) = false := by rfl) :
    PD X (.Call (.Name x p) [.Name y p2] [] pos) (dLenS X.K i) := pe_imp (pe_callB call_len_seq hg hm hv (pa_cons (pe_var hN hvy hdy hcd) pa_nil hs) hn hdb hs hpl) fun σ H Q ⟨c, G, ρ, Q', rp, h, k⟩ => by
  obtain ⟨a, ns, h1, h2, h3⟩ := scr_some rp h
  refine ⟨_, h1, a, _, rfl, .inl (h3 c G H σ ρ rfl rfl rp).sq, ?_⟩
  rw [List.length_map]
  exact k _ ρ G H _ h2 (Ex.refl G) rp (.int _)
/-- script[lo:hi] -/
def dSlS (i : Nat) (ol oh : DO) : DN := fun ρ Q => scr K ρ i fun ns => ol ρ fun lo ρ1 => oh ρ1 fun hi ρ2 => Q (cutD (ns.map PyData.int) lo hi) ρ2
theorem pn_slS (i : Nat) {lo hi : Option Expr} {ol oh : DO} (hl : POD X lo ol) (hh : POD X hi oh) (hN : X.N[i]? = some x := by rfl) (hv : Vis X.env.scope x := by first | exact Or.inl rfl | exact Or.inr (Or.inl rfl) | exact Or.inr (Or.inr rfl)) (hd : (x == ("__debug__" : Str)) = false := by decide)
    (hcd : (x == ("__classdict__" : Str)) = false := by decide) : PN X (.Subscript (.Name x p) (.Slice lo hi none p2) pos) (dSlS X.K i ol oh) := pe_imp (pe_slice sl_list (pe_var hN hv hd hcd) hl hh) fun σ H Q ⟨c, G, ρ, Q', rp, h, k⟩ => by
  obtain ⟨a, ns, h1, h2, h3⟩ := scr_some rp h
  refine ⟨_, h1, c, G, ρ, _, rp, h2, fun lo ρ1 G1 H1 q1 e1 r1 => ⟨c, G1, ρ1, _, r1, q1, fun hi ρ2 G2 H2 q2 e2 r2 => ?_⟩⟩
  exact ⟨_, _, rfl, (h3 c G2 H2 σ ρ2 rfl rfl r2).sq, fun p hp => k _ ρ2 G2 _ p _ q2 (e1.trans e2) (r2.pinN hp) (r2.free hp) ((rp_ints ns).cut lo hi)⟩
abbrev MS := List Int → List PyData → (PyData → Prop) → Prop
/-- the first argument the script -/
def spS (m : MS) : Sp := fun vs H Q _ => ∃ G a ws ns ds Q', vs = .ref a :: ws ∧ Ex G H ∧ ScrOk K H a ns ∧ RpAll G ws ds ∧ m ns ds Q' ∧ ∀ d G' H' v, Q' d → Fin ⟨G, H, [], []⟩ G' H' → Rp G' v d → Q v H'
def dCallS (m : MS) (i : Nat) (dd : List PyData) (da : DN) : DE := fun ρ Q => scr K ρ i fun ns => da ρ fun ds ρ1 => m ns (ds ++ dd) fun d => Q d ρ1
theorem pd_callS (i : Nat) {k : Nat} {f : Addr} {fd : FuncData} {ps : List Str} {dvs : List V} {ds : List Value} {dd : List PyData} {m : MS} (F : FnOk X.prog X.w X.K X.mg X.base CX0 k f fd ps (spS X.K m)) (hr : Room k X.A) (hm : X.mg x = some (.ref f)) (hk : PySem.W.keepIn X.K (.ref f) = true) (hb : Binds X.K fd ps ds) (hd : Vals dvs ds) (hdd : ∀ G, RpAll G dvs dd) (ha : PAD X es da)
    (hN : X.N[i]? = some y := by rfl) (hv : Vis X.env.scope y := by first | exact Or.inl rfl | exact Or.inr (Or.inl rfl) | exact Or.inr (Or.inr rfl)) (hdb2 : (y == ("__debug__" : Str)) = false := by decide) (hcd : (y == ("__classdict__" : Str)) = false := by decide)
    (hg : Gl X x := by rfl) (hdb : (x == ("__debug__" : Str)) = false := by decide) (he : starEach (.Name y p2 :: es) X.env = (false, eval (.Name y p2) X.env) :: starEach es X.env := by rfl) (hpl : (backTo pos (starEach es X.env)).any (·.1) = false := by rfl) :
    PD X (.Call (.Name x p) (.Name y p2 :: es) [] pos) (dCallS X.K m i dd da) := pe_imp (pe_call F hr hg hm hk hb hd pass0 (pa_cons (pe_var hN hv hdb2 hcd) ha he) hdb he hpl) fun σ H Q ⟨c, G, ρ, Q', rp, h, kk⟩ => by
  obtain ⟨a, ns, h1, h, h3⟩ := scr_some rp h
  refine ⟨_, h1, c, G, ρ, _, rp, h, fun xs ρ1 G1 H1 vs q1 e1 r1 hx => ?_⟩
  refine ⟨G1, a, vs ++ dvs, ns, xs ++ dd, _, rfl, r1.gh, h3 c G1 H1 σ ρ1 rfl rfl r1, hx.app (hdd G1), q1, fun d G' H' v q2 fi hv => ?_⟩
  obtain ⟨e2, r2⟩ := r1.called fi
  exact kk d ρ1 G' H' v q2 (e1.trans e2) r2 hv
def startS (N : List Str) (ns : List Int) (ds : List PyData) : Rho := .scr K ns :: (ds.map Sl.val ++ List.replicate (N.length - (ds.length + 1)) Sl.no)
theorem rep_startS {G H : Hp} {a : Addr} {vs : List V} {ns : List Int} {ds : List PyData} {N : List Str} (e : Ex G H) (hs : ScrOk K H a ns) (h : RpAll G vs ds) : Rep ⟨G, H, [], []⟩ G (start N (.ref a :: vs)) H (startS K N ns ds) where
  toFin := fin_refl e
  len := by
    unfold L2.start startS
    rw [List.length_append, List.length_cons, List.length_append, List.length_map, List.length_map, List.length_replicate, List.length_replicate, List.length_cons, h.len]
    omega
  ok := fun i s q => by
    cases i with
    | zero =>
      have e := Option.some.inj q
      subst e
      exact ⟨a, rfl, hs.elim (fun ⟨o, z⟩ => .inl ⟨o, z, fun y => nomatch y⟩) .inr⟩
    | succ i =>
      have q : (ds.map Sl.val ++ List.replicate (N.length - (ds.length + 1)) Sl.no)[i]? = some s := q
      cases s with
      | no => trivial
      | val d =>
        obtain ⟨v, d', h1, h2, h3⟩ := vals_at (m := N.length - (V.ref a :: vs).length) h q (fun z => nomatch z)
        cases h2
        exact ⟨v, h1, h3⟩
      | _ => obtain ⟨v, d', h1, h2, h3⟩ := vals_at (m := 0) h q (fun z => nomatch z); cases h2
  sep := fun i j s t hij h1 h2 m1 m2 => by
    exfalso
    cases i with
    | zero =>
      have e := Option.some.inj h1
      rw [← e] at m1
      cases m1
    | succ i =>
      have h1 : (ds.map Sl.val ++ List.replicate (N.length - (ds.length + 1)) Sl.no)[i]? = some s := h1
      obtain ⟨v, d', _, h2, _⟩ := vals_at (m := 0) h h1 (fun z => by rw [z] at m1; cases m1)
      rw [h2] at m1
      cases m1
  pins := fun q hq => by cases hq
theorem fn_S {P : Program} {w : World} {mg : Str → Option Value} {base : Heap} {x qual : Str} {params : Arguments} {body : List Stmt} {scope : Scope} {dvs : List V} {kws : List (Str × V)} {f : Addr} {fd : FuncData} {N ps : List Str} {k : Nat} {bd : DS} {m : MS}
    (F : FunD K x qual params body scope dvs kws f fd) (S : FnScope N ps scope) (hl : ∀ ns xs Q, m ns xs Q → xs.length + 1 = ps.length)
    (hbody : ∀ (cdv : Value) (A : Around) (outer : List Env) (s : Shared) (H : Hp) (E : XK), Room k (A.deeper (envOfC qual scope s.heap.objs.size f cdv)) → PSsD (cxOf CX0 P w K mg base N qual scope f cdv A outer s H E).nox body bd)
    (hm : ∀ ns xs Q, m ns xs Q → bd { nx := fun _ => Q .none, rt := fun _ d _ => Q d } (startS K N ns xs)) : FnOk P w K mg base CX0 (k + 1) f fd ps (spS K m) :=
  F.ok S (fun vs H Q E ⟨G, a, ws, ns, ds, Q', e1, _, _, h, hq, _⟩ => by rw [e1, List.length_cons, h.len]; exact hl ns ds Q' hq) fun cdv A outer s H vs Q E hr ⟨G, a, ws, ns, ds, Q', e1, e, hs, h, hq, kk⟩ => by
    subst e1
    exact ⟨_, (hbody cdv A outer s H E hr).nox, ⟨G, H, [], []⟩, G, startS K N ns ds, _, rep_startS K e hs h, hm ns ds Q' hq, ⟨fun σ G' H' ρ q _ r => kk _ G' H' _ q r.toFin .non, fun σ G' H' ρ _ d v q _ r hv _ => kk d G' H' v q r.toFin hv, fun _ _ _ _ q _ _ => q.elim, fun _ _ _ _ q _ _ => q.elim⟩⟩
end
/-! ### the law's own def: for purse in ..: ..; return True -/
def onlyR (n i : Nat) (ns : List Int) : Rho := (List.replicate n Sl.no).set i (.pur (ns.map PyData.int))
def purAt (n i : Nat) (ok : List Int → Prop) : Rho → Prop := fun ρ => ρ.length = n ∧ ∃ ns : List Int, ρ[i]? = some (.pur (ns.map PyData.int)) ∧ ok ns
def dLaw (n i : Nat) (db : DS) : PyData → Prop := fun d => ∃ (ok : Nat → List Int → Prop) (pss : List (List Int)), d = .list (pss.map fun ns => .list (ns.map .int)) ∧ (∀ ns ∈ pss, ok 0 ns) ∧ (∀ t ns, ok t ns → ns ≠ [] ∧ ok (t + 1) ns) ∧
  ∀ t ns, t < pss.length → ok t ns → db { nx := purAt n i (ok (t + 1)), ct := purAt n i (ok (t + 1)), bk := fun _ => False, rt := fun _ _ _ => False } (onlyR n i ns)
def nilH : Hp := fun _ => none
theorem rp_lists {G : Hp} : ∀ {vs : List V} {pss : List (List Int)}, RpAll G vs (pss.map fun ns => .list (ns.map .int)) → ∀ v ∈ vs, ∃ a ns, v = .ref a ∧ G a = some (.lst (ns.map V.int)) ∧ ns ∈ pss
  | _, [], h, v, hv => by cases h; cases hv
  | _, ns :: r, h, v, hv => by
    cases h with
    | cons h1 h2 =>
      rcases List.mem_cons.mp hv with rfl | hv
      · cases h1 with
        | lst q1 q2 =>
          rw [RpAll.ints q2] at q1
          exact ⟨_, ns, rfl, q1, List.mem_cons_self⟩
      · obtain ⟨a, ms, z1, z2, z3⟩ := rp_lists h2 v hv
        exact ⟨a, ms, z1, z2, List.mem_cons_of_mem _ z3⟩
theorem rep_only {H : Hp} {a : Addr} {σ : L2.St} {i : Nat} {ns : List Int} (ha : H a = some (.lst (ns.map V.int))) (hi : σ[i]? = some (some (.ref a))) : Rep ⟨nilH, H, [a], []⟩ nilH σ H (onlyR σ.length i ns) where
  toFin := fin_refl fun _ _ h => nomatch h
  len := by unfold onlyR; rw [List.length_set, List.length_replicate]
  ok := fun j s hs => by
    rcases get_set hs with ⟨rfl, rfl, _⟩ | ⟨_, hs⟩
    · exact ⟨a, _, hi, ha, rp_ints ns, rfl, List.mem_singleton.mpr rfl⟩
    · rw [List.getElem?_replicate] at hs
      split at hs
      · cases hs; trivial
      · cases hs
  sep := fun j l s t hjl h1 h2 m1 m2 => by
    rcases get_set h1 with ⟨rfl, rfl, _⟩ | ⟨_, h1⟩
    · rcases get_set h2 with ⟨rfl, rfl, _⟩ | ⟨_, h2⟩
      · exact absurd rfl hjl
      · rw [List.getElem?_replicate] at h2
        split at h2
        · cases h2; cases m2
        · cases h2
    · rw [List.getElem?_replicate] at h1
      split at h1
      · cases h1; cases m1
      · cases h1
  pins := fun q hq => by cases hq
def tLaw (n i : Nat) (de : DE) (db : DS) : TS := fun D σ H => (∃ c G ρ, Rep c G σ H ρ ∧ de ρ fun d _ => dLaw n i db d) ∧ σ.length = n ∧ ∀ H', D.rt (.bl true) H'
theorem pss_law {X : Cx} (i n : Nat) {x : Str} {iter : Expr} {body : List Stmt} {px pos p3 p2 : Pos} {j : Nat} {de : DE} {db : DS} (hp : PassesOwn (model X.prog X.w) X.A X.env X.xe) (hc : X.calm = true) (hN : X.N.Nodup) (hi : PD X iter de) (hb : PSsD X body db) (hin : i < n := by decide)
    (hx : X.N[i]? = some x := by rfl) (hl : Loc X.env.scope x := by first | exact Or.inl rfl | exact Or.inr rfl) (hf : X.fn x = true ∨ X.env.scope.names.lookup x = some .local := by first | exact .inl rfl | exact .inr rfl) (hs : ∀ z, foldedSetIterable iter X.env z = pure z := by intro _; rfl) :
    PSs X [.For (.Name x px) iter body [] pos, .Return (some (.Constant (.bool true) j p2)) p3] (tLaw n i de db) :=
  pss_imp (pss_cons (ps_for hp hc (pi_list hi) (pg_name hN hx hl hf) hb hs) (pss_one (ps_ret pe_bl))) fun D σ H ⟨⟨c, G, ρ, r, h⟩, ln, fin⟩ => by
    show ∃ c G ρ Q', _
    refine ⟨c, G, ρ, _, r, h, fun d ρ1 G1 H1 v q1 e1 r1 hv => ?_⟩
    obtain ⟨ok, pss, rfl, hok, hne, step⟩ := q1
    cases hv with
    | @lst p refs _ g1 g2 =>
      refine ⟨p, rfl, ⟨_, SqL.of (r1.gh _ _ g1)⟩, ?_⟩
      have e0 := rp_lists g2
      refine for_it (walk_list (a := p) (xs := refs)) (fun t σ' H' => σ'.length = n ∧ H' p = some (.lst refs) ∧ ∀ u ∈ refs, ∃ a ns, u = .ref a ∧ H' a = some (.lst (ns.map V.int)) ∧ ok t ns) ⟨ln, r1.gh _ _ g1, fun u hu => ?_⟩ (fun _ σ' H' _ z => SqL.of z.2.1) (fun t y σ' H' H'' ht z hy => ?_) (fun σ' H' z => ?_)
      · obtain ⟨a, ns, z1, z2, z3⟩ := e0 u hu
        exact ⟨a, ns, z1, r1.gh _ _ z2, hok ns z3⟩
      · obtain ⟨rfl, hy⟩ := hy
        obtain ⟨z0, z1, z2⟩ := z
        obtain ⟨a, ns, rfl, k1, k2⟩ := z2 y (List.mem_of_getElem? hy)
        have rr := rep_only (σ := σ'.set i (some (.ref a))) (i := i) k1 (List.getElem?_set_self (by rw [z0]; exact hin))
        rw [List.length_set, z0] at rr
        have keep : ∀ σ3 G3 H3 ρ3, purAt n i (ok (t + 1)) ρ3 → Rep ⟨nilH, H'', [a], []⟩ G3 σ3 H3 ρ3 → σ3.length = n ∧ H3 p = some (.lst refs) ∧ ∀ u ∈ refs, ∃ b ms, u = .ref b ∧ H3 b = some (.lst (ms.map V.int)) ∧ ok (t + 1) ms := by
          intro σ3 G3 H3 ρ3 ⟨l0, ms, m1, m2⟩ r3
          have l3 := r3.len.symm.trans l0
          obtain ⟨a', xs, n1, n2, n3, n4, n5⟩ := r3.ok i _ m1
          have ea : a' = a := List.mem_singleton.mp n5
          subst ea
          rw [RpAll.ints n3] at n2
          have pa : p ≠ a' := fun w => by
            rw [w, k1] at z1
            cases ns with
            | nil => exact (hne _ _ k2).1 rfl
            | cons s rs =>
              have := Option.some.inj z1
              injection this with this
              rw [← this] at hy
              have hm := List.mem_of_getElem? hy
              obtain ⟨q, _, hq⟩ := List.mem_map.mp hm
              cases hq
          refine ⟨l3, r3.hh p _ z1 (fun w => pa (List.mem_singleton.mp w)), fun u hu => ?_⟩
          obtain ⟨b, ls, u1, u2, u3⟩ := z2 u hu
          by_cases w : b = a'
          · subst w
            exact ⟨b, ms, u1, n2, m2⟩
          · exact ⟨b, ls, u1, r3.hh b _ u2 (fun y => w (List.mem_singleton.mp y)), (hne _ _ u3).2⟩
        refine ⟨_, nilH, _, _, rr, step t ns (by have := g2.len; rw [List.length_map] at this; omega) k2, ⟨?_, ?_, ?_, ?_⟩⟩
        · exact fun σ3 G3 H3 ρ3 m _ r3 => keep σ3 G3 H3 ρ3 m r3
        · exact fun σ3 G3 H3 ρ3 nn d v m _ r3 _ _ => m.elim
        · exact fun σ3 G3 H3 ρ3 m _ r3 => m.elim
        · exact fun σ3 G3 H3 ρ3 m _ r3 => keep σ3 G3 H3 ρ3 m r3
      · exact fin _
end DL

set_option Elab.async false
set_option linter.all false
set_option maxRecDepth 100000
set_option maxHeartbeats 1000000
/-! DL9: the end of a law whose def is told with no guard about. -/
namespace DL
open PySem L2 Evl PyProof.Rows RZ PySem.Spec PySem.W

/-- what a law promises of a script -/
def spL (K : PySem.W.Frag) (n : Nat) : Sp := fun vs H Q _ => ∃ a ns, vs = [.ref a] ∧ ScrOk K H a ns ∧ (∀ z ∈ ns, Builtin.Int.intBits z ≤ 1048576) ∧ ns.length ≤ n ∧ ∀ H', Q (.bl true) H'
theorem ran_G {P : Program} {w : World} {mg mb : Str → Option Value} {k n : Nat} {K : PySem.W.Frag} {fa a : Addr} {fd : FuncData} {x : Str} {s1 : Shared} {H : Hp} {its : List Value} {ns : List Int}
    (KX : K.In s1.heap) (hns : s1.heap.Ns mainGlobals mg) (hb : s1.heap.Ns builtinsNs mb) (hbb : ∀ x : Str, x ≠ "__name__" → mb x = bootBuiltins x) (hlim : s1.heap.NoLimit) (hg : s1.gens = #[])
    (ha : s1.heap.get? a = some { cls := .type "list", data := .seq its.toArray }) (hr : Room k callerA) (hbind : ∀ (s : Shared) (u : Value), BindsTo s fd ⟨[u], []⟩ [(x, u)])
    (F : ∀ base : Heap, K.In base → base.Ns mainGlobals mg → FnG P w K mg base k fa fd [x] (spL K n))
    (hO : ∀ b, H b = none ∨ (b = a ∧ K.lookup a = none ∧ H a = some (.frz { cls := .type "list", data := .seq its.toArray } (.lst (ns.map V.int)))))
    (hS : ScrOk K H a ns) (hok : HOk P w H s1.heap) (hbits : ∀ z ∈ ns, Builtin.Int.intBits z ≤ 1048576) (hl : ns.length ≤ n) :
    codeAny (model P w) callerA (.call (.ref fa) ⟨[.ref a], []⟩) (fun r s' => r = .ok (.ret (.bool true)) ∧ OldK s1.heap s'.heap ∧ s'.os = s1.os ∧ AllBare s'.gens) s1 := by
  have untouched : ∀ {b : Addr} {o : Obj}, s1.heap.get? b = some o → (b ≠ a ∨ K.lookup a ≠ none) → H b = none := fun {b o} _ h => by
    rcases hO b with z | ⟨z1, z2, _⟩
    · exact z
    · exact h.elim (fun y => absurd z1 y) fun y => absurd z2 y
  have notList : ∀ {b : Addr} {o : Obj} {es : Array DictEntry} {ep : Nat}, s1.heap.get? b = some o → o.data = .dict es ep → b ≠ a := fun {b o es ep} e d z => by
    rw [z, ha] at e
    cases e
    have d2 : Data.seq its.toArray _ = Data.dict es ep := d
    cases d2
  have ns_hid : ∀ {b : Addr} {m : Str → Option Value}, s1.heap.Ns b m → (hidT s1.heap H).Ns b m := fun {b m} ⟨o, es, ep, e, d, r⟩ => ⟨o, es, ep, hidT_get e (untouched e (.inl (notList e d))), d, r⟩
  have kin : K.In (hidT s1.heap H) := fun b o e => hidT_get (KX b o e) (untouched (KX b o e) (by
    by_cases z : b = a
    · subst z
      exact .inr (by rw [e]; exact fun y => nomatch y)
    · exact .inl z))
  have env : Env0 P w K mg (hidT s1.heap H) callerA [] s1 H := by
    refine ⟨rfl, ⟨kin, ns_hid hns, ⟨mb, ns_hid hb, hbb⟩, ?_⟩, fun b o e => of_hidT e, Nat.le_of_eq (hidT_size _ _), trivial, fun b hb => (nomatch hb), hok, .of_eq hg⟩
    obtain ⟨mc, h1, h2⟩ := hlim
    exact ⟨mc, ns_hid h1, h2⟩
  have go := (F _ kin (ns_hid hns)).run callerA [] s1 H ⟨[.ref a], []⟩ [.ref a] [.ref a] (fun v _ => v = .bl true) (fun _ _ _ => False) rfl hr env (hbind s1 _) (.cons rfl .nil) ⟨a, ns, rfl, hS, hbits, hl, fun _ => rfl⟩
  refine codeAny_mono go fun r s2 z => ?_
  match r, z with
  | .error _, z => exact z.elim
  | .ok (.ret u), ⟨v, H2, os, bare, un, hok2, rv, q⟩ =>
    have q : v = .bl true := q
    rw [q] at rv
    have rv : u = Value.bool true := rv
    refine ⟨by rw [rv], OldK.of_keep fun b o e => ?_, os, bare⟩
    rcases hO b with y | ⟨y1, _, y2⟩
    · exact un.keep b o e y (fun w => nomatch w) (fun w => nomatch w)
    · subst y1
      obtain ⟨e2, _⟩ := hok2 b _ (un.frzs b _ _ y2)
      rw [ha] at e
      cases e
      exact e2
/-- the goal that the head leaves -/
theorem walk_G {l : PySem.W.OpenLaw} {n k : Nat} {q : Program} {loose : List Str} {XP : (Str → Option Value) → Heap → Prop} {YP : World → Heap → Prop} {d : DefRec} {K : Params → PySem.W.Frag} {x : Str}
    (hn : l.most = some n) (hn2 : n ≤ sizeLine) (hdf : d.params.defaults = []) (hr : Room k callerA) (hY : ∀ (w : World) (h : Heap), YP w h → (K w.params).In h)
    (F : ∀ (w : World) (mg : Str → Option Value) (fa : Addr) (h : Heap), (K w.params).In h → h.Ns mainGlobals mg → mg d.name = some (.ref fa) →
      ∃ fd : FuncData, (∀ (s : Shared) (u : Value), BindsTo s fd ⟨[u], []⟩ [(x, u)]) ∧ ∀ base : Heap, (K w.params).In base → base.Ns mainGlobals mg → FnG l.prog w (K w.params) mg base k fa fd [x] (spL (K w.params) n)) :
    PySem.W.WalkO q loose XP YP l.row.toRowW d [] (fun f vs => PySem.call f vs) :=
  Att.attach_callB hn hdf fun w s0 s1 mg mb fa o pm cd doc a vs ns G Y ho hd hcd hmg hobj hints hlen hbits hg => by
    have KX := hY w _ Y
    obtain ⟨fd, hb, hF⟩ := F w mg fa _ KX G.T.g hmg
    have rv := vals_ints hints
    have hz : (ns.map V.int).length ≤ sizeLine := by rw [List.length_map]; exact Nat.le_trans hlen hn2
    cases hk : (K w.params).lookup a with
    | some ob =>
      have e := KX a ob hk
      rw [hobj] at e
      cases e
      refine ran_G (H := fun _ => none) (ns := ns) KX G.T.g G.T.b G.T.builtins G.T.nolimit hg hobj hr hb hF (fun b => .inl rfl) (.inr fun H' => .inr ⟨_, vs.toArray, _, hk, rfl, rfl, rfl, ?_, by simpa using rv⟩) (fun b u z => nomatch (show (none : Option HO) = some u from z)) hbits hlen
      rw [List.size_toArray, hints.length]
      exact Nat.le_trans hlen hn2
    | none =>
      refine ran_G (H := fun b => if b = a then some (.frz { cls := .type "list", data := .seq vs.toArray } (.lst (ns.map V.int))) else none) (ns := ns) KX G.T.g G.T.b G.T.builtins G.T.nolimit hg hobj hr hb hF (fun b => ?_) (.inl ⟨_, if_pos rfl⟩) (fun b u z => ?_) hbits hlen
      · by_cases y : b = a
        · exact .inr ⟨y, hk, if_pos rfl⟩
        · exact .inl (if_neg y)
      · by_cases y : b = a
        · have z2 := (if_pos y).symm.trans z
          cases z2
          subst y
          exact ⟨hobj, hz, vs, _, rv, hobj⟩
        · have z2 := (if_neg y).symm.trans z
          cases z2
end DL

set_option Elab.async false
set_option linter.all false
set_option maxRecDepth 100000
set_option maxHeartbeats 1000000
/-! DL10: what is told is spoilt. -/
namespace DL
open PySem L2 Evl PyProof.Rows RZ

mutual
theorem TrS.lists {G : Hp} : ∀ (d : PyData) (v : V) (S : List Addr), TrS G v d S → ∀ a ∈ S, ∃ ys, G a = some (.lst ys)
  | .none, _, _, h, a, ha => by cases h; cases ha
  | .bool b, _, _, h, a, ha => by cases h; cases ha
  | .int i, _, _, h, a, ha => by cases h; cases ha
  | .str x, _, _, h, a, ha => by cases h; cases ha
  | .list ds, _, _, h, a, ha => by
    cases h with
    | lst h1 h2 =>
      rcases List.mem_append.mp ha with ha | ha
      · exact TrSAll.lists ds _ _ h2 a ha
      · rw [List.mem_singleton.mp ha]
        exact ⟨_, h1⟩
  | .tuple ds, _, _, h, a, ha => by
    cases h with
    | tup h1 h2 => exact TrSAll.lists ds _ _ h2 a ha
  | .dict _, _, _, h, _, _ => nomatch h
theorem TrSAll.lists {G : Hp} : ∀ (ds : List PyData) (vs : List V) (S : List Addr), TrSAll G vs ds S → ∀ a ∈ S, ∃ ys, G a = some (.lst ys)
  | [], _, _, h, a, ha => by cases h; cases ha
  | d :: ds, _, _, h, a, ha => by
    cases h with
    | cons h1 h2 =>
      rcases List.mem_append.mp ha with ha | ha
      · exact TrS.lists d _ _ h1 a ha
      · exact TrSAll.lists ds _ _ h2 a ha
end
theorem TrSAll.len {G : Hp} : ∀ {vs : List V} {ds : List PyData} {S : List Addr}, TrSAll G vs ds S → vs.length = ds.length
  | _, _, _, .nil => rfl
  | _, _, _, .cons _ t => by rw [List.length_cons, List.length_cons, TrSAll.len t]
theorem TrSAll.at {G : Hp} : ∀ {vs : List V} {ds : List PyData} {S : List Addr} {i : Nat} {v : V}, TrSAll G vs ds S → vs[i]? = some v → ∃ d S1 S2 S3, d ∈ ds ∧ S = S1 ++ (S2 ++ S3) ∧ TrS G v d S2 ∧ TrSAll G (vs.take i) (ds.take i) S1 ∧ TrSAll G (vs.drop (i + 1)) (ds.drop (i + 1)) S3
  | _, _, _, i, _, .nil, h => by simp at h
  | _, _, _, 0, _, .cons (S := S) (T := T) r t, h => by
    have e := Option.some.inj h
    subst e
    exact ⟨_, [], S, T, List.mem_cons_self, rfl, r, .nil, t⟩
  | _, _, _, i + 1, _, .cons (S := S) (T := T) r t, h => by
    obtain ⟨d, S1, S2, S3, h1, h2, h3, h4, h5⟩ := TrSAll.at (i := i) t (by simpa using h)
    exact ⟨d, S ++ S1, S2, S3, List.mem_cons_of_mem _ h1, by rw [h2, List.append_assoc], h3, .cons r h4, h5⟩
/-- only the lists of S have changed, and they are lists still -/
structure Chg (H H' : Hp) (S : List Addr) : Prop where
  keep : ∀ x o, H x = some o → x ∉ S → H' x = some o
  lst : ∀ x ∈ S, ∃ ys, H' x = some (.lst ys)
theorem Chg.trans {H H1 H2 : Hp} {S T : List Addr} (a : Chg H H1 S) (b : Chg H1 H2 T) (n : ∀ x ∈ S, x ∉ T) : Chg H H2 (S ++ T) where
  keep := fun x o h m => b.keep x o (a.keep x o h fun z => m (List.mem_append_left _ z)) fun z => m (List.mem_append_right _ z)
  lst := fun x h => by
    rcases List.mem_append.mp h with h | h
    · obtain ⟨ys, e⟩ := a.lst x h
      exact ⟨ys, b.keep x _ e (n x h)⟩
    · exact b.lst x h
theorem Chg.of {H H' : Hp} (e : Ex H H') : Chg H H' [] := ⟨fun x o h _ => e x o h, fun x h => nomatch h⟩
def spoS (n : Nat) : Sp := fun vs H Q _ => ∃ G v d S, vs = [v] ∧ Ex G H ∧ TrS G v d S ∧ S.Nodup ∧ fitD n d = true ∧ ∀ H', Chg H H' S → Q .non H'
def moreS : Str := PySem.Str.ofString "MORE"
/-- isinstance(thing, list), whatever has changed below -/
def tI3 (K : PySem.W.Frag) : TT := tB (tCB (rIsi K) (tCons (tVar 0) (tCons (tC (.ty "list")) tNil)))
def tSpo (K : PySem.W.Frag) (n : Nat) : TS := tSeq (tIfS (tT (dB (dIs1 "dict" (dRd 0)))) tNever tNext)
 (tSeq (tIfS (tT (dB (dIsTs ["list", "tuple"] (dRd 0)))) (tFor (fun σ H R => iList K (tVar 0) σ H R ∨ iTup K (tVar 0) σ H R) (gName 2) (tDrop (tCall (spoS n) [] E0 (tCons (tVar 2) tNil)))) tNext)
  (tIfS (tI3 K) (tDrop (tBM K "list" rAppend (tVar 0) (tCons (tC (.str moreS)) tNil))) tNext))
/-- the turns -/
theorem spo_loop {n : Nat} {G H : Hp} {xs : List V} {ds : List PyData} {S : List Addr} {J : It} {Gd : Hp → Prop} {D : Ends} {σ : L2.St} {v : V} (w : Walk J xs.length Gd (YAt xs)) (e : Ex G H) (tr : TrSAll G xs ds S) (nd : S.Nodup) (fit : fitAll n ds = true)
    (hG : ∀ H', (∀ x o, H x = some o → x ∉ S → H' x = some o) → Gd H') (l : σ.length = 3) (h0 : σ[0]? = some (some v)) (nx : ∀ σ' H', σ'.length = 3 → σ'[0]? = some (some v) → Chg H H' S → D.nx σ' H') :
    ∃ W : Nat → Nat → L2.St → Hp → Prop, (∃ m, W 0 m σ H) ∧ ∀ i m σ H, W i m σ H →
      (J.stop i H ∧ D.nx σ H) ∨ (J.go i H ∧ ∃ N : L2.St → Hp → Prop, (∀ σ' H', N σ' H' → ∃ m', m' < m ∧ W (i + 1) m' σ' H') ∧ ∀ x H', J.yld i H x H' → gName 2 x σ H' fun σ2 H2 => (tDrop (tCall (spoS n) [] E0 (tCons (tVar 2) tNil))) { D with nx := N, ct := N, bk := D.nx } σ2 H2) := by
  refine for_it w (fun i σ' H' => σ'.length = 3 ∧ σ'[0]? = some (some v) ∧ ∃ A B, S = A ++ B ∧ Chg H H' A ∧ TrSAll G (xs.drop i) (ds.drop i) B) ⟨l, h0, [], S, rfl, Chg.of (Ex.refl H), tr⟩ (fun i σ' H' _ ⟨_, _, A, B, es, ch, _⟩ => hG H' fun x o h m => ch.keep x o h fun z => m (by rw [es]; exact List.mem_append_left _ z)) (fun i x σ' H' H'' hi p y => ?_) (fun σ' H' p => ?_)
  · obtain ⟨rfl, hy⟩ := y
    obtain ⟨p1, p2, A, B, es, ch, tB⟩ := p
    have hy0 : (xs.drop i)[0]? = some x := by rw [List.getElem?_drop]; exact hy
    obtain ⟨d, S1, S2, S3, hd, eB, t2, t1, t3⟩ := tB.at hy0
    have e1 : S1 = [] := by
      rw [List.take_zero] at t1
      cases t1
      rfl
    subst e1
    rw [List.nil_append] at eB
    subst eB
    subst es
    have hdd : d ∈ ds := List.mem_of_mem_drop hd
    show ∃ v, _
    refine ⟨x, ?_, ?_⟩
    · exact List.getElem?_set_self (by rw [p1]; decide)
    have disA : ∀ a ∈ A, a ∉ S2 := fun a h1 h2 => (List.nodup_append.mp nd).2.2 a h1 a (List.mem_append_left _ h2) rfl
    refine ⟨fun y => if y ∈ A then none else G y, x, d, S2, rfl, fun y o h => ?_, ?_, ?_, fitAll_mem fit d hdd, fun H3 c3 => ?_⟩
    · by_cases z : y ∈ A
      · have h : (if y ∈ A then none else G y) = some o := h
        rw [if_pos z] at h; cases h
      · have h : (if y ∈ A then none else G y) = some o := h
        rw [if_neg z] at h
        exact ch.keep y o (e y o h) z
    · refine TrS.to d x S2 t2 (fun a ys h => ?_) fun a ha o h => ?_
      · show (if a ∈ A then none else G a) = _
        rw [if_neg ?_]
        · exact h
        · intro z
          obtain ⟨zs, hz⟩ := TrSAll.lists _ _ _ tr a (List.mem_append_left _ z)
          rw [h] at hz
          cases hz
      · show (if a ∈ A then none else G a) = _
        rw [if_neg fun z => disA a z ha]
        exact h
    · exact (List.nodup_append.mp ((List.nodup_append.mp nd).2.1)).1
    · refine ⟨by rw [List.length_set]; exact p1, by rw [List.getElem?_set_ne (by decide)]; exact p2, A ++ S2, S3, by rw [List.append_assoc], ch.trans c3 disA, ?_⟩
      rw [List.drop_drop, List.drop_drop] at t3
      exact t3
  · obtain ⟨p1, p2, A, B, es, ch, tB⟩ := p
    rw [List.drop_length] at tB
    cases hB : ds.drop xs.length with
    | nil =>
      rw [hB] at tB
      cases tB
      rw [List.append_nil] at es
      subst es
      exact nx σ' H' p1 p2 ch
    | cons _ _ =>
      rw [hB] at tB
      cases tB
theorem isT_dict {G : Hp} {v : V} {d : PyData} {S : List Addr} (h : TrS G v d S) : isT d "dict" = false := by
  cases d with
  | dict _ => nomatch h
  | _ => rfl
theorem spo_goal {K : PySem.W.Frag} {n : Nat} {N : List Str} (hN : N.length = 3) {vs : List V} {H : Hp} {Q : VK} {E : XK} (h : spoS (n + 1) vs H Q E) : tSpo K n { nx := fun _ H' => Q .non H', rt := Q } (start N vs) H := by
  obtain ⟨G, v, d, S, rfl, e, tr, nd, fit, kq⟩ := h
  have es : start N [v] = [some v, Option.none, Option.none] := by
    unfold L2.start
    rw [hN]
    rfl
  have r0 : Rep ⟨G, H, [], []⟩ G (start N [v]) H (startR N [d]) := rep_start e (.cons (TrS.rp d v S tr) .nil)
  have er : startR N [d] = [.val d, .no, .no] := by
    unfold startR
    rw [hN]
    rfl
  rw [es] at r0 ⊢
  rw [er] at r0
  show tT _ _ _ _
  refine ⟨_, G, _, fun b _ => b = false, r0, isT_dict tr, fun b ρ1 G1 H1 q1 e1 r1 => ?_⟩
  subst q1
  have h01 : Ex H H1 := fun a o z => r1.hh a o z (fun y => nomatch y)
  show tT _ _ _ _
  have r1 : Rep ⟨G, H1, [], []⟩ G [some v, Option.none, Option.none] H1 [.val d, .no, .no] := by
    have := rep_start (N := N) (e.trans h01) (.cons (TrS.rp d v S tr) .nil)
    rw [es, er] at this
    exact this
  refine ⟨_, G, _, fun b _ => b = (isT d "list" || (isT d "tuple" || false)), r1, rfl, fun b ρ2 G2 H2 q2 e2 r2 => ?_⟩
  have h12 : Ex H1 H2 := fun a o z => r2.hh a o z (fun y => nomatch y)
  have eH2 : Ex G H2 := (e.trans h01).trans h12
  -- the last test and what it leads to
  have last : ∀ {σ : L2.St} {Hm : Hp}, σ.length = 3 → σ[0]? = some (some v) → ∀ S' : List Addr, Chg H2 Hm S' → ((isT d "list" = false ∧ S = S') ∨ ∃ a xs, v = .ref a ∧ isT d "list" = true ∧ S = S' ++ [a] ∧ G a = some (.lst xs) ∧ a ∉ S' ∧ xs.length ≤ 100000) →
      (tIfS (tI3 K) (tDrop (tBM K "list" rAppend (tVar 0) (tCons (tC (.str moreS)) tNil))) tNext) { nx := fun _ H' => Q .non H', rt := Q } σ Hm := by
    intro σ Hm lσ hσ S' ch cs
    have rd0 : Rv G H v d := .inl (TrS.rp d v S tr)
    have ty : TyX K Hm v (.type (kindD d)) := by
      cases tr with
      | non => exact .base .non
      | bl b => exact .base (.bl b)
      | int i => exact .base (.int i)
      | str x => exact .base (.str x)
      | @lst a xs ds T g1 g2 =>
        rcases cs with ⟨z, _⟩ | ⟨a', xs', z1, z2, z3, z4, z5, _⟩
        · cases z
        · cases z1
          exact .base (.lst (ch.keep a _ (eH2 _ _ z4) z5))
      | @tup a xs ds T g1 g2 =>
        rcases cs with ⟨_, z⟩ | ⟨a', xs', z1, z2, z3, z4, z5, _⟩
        · subst z
          refine .base (.tup (ch.keep a _ (eH2 _ _ g1) fun m => ?_))
          obtain ⟨ys, hy⟩ := TrSAll.lists _ _ _ g2 a m
          rw [g1] at hy
          cases hy
        · cases z2
    show tI3 K _ _ _
    refine ⟨v, hσ, v, .ty "list", _, _, _, rfl, .ty "list", ty, kit_is (T := "list") (by decide) rd0, _, rfl, ?_⟩
    rcases cs with ⟨z, zs⟩ | ⟨a, xs, z1, z2, z3, z4, z5, z6⟩
    · rw [z]
      rw [if_neg (by decide)]
      show Q .non Hm
      refine kq Hm ⟨fun x o hx m => ch.keep x o (h12 _ _ (h01 _ _ hx)) (by rw [← zs]; exact m), fun x hx => ch.lst x (by rw [← zs]; exact hx)⟩
    · rw [z2]
      rw [if_pos rfl]
      have k1 := ch.keep a _ (eH2 _ _ z4) z5
      subst z1
      refine ⟨.ref a, hσ, Or.inl ⟨rfl, xs, SqL.of k1⟩, a, xs, _, rfl, rfl, k1, Nat.lt_of_le_of_lt z6 (by unfold sizeLine; decide), ?_⟩
      show Q .non _
      refine kq _ ⟨fun x o hx m => ?_, fun x hx => ?_⟩
      · rw [z3] at m
        rw [upd_ne fun y => m (List.mem_append_right _ (List.mem_singleton.mpr y))]
        exact ch.keep x o (h12 _ _ (h01 _ _ hx)) fun y => m (List.mem_append_left _ y)
      · rw [z3] at hx
        by_cases y : x = a
        · rw [y]
          exact ⟨_, upd_same⟩
        · rcases List.mem_append.mp hx with hx | hx
          · rw [upd_ne y]
            exact ch.lst x hx
          · exact absurd (List.mem_singleton.mp hx) y
  subst q2
  show (if _ = true then (_ : Prop) else _)
  have l3 : ([some v, Option.none, Option.none] : L2.St).length = 3 := rfl
  cases tr with
  | non => 
    rw [if_neg (fun z => nomatch z)]
    exact last (σ := [some _, Option.none, Option.none]) rfl rfl [] (Chg.of (Ex.refl H2)) (.inl ⟨rfl, rfl⟩)
  | bl b => 
    rw [if_neg (fun z => nomatch z)]
    exact last (σ := [some _, Option.none, Option.none]) rfl rfl [] (Chg.of (Ex.refl H2)) (.inl ⟨rfl, rfl⟩)
  | int i => 
    rw [if_neg (fun z => nomatch z)]
    exact last (σ := [some _, Option.none, Option.none]) rfl rfl [] (Chg.of (Ex.refl H2)) (.inl ⟨rfl, rfl⟩)
  | str x => 
    rw [if_neg (fun z => nomatch z)]
    exact last (σ := [some _, Option.none, Option.none]) rfl rfl [] (Chg.of (Ex.refl H2)) (.inl ⟨rfl, rfl⟩)
  | @lst a xs ds T g1 g2 =>
    have f1 : (decide (ds.length ≤ 100000) && fitAll n ds) = true := by unfold fitD at fit; exact fit
    rw [Bool.and_eq_true, decide_eq_true_eq] at f1
    have nd1 := List.nodup_append.mp nd
    have na : a ∉ T := fun z => nd1.2.2 a z a (List.mem_singleton.mpr rfl) rfl
    rw [if_pos (by rfl)]
    refine .inl ⟨.ref a, rfl, a, rfl, ⟨xs, SqL.of (eH2 _ _ g1)⟩, ?_⟩
    refine spo_loop (S := T) walk_list eH2 g2 nd1.1 f1.2 (fun H' k => SqL.of (k a _ (eH2 _ _ g1) na)) rfl rfl fun σ' H' l' h' c' => ?_
    exact last l' h' T c' (.inr ⟨a, xs, rfl, rfl, rfl, g1, na, by rw [g2.len]; exact f1.1⟩)
  | @tup a xs ds T g1 g2 =>
    have f1 : (decide (ds.length ≤ 100000) && fitAll n ds) = true := by unfold fitD at fit; exact fit
    rw [Bool.and_eq_true, decide_eq_true_eq] at f1
    have na : a ∉ S := fun m => by
      obtain ⟨ys, hy⟩ := TrSAll.lists _ _ _ g2 a m
      rw [g1] at hy
      cases hy
    rw [if_pos (by rfl)]
    refine .inr ⟨.ref a, rfl, a, rfl, ⟨xs, SqT.of (eH2 _ _ g1)⟩, ?_⟩
    refine spo_loop (S := S) walk_tup eH2 g2 nd f1.2 (fun H' k => SqT.of (k a _ (eH2 _ _ g1) na)) rfl rfl fun σ' H' l' h' c' => ?_
    exact last l' h' S c' (.inl ⟨rfl, rfl⟩)

/-! ### the block: told = ..; if ..: return False; _law_spoilt(told) -/
def toBas : Sl → Sl
  | .val d => .bas d
  | _ => .no
def unBas : Sl → Sl
  | .bas d => .val d
  | _ => .no
theorem unBas_mt (s : Sl) : (unBas s).mt = false := by cases s <;> rfl
theorem rep_nest {c : Co} {G H : Hp} {σ : L2.St} {ρ : Rho} (r : Rep c G σ H ρ) : Rep ⟨G, H, [], []⟩ G σ H (ρ.map toBas) where
  toFin := fin_refl r.gh
  len := by rw [List.length_map, r.len]
  ok := fun i s h => by
    rw [List.getElem?_map] at h
    cases q : ρ[i]? with
    | none => rw [q] at h; cases h
    | some t =>
      rw [q] at h
      cases h
      have o := r.ok i t q
      cases t with
      | val d => exact o
      | _ => trivial
  sep := fun i j s t hij h1 h2 m1 m2 => by
    rw [List.getElem?_map] at h1
    cases q : ρ[i]? with
    | none => rw [q] at h1; cases h1
    | some u =>
      rw [q] at h1
      cases h1
      cases u <;> cases m1
  pins := fun q hq => nomatch hq
theorem rep_back {c : Co} {G H G2 H2 H3 : Hp} {σ σ2 : L2.St} {ρ ρ2 : Rho} {S : List Addr} (r : Rep c G σ H ρ) (r2 : Rep ⟨G, H, [], []⟩ G2 σ2 H2 ρ2) (ch : Chg H2 H3 S) (new : ∀ a ∈ S, H a = none) : Rep c G σ2 H3 (ρ2.map unBas) := by
  have up : Ex H H3 := fun a o h => ch.keep a o (r2.hh a o h (fun z => nomatch z)) fun z => by rw [new a z] at h; cases h
  refine ⟨⟨r.g0, r.fr, r.gh.trans up, fun a o h1 h2 => up _ _ (r.hh a o h1 h2), fun a h z => ?_⟩, by rw [List.length_map, r2.len], fun i s h => ?_, fun i j s t _ h1 _ m1 _ => ?_, fun q hq => ?_⟩
  · cases y : H a with
    | none => exact r.dom a h y
    | some o => rw [up a o y] at z; cases z
  · rw [List.getElem?_map] at h
    cases q : ρ2[i]? with
    | none => rw [q] at h; cases h
    | some t =>
      rw [q] at h
      cases h
      have o := r2.ok i t q
      cases t with
      | bas d => exact o
      | _ => trivial
  · rw [List.getElem?_map] at h1
    cases q : ρ2[i]? with
    | none => rw [q] at h1; cases h1
    | some u =>
      rw [q] at h1
      cases h1
      rw [unBas_mt] at m1
      cases m1
  · obtain ⟨h1, h2, _⟩ := r.pins q hq
    refine ⟨up _ _ h1, h2, fun i s h m => ?_⟩
    rw [List.getElem?_map] at h
    cases y : ρ2[i]? with
    | none => rw [y] at h; cases h
    | some u =>
      rw [y] at h
      cases h
      rw [unBas_mt] at m
      cases m
def dBlk (i n : Nat) (db dr : DS) : DS := fun D ρ => db { nx := fun ρ2 => ∃ d, ρ2[i]? = some (.tld d) ∧ fitD n d = true ∧ dr D (ρ2.map unBas), rt := fun _ _ _ => False, bk := fun _ => False, ct := fun _ => False } (ρ.map toBas)
section
variable {X : Cx} {s3 s4 : Stmt} {e5 : Expr} {p5 : Pos} {rest : List Stmt} {d3 d4 dr : DS}
theorem pssd_blk2 (i n : Nat) (h3 : PSD X s3 d3) (h4 : PSD X s4 d4) (h5 : PE X e5 (tCall (spoS n) [] E0 (tCons (tVar i) tNil))) (hr : PSsD X rest dr) (hs : swapsWith e5 none p5.line X.env = pure false := by rfl) :
    PSsD X (s3 :: s4 :: .Expr e5 p5 :: rest) (dBlk i n (dSeq d3 d4) dr) := pss_imp (pss_cons h3 (pss_cons h4 (pss_cons (ps_expr h5 hs) hr))) fun D σ H ⟨c, G, ρ, D', r, h, k⟩ => by
  refine ⟨_, G, _, _, rep_nest r, h, ⟨fun σ1 G1 H1 ρ1 q1 e1 r1 => ?_, fun _ _ _ _ _ _ _ z => z.elim, fun _ _ _ _ z => z.elim, fun _ _ _ _ z => z.elim⟩⟩
  refine ⟨_, G1, ρ1, _, r1, q1, ⟨fun σ2 G2 H2 ρ2 q2 e2 r2 => ?_, fun _ _ _ _ _ _ _ z => z.elim, fun _ _ _ _ z => z.elim, fun _ _ _ _ z => z.elim⟩⟩
  obtain ⟨d, hi, fit, q⟩ := q2
  obtain ⟨v, S, hv, tr, nd, new⟩ := r2.ok i _ hi
  refine ⟨v, hv, G2, v, d, S, rfl, r2.gh, tr, nd, fit, fun H3 ch => ?_⟩
  exact ⟨c, G, _, D', rep_back r r2 ch new, q, k⟩
end
/-- a slot gets data of its own -/
theorem Rep.setS {c : Co} {G H : Hp} {σ : L2.St} {ρ : Rho} (r : Rep c G σ H ρ) {i : Nat} {v : V} {s : Sl} (m : s.mt = false) (h : SlOk c G H (some (some v)) s) : Rep c G (σ.set i (some v)) H (ρ.set i s) where
  toFin := r.toFin
  len := by rw [List.length_set, List.length_set, r.len]
  ok := fun j t hs => by
    rcases get_set hs with ⟨rfl, rfl, hi⟩ | ⟨hj, hs⟩
    · rw [List.getElem?_set_self (by rw [← r.len]; exact hi)]
      exact h
    · rw [set_at hj]
      exact r.ok j t hs
  sep := fun j l s' t hjl h1 h2 m1 m2 => by
    rcases get_set h1 with ⟨_, rfl, _⟩ | ⟨hj, h1⟩
    · rw [m] at m1; cases m1
    · rcases get_set h2 with ⟨_, rfl, _⟩ | ⟨hl, h2⟩
      · rw [m] at m2; cases m2
      · rw [set_at hj, set_at hl]
        exact r.sep j l s' t hjl h1 h2 m1 m2
  pins := fun q hq => by
    obtain ⟨h1, h2, h3⟩ := r.pins q hq
    refine ⟨h1, h2, fun j t hs mt => ?_⟩
    rcases get_set hs with ⟨_, rfl, _⟩ | ⟨hj, hs⟩
    · rw [m] at mt; cases mt
    · rw [set_at hj]
      exact h3 j t hs mt
/-- told = [a new list of what has no list in it, what has no list in it] -/
def dTld2 (i : Nat) (da db : DE) : DS := fun D ρ => da ρ fun d1 ρ1 => db ρ1 fun d2 ρ2 => ∃ ts, d1 = .list ts ∧ inertAll ts = true ∧ inert d2 = true ∧ D.nx (ρ2.set i (.tld (.list [d1, d2])))
theorem psd_tld2 {X : Cx} (i : Nat) {x : Str} {p pos lpos : Pos} {e1 e2 : Expr} {da db : DE} (hN : X.N.Nodup) (ha : PF X e1 da) (hb : PD X e2 db) (hi : X.N[i]? = some x := by rfl) (hx : Loc X.env.scope x := by first | exact Or.inl rfl | exact Or.inr rfl) (hs : swapsWith (.List [e1, e2] lpos) (some (.Name x p)) pos.line X.env = pure false := by rfl) (hf : X.fn x = true ∨ X.env.scope.names.lookup x = some .local := by first | exact .inl rfl | exact .inr rfl)
    (hs1 : starEach [e1, e2] X.env = (false, eval e1 X.env) :: starEach [e2] X.env := by rfl) (hs2 : starEach [e2] X.env = (false, eval e2 X.env) :: starEach [] X.env := by rfl) :
    PSD X (.Assign [.Name x p] (.List [e1, e2] lpos) pos) (dTld2 i da db) := ps_imp (ps_set hN hi hx (pe_lst (pa_cons ha (pa_cons hb pa_nil hs2) hs1)) hs hf) fun D σ H ⟨c, G, ρ, D', r, h, k⟩ => by
  refine ⟨c, G, ρ, _, r, h, fun d1 ρ1 G1 H1 v1 q1 f1 r1 h1 new1 => ⟨c, G1, ρ1, _, r1, q1, fun d2 ρ2 G2 H2 v2 q2 f2 r2 h2 => ⟨sz_of (by decide : 2 ≤ 100000), fun a ap => ?_⟩⟩⟩
  obtain ⟨ts, rfl, i1, i2, q⟩ := q2
  have e3 : Ex G2 (upd G2 a (.lst [v1, v2])) := Ex.new (none_up r2.gh ap)
  have r3 := r2.new (o := .lst [v1, v2]) ap
  cases h1 with
  | @lst b ys _ g1 g2 =>
    have hb : H2 b = some (.lst ys) := r2.gh _ _ (f2 _ _ g1)
    have nb : b ≠ a := fun z => by rw [z, ap] at hb; cases hb
    have fr : c.H0 a = none := (r2.free ap).1
    refine k.nx _ _ _ _ q ((f1.trans f2).trans e3) (r3.setS rfl ⟨.ref a, _, rfl, .lst upd_same (.cons (.lst (e3 _ _ (f2 _ _ g1)) (inert_trAll ts ys (g2.up (f2.trans e3)) i1)) (.cons (inert_tr d2 v2 (h2.up e3) i2) .nil)), ?_, fun y hy => ?_⟩)
    · show ([b, a] : List Addr).Nodup
      exact List.nodup_cons.mpr ⟨fun z => nb (List.mem_singleton.mp z), List.nodup_cons.mpr ⟨(fun z => (nomatch z)), List.nodup_nil⟩⟩
    · have hy : y ∈ [b, a] := hy
      rcases List.mem_cons.mp hy with rfl | hy
      · exact (new1 _ rfl).1
      · rw [List.mem_singleton.mp hy]
        exact fr
end DL

set_option Elab.async false
set_option linter.all false
set_option maxRecDepth 100000
set_option maxHeartbeats 1000000
/-! DL11: small things for the printed texts. -/
namespace DL
open PySem L2 Evl PyProof.Rows RZ
theorem u1 {k : Nat} {A : Around} (r : Room k A) : A.units + 1 < cLine := by have := r.un; omega
theorem u65 {k : Nat} {A : Around} (r : Room k A) : A.units + 65 < cLine := by have := r.un; omega
section
variable {X : Cx} {a b : Expr} {pos : Pos} {de : DE} {op : CmpOp}
theorem ptd_pc (h : PC X op a b (tD de)) (h1 : behindInMarks op b = false := by first | exact nobehind _ (by decide) (by decide) | rfl) : PTD X (.Compare a [op] [b] pos) (dB de) := pt_imp (pt_cmp h h1) fun _ _ _ h => tb_core h
theorem pd_pc (h : PC X op a b (tD de)) (h1 : behindInMarks op b = false := by first | exact nobehind _ (by decide) (by decide) | rfl) : PD X (.Compare a [op] [b] pos) de := pe_cmp h h1
end
theorem spo0 {P : Program} {w : World} {K : PySem.W.Frag} {mg : Str → Option Value} {base : Heap} {x qual : Str} {params : Arguments} {body : List Stmt} {scope : Scope} {dvs : List V} {kws : List (Str × V)} {f : Addr} {fd : FuncData} {N : List Str} {p : Str} {k : Nat} (F : FunD K x qual params body scope dvs kws f fd) (S : FnScope N [p] scope) : FnOk P w K mg base CX0 (k + 1) f fd [p] (spoS 0) :=
  F.ok S (fun vs H Q E ⟨_, _, _, _, h, _⟩ => by rw [h]; rfl) fun cdv A outer s H vs Q E hr ⟨_, _, d, _, _, _, _, _, h, _⟩ => by
    unfold fitD at h
    cases h
theorem spo1 {P : Program} {w : World} {K : PySem.W.Frag} {mg : Str → Option Value} {base : Heap} {x qual : Str} {params : Arguments} {body : List Stmt} {scope : Scope} {dvs : List V} {kws : List (Str × V)} {f : Addr} {fd : FuncData} {N : List Str} {p : Str} {k n : Nat} (F : FunD K x qual params body scope dvs kws f fd) (S : FnScope N [p] scope) (hN : N.length = 3)
    (hb : ∀ (cdv : Value) (A : Around) (outer : List Env) (s : Shared) (H : Hp) (E : XK), Room k (A.deeper (envOfC qual scope s.heap.objs.size f cdv)) → PSs (cxOf CX0 P w K mg base N qual scope f cdv A outer s H E).nox body (tSpo K n)) : FnOk P w K mg base CX0 (k + 1) f fd [p] (spoS (n + 1)) :=
  F.ok S (fun vs H Q E ⟨_, _, _, _, h, _⟩ => by rw [h]; rfl) fun cdv A outer s H vs Q E hr h => ⟨_, (hb cdv A outer s H E hr).nox, spo_goal hN h⟩
/-- from the law's own def -/
theorem law_D {P : Program} {w : World} {K : PySem.W.Frag} {mg : Str → Option Value} {base : Heap} {x qual : Str} {params : Arguments} {body : List Stmt} {scope : Scope} {kws : List (Str × V)} {f : Addr} {fd : FuncData} {N : List Str} {p : Str} {k n i mst : Nat} {de : DE} {db : DS} (F : FunD K x qual params body scope [] kws f fd) (S : FnScope N [p] scope) (hN : N.length = n)
    (hb : ∀ (cdv : Value) (A : Around) (outer : List Env) (s : Shared) (H : Hp) (E : XK), A.guards = some [] → Room k (A.deeper (envOfC qual scope s.heap.objs.size f cdv)) → PSs (cxOf CX0 P w K mg base N qual scope f cdv A outer s H E).nox body (tLaw n i de db))
    (hm : ∀ ns : List Int, ns.length ≤ mst → (∀ z ∈ ns, Builtin.Int.intBits z ≤ 1048576) → de (startS K N ns []) fun d _ => dLaw n i db d) : FnG P w K mg base (k + 1) f fd [p] (spL K mst) :=
  okG F S (fun vs H Q E ⟨_, _, h, _⟩ => by rw [h]; rfl) fun cdv A outer s H vs Q E hg hr ⟨a, ns, e1, hs, hbits, hl, q⟩ => by
    subst e1
    refine ⟨_, hb cdv A outer s H E hg hr, ⟨⟨nilH, H, [], []⟩, nilH, _, rep_startS K (fun _ _ z => nomatch z) hs .nil, hm ns hl hbits⟩, ?_, q⟩
    unfold L2.start
    rw [List.length_append, List.length_map, List.length_replicate, hN]
    have : [p].length ≤ N.length := by
      have := congrArg List.length S.pre
      rw [List.length_take] at this
      omega
    rw [hN] at this
    simp at this ⊢
    omega
/-- the end's premise, from the facts of the top -/
theorem end_F {P : Program} {w : World} {K : PySem.W.Frag} {mg : Str → Option Value} {f : Addr} {fd : FuncData} {p x qual : Str} {params : Arguments} {body : List Stmt} {scope : Scope} {k n : Nat} {kws : List (Str × V)} (F : FunD K x qual params body scope [] kws f fd)
    (hb : Binds K fd [p] []) (h : ∀ base : Heap, K.In base → base.Ns mainGlobals mg → FnG P w K mg base k f fd [p] (spL K n)) (hk : ∀ (s : Shared) (u : Value), BindsTo s fd ⟨[u], []⟩ [(p, u)]) :
    ∃ fd : FuncData, (∀ (s : Shared) (u : Value), BindsTo s fd ⟨[u], []⟩ [(p, u)]) ∧ ∀ base : Heap, K.In base → base.Ns mainGlobals mg → FnG P w K mg base k f fd [p] (spL K n) := ⟨fd, hk, h⟩
theorem rep_two {c : Co} {G H : Hp} {σ : L2.St} {ρ : Rho} {i j : Nat} {p q : Addr} {xs : List V} {ds : List PyData} (r2 : Rep { c with pin := (q, .lst xs) :: (p, .dK []) :: c.pin } G σ H ρ) (fp : freeAt c p) (f : freeAt { c with pin := (p, .dK []) :: c.pin } q) (hx : RpAll G xs ds) :
    Rep c G ((σ.set i (some (.ref p))).set j (some (.ref q))) H ((ρ.set i (.dic [])).set j (.own ds)) := by
  have a1 := r2.pins (q, .lst xs) List.mem_cons_self
  have a2 := r2.pins (p, .dK []) (List.mem_cons_of_mem _ List.mem_cons_self)
  have hpq : p ≠ q := f.2 (p, .dK []) List.mem_cons_self
  have r3 : Rep { c with pin := (p, .dK []) :: (q, .lst xs) :: c.pin } G σ H ρ := by
    refine ⟨⟨r2.g0, r2.fr, r2.gh, r2.hh, r2.dom⟩, r2.len, fun i s h => ?_, r2.sep, fun z hz => ?_⟩
    · have := r2.ok i s h
      cases s <;> exact this
    · rcases List.mem_cons.mp hz with rfl | hz
      · exact a2
      · rcases List.mem_cons.mp hz with rfl | hz
        · exact a1
        · exact r2.pins z (List.mem_cons_of_mem _ (List.mem_cons_of_mem _ hz))
  have r4 := Rep.setM (c := { c with pin := (q, .lst xs) :: c.pin }) (i := i) r3 (s := .dic []) rfl ⟨p, [], rfl, a2.1, .nil, a2.2.1, fp.1⟩ fun z hz => by
    rcases List.mem_cons.mp hz with rfl | hz
    · exact fun y => hpq y.symm
    · exact fp.2 z hz
  exact Rep.setM (c := c) r4 (s := .own ds) rfl ⟨q, xs, rfl, a1.1, hx, a1.2.1, f.1⟩ fun z hz => f.2 z (List.mem_cons_of_mem _ hz)
theorem psd_unpDN {X : Cx} (i j : Nat) {e2 : Expr} {dn : DN} {x y : Str} {px py pt pd pos : Pos} {kt k2 pt2} (hc : X.calm = true) (hN : X.N.Nodup) (hb : PN X e2 dn) (hi : X.N[i]? = some x := by rfl) (hj : X.N[j]? = some y := by rfl)
    (hx : Loc X.env.scope x := by first | exact Or.inl rfl | exact Or.inr rfl) (hy : Loc X.env.scope y := by first | exact Or.inl rfl | exact Or.inr rfl) (hfx : X.fn x = true ∨ X.env.scope.names.lookup x = some .local := by first | exact .inl rfl | exact .inr rfl) (hfy : X.fn y = true ∨ X.env.scope.names.lookup y = some .local := by first | exact .inl rfl | exact .inr rfl) (hs1 : starEach [.Dict [] [] pd, e2] X.env = (false, eval (.Dict [] [] pd) X.env) :: starEach [e2] X.env := by rfl) (hs2 : starEach [e2] X.env = (false, eval e2 X.env) :: starEach [] X.env := by rfl)
    (hw : swappedStores [.Tuple [.Name x px, .Name y py] kt pt] (.Tuple [.Dict [] [] pd, e2] k2 pt2) X.env = pure none := by rfl) (hs : swapsWithSole [.Tuple [.Name x px, .Name y py] kt pt] (.Tuple [.Dict [] [] pd, e2] k2 pt2) pos.line X.env = pure false := by rfl)
    (h1 : (assignEach [.Tuple [.Name x px, .Name y py] kt pt] X.env).map (·.2) = [assign (.Tuple [.Name x px, .Name y py] kt pt) X.env] := by rfl) (h2 : (assignEach [.Name x px, .Name y py] X.env).map (·.2) = assign (.Name x px) X.env :: (assignEach [.Name y py] X.env).map (·.2) := by rfl) (h3 : (assignEach [.Name y py] X.env).map (·.2) = assign (.Name y py) X.env :: (assignEach [] X.env).map (·.2) := by rfl)
    (hn : (assignEach [.Name x px, .Name y py] X.env).length = 2 := by rfl) (hst : (assignEach [.Name x px, .Name y py] X.env).findIdx? (·.1) = none := by rfl) :
    PSD X (.Assign [.Tuple [.Name x px, .Name y py] kt pt] (.Tuple [.Dict [] [] pd, e2] k2 pt2) pos) (dParDN i j dn) := ps_imp (ps_asg (pe_tup (pa_cons pe_dnewK (pa_cons hb pa_nil hs2) hs1)) (pg_tup hc (pgs_cons (pg_name hN hi hx hfx) (pgs_cons (pg_name hN hj hy hfy) pgs_nil h3) h2) hn hst) hs hw h1) fun D σ H ⟨c, G, ρ, D', r, h, k⟩ => by
  intro p hp
  have r1 := r.pinN (o := .dK []) hp
  have fp := r.free hp
  refine ⟨_, G, ρ, _, r1, h, fun ds ρ1 G1 H1 q xs q1 f1 r2 f hx => ?_⟩
  refine ⟨sz_of (by decide : 2 ≤ 100000), fun t ht => ?_⟩
  refine ⟨t, _, rfl, SqT.of upd_same, rfl, _, _, rfl, _, _, rfl, rfl, ?_⟩
  exact k.nx _ G1 _ _ q1 f1 (rep_two (r2.newH ht) fp f hx)
end DL

set_option Elab.async false
set_option linter.all false
set_option maxRecDepth 100000
set_option maxHeartbeats 4000000
/-! DLSet: sorted(set(l)), l a list of ints. -/
namespace DL
open PySem PySem.Spec PyProof.Rows L2
abbrev bareSet (w : World) : Obj := { cls := .type "set", dict := none, data := .set #[] 0 (.fresh 0 0 (!w.params.followText "set-order")) }
section
variable {P : Program} {w : World} {A : Around} {E : Value → Shared → Prop} {s : Shared}
theorem set_of_list {l : Addr} {its : Array Value} (ns : List Int) {Q : Value → Shared → Prop} (hh : A.handled = none) (hl : s.heap.IsList l its) (hit : IntsAre its.toList ns) (hb : ns.length + 1 < scanBound)
    (fin : ∀ (h' : Heap) (tk c : Nat), SetR w h' s.heap.objs.size (fun j => decide (j ∈ ns)) c → c ≤ ns.length → (∀ b o, s.heap.get? b = some o → h'.get? b = some o) → Q (.ref s.heap.objs.size) { s with heap := h', toks := tk }) :
    wpAny (model P w) A (call (.type "set") [.ref l]) Q E s := by
  have size_its : its.size = ns.length := (Array.length_toList (xs := its)).symm.trans (IntsAre.length hit)
  obtain ⟨c, tl, mro⟩ := F.called_set.mro
  have f1 := F.called_set.made
  have f2 := F.called_set.sub
  have f3 := F.called_set.notType
  have f4 := F.called_set.canCreate
  have f5 := F.typeCall_set_1 (.ref l)
  refine wpAny_call (codeAny_of_tree ?_)
  show wpAny _ _ (callAny (.type "set") _) _ _ _
  refine wpAny_pure ⟨Code.quiet_builtin _ (by decide +kernel), codeAny_builtin F.entry_type_call ?_⟩
  rw [Around.under_plain (weight_type_call_type "set" [.ref l] []) rfl]
  repeat (any_goals (first | assumption | wp_step))
  refine codeAny_mono (code_set_led1 (.ref l) (E := E) (Q₁ := fun u s1 => u = .ref s.heap.objs.size ∧ s1 = { s with heap := s.heap.push (bareSet w) }) ⟨rfl, rfl⟩) fun r s1 hr => ?_
  cases r with
  | error e => exact hr
  | ok fl =>
    cases fl with
    | next => exact hr.elim
    | brk => exact hr.elim
    | cont => exact hr.elim
    | ret u =>
      obtain ⟨rfl, rfl⟩ := hr
      have g0 : (s.heap.push (bareSet w)).get? s.heap.objs.size = some (bareSet w) := Heap.get?_push_size _ rfl
      have hT : Shared.TypeIs { s with heap := s.heap.push (bareSet w) } (.ref s.heap.objs.size) "set" := ⟨_, g0, rfl⟩
      have f6 := F.called_set.init.lookup
      have f7 := F.called_set.init.bind (.ref s.heap.objs.size)
      repeat (any_goals (first | assumption | wp_step))
      refine codeAny_mono (codeAny_call_builtin (R := wants (fun r s2 => r = .none ∧ ∃ h' tk c, s2 = { s with heap := h', toks := tk } ∧ SetR w h' s.heap.objs.size (fun j => decide (j ∈ ns)) c ∧ c ≤ ns.length ∧
          (∀ b o, s.heap.get? b = some o → h'.get? b = some o)) E) F.called_set.init.plain F.entry_set_init (check_set_init_1 hT ?_)) fun r2 s2 hr2 => ?_
      · obtain ⟨⟨k1, k2, k3, k4⟩, lo, lc, n, ld⟩ := hl
        simp only at lc ld
        subst lc
        subst ld
        have lo1 : (s.heap.push (bareSet w)).get? l = some { cls := .type "list", dict := k2, data := .seq its n, slots := k4 } := Heap.get?_push_of_some _ lo
        have il : (s.heap.push (bareSet w)).IsList l its := ⟨_, lo1, rfl, n, rfl⟩
        have f8 := F.sub_list_set
        have f9 := F.sub_list_frozenset
        have f10 : (Value.type "list" == Value.type "dict") = false := by decide
        have sz : (s.heap.push (bareSet w)).objs.size = s.heap.objs.size + 1 := Heap.size_push ..
        have below : l < s.heap.objs.size := Heap.lt_size lo
        unfold Builtin.«set.__init__» noKeywords Builtin.Frozenset.updateFrom
        generalize hPI : pyIter = PI
        wp_walk
        subst hPI
        refine wpAny_pyIter_list il ?_
        refine wpAny_bind (wpAny_runValue ?_)
        have quiet : A.in1.in1.in1.handled = none := by simp [hh]
        have ne1 : l ≠ (s.heap.push (bareSet w)).objs.size := by rw [sz]; exact Nat.ne_of_lt (Nat.lt_succ_of_lt below)
        have out : s.heap.objs.size ∉ [(s.heap.push (bareSet w)).objs.size, l] := by
          rw [sz]
          simp only [List.mem_cons, List.not_mem_nil, or_false, not_or]
          exact ⟨Nat.ne_of_lt (Nat.lt_succ_self _), Nat.ne_of_gt below⟩
        refine set_update_ints ((Walks.list quiet _ l ne1 its).toS) s.heap.objs.size out ns size_its hb (fun i v hv => ?_) (its.size - 0) 0 _ (by omega) (Nat.zero_le _) ⟨⟨_, Heap.get?_push_size _ rfl, rfl, rfl⟩, (il.push _)⟩ ⟨0, Nat.le_refl 0, setR_new_at (Heap.get?_push_of_some _ g0)⟩ ?_
        · have hi : i < ns.length := by
            rw [← size_its]
            exact (Array.getElem?_eq_some_iff.mp hv).1
          obtain ⟨t, e⟩ := PyProof.Rows.IntsAre.int_at hit i v (by rw [Array.getElem?_toList]; exact hv)
          rw [List.getD_eq_getElem?_getD, List.getElem?_eq_getElem hi] at e
          exact ⟨ns[i], t, List.getElem?_eq_getElem hi, e⟩
        · intro s3 c3 moved c3le R3
          obtain ⟨h3, g3, d3, t3, o3⟩ := s3
          obtain rfl : g3 = s.gens := moved.gens
          obtain rfl : d3 = s.drawn := moved.drawn
          obtain rfl : o3 = s.os := moved.os
          refine wpAny_pure ?_
          show wpAny _ _ (ret Value.none) _ _ _
          refine wpAny_pure ⟨rfl, h3, t3, c3, rfl, R3, by rw [← size_its]; exact c3le, fun b o e => ?_⟩
          have lt := Heap.lt_size e
          refine moved.heap b o ?_ (Heap.get?_push_of_some _ (Heap.get?_push_of_some _ e))
          simp only [List.mem_cons, List.not_mem_nil, or_false, not_or]
          exact ⟨Nat.ne_of_lt lt, by rw [sz]; exact Nat.ne_of_lt (Nat.lt_succ_of_lt lt)⟩
      · cases r2 with
        | error e => exact hr2
        | ok fl2 =>
          cases fl2 with
          | ret r =>
            obtain ⟨rfl, h', tk, c', rfl, a1, a2, a3⟩ := hr2
            repeat (any_goals (first | assumption | wp_step))
            exact fin _ _ _ a1 a2 a3
          | _ => exact hr2.elim
end
/-- set(l) of a list of fewer than 4000 ints -/
def rSetLI (K : PySem.W.Frag) (w : World) : List V → Hp → VK → Prop := fun vs H Q => ∃ (a : Addr) (ns : List Int), vs = [V.ref a] ∧ SqL K H a (ns.map V.int) ∧ ns.length ≤ 4000 ∧ ∀ p c, H p = none → c ≤ ns.length → Q (.ref p) (upd H p (SetO w p (fun j => decide (j ∈ ns)) c))
theorem cr_setLI {X : Cx} (hc : X.calm = true) : CallR X (.type "set") (rSetLI X.K X.w) := by
  intro pins s σ H xs us Q I r h
  obtain ⟨a, ns, rfl, hs, hz, q⟩ := h
  obtain ⟨its, rv, hl, _⟩ := I.list hs
  rw [Vals.ref1 r]
  refine set_of_list (P := X.prog) (w := X.w) ns (I.ok.hd hc) hl.isList (by simpa using rv.ints) (by unfold scanBound; omega) fun h' tk c R hle k => ?_
  exact ⟨.ref s.heap.objs.size, upd H s.heap.objs.size (SetO X.w s.heap.objs.size (fun j => decide (j ∈ ns)) c), I.laid (t' := tk) k (Nat.le_refl _) (setO_new R), rfl, q _ c (I.hok.fresh (Nat.le_refl _)) hle⟩
end DL

set_option Elab.async false
set_option linter.all false
set_option maxRecDepth 100000
set_option maxHeartbeats 1000000
/-! DL12: sorting, ranges with a step, lists turned round, is of bools. -/
namespace DL
open PySem L2 Evl PyProof.Rows RZ

def pairI (p : Int × Int) : PyData := .tuple [.int p.1, .int p.2]
/-- sorted(l), l a list of pairs of ints -/
def fSortP : D1 := fun x Q => ∃ ps : List (Int × Int), x = .list (ps.map pairI) ∧ ∀ qs : List (Int × Int), qs.Perm ps → qs.Pairwise (fun p q => SrtO.lexB q p = false) → Q (.list (qs.map pairI))
/-- the pair at a value -/
def keyP (H : Hp) : V → Int × Int
  | .ref t => match H t with
    | some (.tup [.int i, .int j]) => (i, j)
    | _ => (0, 0)
  | _ => (0, 0)
theorem rp_pairs {G H : Hp} (e : Ex G H) : ∀ {xs : List V} {ps : List (Int × Int)}, RpAll G xs (ps.map pairI) → xs.map (keyP H) = ps ∧ ∀ x ∈ xs, ∃ t, x = .ref t ∧ G t = some (.tup [.int (keyP H x).1, .int (keyP H x).2])
  | _, [], h => by cases h; exact ⟨rfl, fun x hx => nomatch hx⟩
  | _, p :: ps, h => by
    cases h with
    | cons h1 h2 =>
      have ih := rp_pairs e h2
      cases h1 with
      | @tup a ys _ g1 g2 =>
        have ey : ys = [.int p.1, .int p.2] := by
          cases g2 with
          | cons a1 a2 =>
            cases a1
            cases a2 with
            | cons b1 b2 =>
              cases b1
              cases b2
              rfl
        subst ey
        have ek : keyP H (.ref a) = p := by
          show (match H a with | some (.tup [.int i, .int j]) => (i, j) | _ => (0, 0)) = p
          rw [e _ _ g1]
        refine ⟨by rw [List.map_cons, ek, ih.1], fun x hx => ?_⟩
        rcases List.mem_cons.mp hx with rfl | hx
        · exact ⟨a, rfl, by rw [ek]; exact g1⟩
        · exact ih.2 x hx
theorem rp_of_pairs {G : Hp} {k : V → Int × Int} : ∀ {ys : List V}, (∀ x ∈ ys, ∃ t, x = .ref t ∧ G t = some (.tup [.int (k x).1, .int (k x).2])) → RpAll G ys ((ys.map k).map pairI)
  | [], _ => .nil
  | y :: ys, h => by
    obtain ⟨t, e1, e2⟩ := h y List.mem_cons_self
    refine .cons ?_ (rp_of_pairs fun x hx => h x (List.mem_cons_of_mem _ hx))
    have : Rp G (.ref t) (pairI (k y)) := .tup e2 (.cons (.int _) (.cons (.int _) .nil))
    rw [← e1] at this
    exact this
section
variable {X : Cx}
theorem rc_sortP : RC1 (rSortedPO X.K) fSortP := fun G H v x Q Q' e hv ⟨ps, h1, h2⟩ k => by
  subst h1
  obtain ⟨l, xs, rfl, h3, h4⟩ := hv.lst e
  have z := rp_pairs e h4
  refine ⟨l, xs, keyP H, rfl, SqL.of h3, fun x hx => ?_, fun ys p sr st hp => ?_⟩
  · obtain ⟨t, e1, e2⟩ := z.2 x hx
    exact ⟨t, e1, e _ _ e2⟩
  · have hy : ∀ x ∈ ys, ∃ t, x = .ref t ∧ G t = some (.tup [.int (keyP H x).1, .int (keyP H x).2]) := fun x hx => z.2 x (st.perm.mem_iff.mp hx)
    have r := rp_of_pairs hy
    have pm : (ys.map (keyP H)).Perm ps := by
      have := st.perm.map (keyP H)
      rw [z.1] at this
      exact this
    refine k _ _ _ (.inr ⟨p, _, hp, rfl, rfl, .lst upd_same (r.up (Ex.new (none_up e hp)))⟩) (h2 _ pm ?_)
    rw [List.pairwise_map]
    exact sr
/-- sorted(l), l a list of ints -/
def fSortI : D1 := fun x Q => ∃ ns : List Int, x = .list (ns.map .int) ∧ ∀ ks : List Int, ks.Perm ns → ks.Pairwise (· ≤ ·) → Q (.list (ks.map .int))
theorem rc_sortI : RC1 (rSortedI X.K) fSortI := fun G H v x Q Q' e hv ⟨ns, h1, h2⟩ k => by
  subst h1
  obtain ⟨l, xs, rfl, h3, h4⟩ := hv.lst e
  have z := h4.ints
  subst z
  refine ⟨l, ns, rfl, SqL.of h3, fun ks p pm pw hp => ?_⟩
  exact k _ _ _ (.inr ⟨p, _, hp, rfl, rfl, .lst upd_same ((rp_ints ks).up (Ex.new (none_up e hp)))⟩) (h2 _ pm pw)
/-- sorted(set(l)), l a list of ints -/
def dSortSet (de : DE) : DE := fun ρ Q => de ρ fun x ρ1 => ∃ ns : List Int, x = .list (ns.map .int) ∧ ns.length < 64 ∧ ∀ ks : List Int, ks.Pairwise (· < ·) → (∀ k, k ∈ ks ↔ k ∈ ns) → Q (.list (ks.map .int)) ρ1
theorem pd_sortSet {e : Expr} {de : DE} {x y : Str} {p p2 pos pos2 : Pos} (hc : X.calm = true) (hm : X.mg x = none) (hm2 : X.mg y = none) (he : PD X e de) (hg : Gl X x := by rfl) (hv : bootBuiltins x = some (.builtin "sorted") := by decide +kernel) (hg2 : Gl X y := by rfl) (hv2 : bootBuiltins y = some (.type "set") := by decide +kernel) (hn : x ≠ "__name__" := by decide) (hdb : (x == ("__debug__" : Str)) = false := by decide) (hn2 : y ≠ "__name__" := by decide) (hdb2 : (y == ("__debug__" : Str)) = false := by decide)
    (hs : starEach [.Call (.Name y p2) [e] [] pos2] X.env = (false, eval (.Call (.Name y p2) [e] [] pos2) X.env) :: starEach [] X.env := by rfl) (hs2 : starEach [e] X.env = (false, eval e X.env) :: starEach [] X.env := by rfl) (hpl : (backTo pos (starEach [] X.env)).any (·.1) = false := by rfl) (hpl2 : (backTo pos2 (starEach [] X.env)).any (·.1) = false := by rfl) :
    PD X (.Call (.Name x p) [.Call (.Name y p2) [e] [] pos2] [] pos) (dSortSet de) := pe_imp (pe_callB (cr_sortedSet hc) hg hm hv (pa_cons (pe_callTy (cr_setLI hc) hg2 hm2 hv2 (pa_cons he pa_nil hs2) hn2 hdb2 hs2 hpl2) pa_nil hs) hn hdb hs hpl) fun σ H Q ⟨c, G, ρ, Q', rp, h, k⟩ => by
  refine ⟨c, G, ρ, _, rp, h, fun d ρ1 G1 H1 v q1 e1 r1 hx => ?_⟩
  obtain ⟨ns, rfl, hl, q⟩ := q1
  cases hx with
  | @lst a xs _ g1 g2 =>
    have z := g2.ints
    subst z
    refine ⟨a, ns, rfl, SqL.of (r1.gh _ _ g1), by omega, fun t n ht hle => ?_⟩
    refine ⟨t, _, n, rfl, upd_same, by omega, fun ks p' pw mem len hp' => ?_⟩
    have r2 := r1.newH (o := SetO X.w t (fun j => decide (j ∈ ns)) n) ht
    exact k _ ρ1 _ _ _ (q ks pw fun j => (mem j).trans decide_eq_true_iff) (e1.trans (Ex.new (none_up r2.gh hp'))) (r2.new hp') (.lst upd_same (rp_ints ks))
/-! ### range with a step -/
def stepD (lo c : Int) (n : Nat) : List PyData := (List.range n).map fun (i : Nat) => PyData.int (lo + (i : Int) * c)
theorem gives_step {G : Hp} {lo c : Int} {n : Nat} : Gives G (Itc lo c n) (stepD lo c n) := by
  have ln : (stepD lo c n).length = n := by unfold stepD; rw [List.length_map, List.length_range]
  refine ⟨fun _ => True, YFn fun i => .int (lo + (i : Nat) * c), by rw [ln]; exact walk_rangeC, fun _ _ => trivial, fun i H x H' d e y hd G1 e1 e2 => ?_⟩
  obtain ⟨rfl, rfl⟩ := y
  unfold stepD at hd
  rw [List.getElem?_map] at hd
  cases q : (List.range n)[i]? with
  | none => rw [q] at hd; cases hd
  | some j =>
    rw [q] at hd
    have hj : j = i := by
      obtain ⟨h1, h2⟩ := List.getElem?_eq_some_iff.mp q
      rw [List.getElem_range] at h2
      exact h2.symm
    subst hj
    cases hd
    exact .inl ⟨rfl, .int _⟩
def dRange3 (da db dc : DE) : DN := fun ρ Q => da ρ fun x ρ1 => db ρ1 fun y ρ2 => dc ρ2 fun z ρ3 => ∃ (i j c : Int) (n : Nat), x = .int i ∧ y = .int j ∧ z = .int c ∧ RgC i j c n ∧ Q (stepD i c n) ρ3
theorem pid_range3 {tg a b d : Expr} {p pos : Pos} {da db dc : DE} (hm : X.mg "range" = none) (ha : PD X a da) (hb : PD X b db) (hd : PD X d dc) (hg : Gl X "range" := by rfl) (hs : starEach [a, b, d] X.env = (false, eval a X.env) :: starEach [b, d] X.env := by rfl) (hs2 : starEach [b, d] X.env = (false, eval b X.env) :: starEach [d] X.env := by rfl) (hs3 : starEach [d] X.env = (false, eval d X.env) :: starEach [] X.env := by rfl) (hpl : (backTo pos (starEach [b, d] X.env)).any (·.1) = false := by rfl) :
    PID X tg (.Call (.Name "range" p) [a, b, d] [] pos) (dRange3 da db dc) := pi_imp (pi_range3 hg hm (pa_cons ha (pa_cons hb (pa_cons hd pa_nil hs3) hs2) hs) hs hpl) fun σ H R ⟨c, G, ρ, R', rp, h, k⟩ => by
  refine ⟨c, G, ρ, _, rp, h, fun x ρ1 G1 H1 v q1 e1 r1 hx => ?_⟩
  refine ⟨c, G1, ρ1, _, r1, q1, fun y ρ2 G2 H2 w q2 e2 r2 hy => ?_⟩
  refine ⟨c, G2, ρ2, _, r2, q2, fun z ρ3 G3 H3 u q3 e3 r3 hz => ?_⟩
  obtain ⟨i, j, st, n, rfl, rfl, rfl, hr, q⟩ := q3
  cases hx
  cases hy
  cases hz
  exact ⟨i, j, st, n, rfl, hr, k _ ρ3 G3 H3 _ q ((e1.trans e2).trans e3) r3 gives_step⟩
/-! ### is of bools -/
def fIsB : D2 := fun x y Q => ∃ a b : Bool, x = .bool a ∧ y = .bool b ∧ Q (.bool (decide (a = b)))
theorem ro_isB : ROp rIsB fIsB := fun G H v w x y Q Q' e hv hw ⟨a, b, h1, h2, h3⟩ k => by
  subst h1 h2
  exact ⟨a, b, hv.bl, hw.bl, k _ _ H (.inl ⟨rfl, .bl _⟩) h3⟩
end
end DL

set_option Elab.async false
set_option linter.all false
set_option maxRecDepth 100000
set_option maxHeartbeats 1000000
/-! DL13: l[::0 - 1]; told = [new, new]; keyword calls whose result is new. -/
namespace DL
open PySem L2 Evl PyProof.Rows RZ
section
variable {X : Cx}
/-- l[::st], st comes to -1 -/
def tBack (K : PySem.W.Frag) (te : TE) : TE := fun σ H Q => te σ H fun x H1 => ∃ a xs, x = .ref a ∧ SqL K H1 a xs ∧ ∀ p, H1 p = none → Q (.ref p) (upd H1 p (.lst xs.reverse))
theorem pe_back {e st : Expr} {te : TE} {p3 pos : Pos} (he : PE X e te) (hst : PO X (some st) (fun _ H R => R (some (-1)) H)) : PE X (.Subscript e (.Slice none none (some st) p3) pos) (tBack X.K te) := ⟨fun pins s σ H Q I h => by
  refine Subscript_ (thn (he.run pins s σ H _ I h) fun v s1 ⟨x, H1, I1, r1, a, xs, ex, hx, q⟩ => ?_)
  subst ex
  obtain rfl : v = Value.ref a := r1
  refine wpAny_Slice (thn (po_none.run pins s1 σ H1 (fun o H2 => o = none ∧ H2 = H1) I1 ⟨rfl, rfl⟩) fun vl s2 ⟨l, H2, I2, pl, el, e2⟩ => ?_)
  subst el e2
  refine thn (po_none.run pins s2 σ H2 (fun o H3 => o = none ∧ H3 = H2) I2 ⟨rfl, rfl⟩) fun vu s3 ⟨u, H3, I3, pu, eu, e3⟩ => ?_
  subst eu e3
  refine thn (hst.run pins s3 σ H3 (fun o H4 => o = some (-1) ∧ H4 = H3) I3 ⟨rfl, rfl⟩) fun vs s4 ⟨o, H4, I4, ps, eo, e4⟩ => ?_
  subst eo e4
  have J : Inv X pins σ H4 { s4 with heap := s4.heap.push { cls := .type "slice", data := .fields #[vl, vu, vs] } } := I4.kept (t' := s4.toks) fun b ob q => Heap.get?_push_of_some _ q
  obtain ⟨its, r, il, hz⟩ := J.list hx
  have n := r.length
  refine tail_any (ops := [.ref a, .ref s4.heap.objs.size]) il.isList.typeIs (PySem.slot_list_getitem.lookup) ?_ (by with_unfolding_all rfl)
  refine wpAny_getItem_list_slice il.isList (Heap.IsSliceOf.new _ vl vu vs) pl pu ps (by decide) ?_ (by rw [List.size_toArray]; omega)
  rw [PySem.W.krv_pick]
  refine ⟨.ref _, _, J.laid (t' := s4.toks) (o := .lst xs.reverse) (fun b ob q => Heap.get?_push_of_some _ q) (Nat.le_refl _) ⟨by rw [List.length_reverse]; omega, _, 0, r.reverse, Heap.get?_push_size _ rfl⟩, rfl, q _ (J.hok.fresh (Nat.le_refl _))⟩⟩
end
section
variable {X : Cx}
theorem po_m1 {j k : Nat} {p1 p2 pos : Pos} : PO X (some (.BinOp (.Constant (.int 0) j p1) .Sub (.Constant (.int 1) k p2) pos)) (fun _ H R => R (some (-1)) H) := po_imp (po_some (pe_op op_sub pe_int pe_int)) fun σ H R h => ⟨0, 1, rfl, rfl, -1, rfl, h⟩
def dRevV (i : Nat) : DN := fun ρ Q => rd ρ i fun x => match x with
  | .list ds => Q ds.reverse ρ
  | _ => False
theorem pn_revV (i : Nat) {x : Str} {p p3 pos : Pos} {st : Expr} (hst : PO X (some st) (fun _ H R => R (some (-1)) H)) (hN : X.N[i]? = some x := by rfl) (hv : Vis X.env.scope x := by first | exact Or.inl rfl | exact Or.inr (Or.inl rfl) | exact Or.inr (Or.inr rfl)) (hd : (x == ("__debug__" : Str)) = false := by decide)
    (hcd : (x == ("__classdict__" : Str)) = false := by decide) : PN X (.Subscript (.Name x p) (.Slice none none (some st) p3) pos) (dRevV i) := pe_imp (pe_back (pe_var hN hv hd hcd) hst) fun σ H Q ⟨c, G, ρ, Q', rp, h, k⟩ => by
  obtain ⟨v, d, h1, h2, h3⟩ := rd_some rp h
  refine ⟨v, h1, ?_⟩
  cases d with
  | list ds =>
    obtain ⟨a, xs, rfl, g1, g2⟩ := h2.lst rp.gh
    exact ⟨a, xs, rfl, SqL.of g1, fun p hp => k _ ρ G _ p _ h3 (Ex.refl G) (rp.pinN hp) (rp.free hp) g2.rev⟩
  | _ => exact h3.elim
def dRev (de : DE) : DN := fun ρ Q => de ρ fun x ρ1 => match x with
  | .list ds => Q ds.reverse ρ1
  | _ => False
theorem pn_rev {e st : Expr} {de : DE} {p3 pos : Pos} (he : PD X e de) (hst : PO X (some st) (fun _ H R => R (some (-1)) H)) : PN X (.Subscript e (.Slice none none (some st) p3) pos) (dRev de) := pe_imp (pe_back he hst) fun σ H Q ⟨c, G, ρ, Q', rp, h, k⟩ => by
  refine ⟨c, G, ρ, _, rp, h, fun x ρ1 G1 H1 v q1 e1 r1 hx => ?_⟩
  cases hx with
  | lst g1 g2 => exact ⟨_, _, rfl, SqL.of (r1.gh _ _ g1), fun p hp => k _ ρ1 G1 _ p _ q1 e1 (r1.pinN hp) (r1.free hp) g2.rev⟩
  | _ => exact q1.elim
/-- a keyword call whose result is new -/
theorem pf_callK0 {k : Nat} {f : Addr} {fd : FuncData} {ps ks : List Str} {x : Str} {p pos : Pos} {m : M1} {ix : List Nat} {kws : List Keyword} {dk : DN} (F : FnOk X.prog X.w X.K X.mg X.base CX0 k f fd ps (spN m)) (hr : Room k X.A) (hm : X.mg x = some (.ref f)) (hk : PySem.W.keepIn X.K (.ref f) = true) (hb : KPick X.K fd ps ks 0 ix) (hkw : PKD X kws dk)
    (hall : (backToKw pos (keywordEach kws X.env)).all (·.1.isSome) = true := by rfl) (hks : (backToKw pos (keywordEach kws X.env)).filterMap (·.1) = ks := by rfl) (hg : Gl X x := by rfl)
    (hdb : (x == ("__debug__" : Str)) = false := by decide)
    (hpl : ((backTo pos (starEach [] X.env)).any (·.1) || (backToKw pos (keywordEach kws X.env)).any (·.1.isNone)) = false := by rfl) :
    PF X (.Call (.Name x p) [] kws pos) (dCallK m 0 ks.length ix daNil dk) := ⟨fun pins s σ H Q I ⟨c, G, ρ, Q', rp, h, kk⟩ => by
  have h : dk ρ fun es ρ2 => ([] : List PyData).length = 0 ∧ es.length = ks.length ∧ m (pick ix ([] ++ es)) fun d => Q' d ρ2 := h
  refine wpAny_Call_Name_kw (ld_glob I hg hm ?_ hdb)
  refine PySem.W.callWith_KW0 (h₀ := X.base) I.ok.mod.kin hk hall ?_ hpl
  refine thn (hkw.run pos pins s σ H (fun zs H2 => zs.length = ks.length ∧ spN m (pick ix ([] ++ zs)) H2 Q E0) I ⟨c, G, ρ, _, rp, h, fun zs ρ2 G2 H2 ws q2 e2 r2 hz => ⟨by rw [hz.len]; exact q2.2.1, G2, _, _, r2.gh, pick_rp hz, q2.2.2, fun d G' H' v q3 fi hv fr => ?_⟩⟩) fun ws s2 ⟨zs, H2, I2, rz, l2, q2⟩ => ⟨I2.kIn, ?_⟩
  · obtain ⟨e3, r3⟩ := r2.called fi
    refine kk d ρ2 G' H' v q3 (e2.trans e3) r3 hv fun a z => ?_
    have := fr a z
    constructor
    · cases q : c.H0 a with
      | none => rfl
      | some o => exact absurd this (r2.dom a (by rw [q]; exact fun z => nomatch z))
    · cases q : G a with
      | none => rfl
      | some o => rw [r2.gh a o (e2 a o q)] at this; cases this
  · rw [hks]
    exact run_fnN (n := 0) (g := fun us ws => pick ix (us ++ ws)) (gV := fun vs zs => pick ix (vs ++ zs)) F hr ⟨hb, fun r rz => pick_vals (r.append rz)⟩ pass0 I2 .nil rz rfl l2 q2⟩
/-- told = [a new list, another] -/
def dTldFF (i : Nat) (da db : DE) : DS := fun D ρ => da ρ fun d1 ρ1 => db ρ1 fun d2 ρ2 => ∃ ts us, d1 = .list ts ∧ d2 = .list us ∧ inertAll ts = true ∧ inertAll us = true ∧ D.nx (ρ2.set i (.tld (.list [d1, d2])))
theorem psd_tldFF (i : Nat) {x : Str} {p pos lpos : Pos} {e1 e2 : Expr} {da db : DE} (hN : X.N.Nodup) (ha : PF X e1 da) (hb : PF X e2 db) (hi : X.N[i]? = some x := by rfl) (hx : Loc X.env.scope x := by first | exact Or.inl rfl | exact Or.inr rfl) (hs : swapsWith (.List [e1, e2] lpos) (some (.Name x p)) pos.line X.env = pure false := by rfl) (hf : X.fn x = true ∨ X.env.scope.names.lookup x = some .local := by first | exact .inl rfl | exact .inr rfl)
    (hs1 : starEach [e1, e2] X.env = (false, eval e1 X.env) :: starEach [e2] X.env := by rfl) (hs2 : starEach [e2] X.env = (false, eval e2 X.env) :: starEach [] X.env := by rfl) :
    PSD X (.Assign [.Name x p] (.List [e1, e2] lpos) pos) (dTldFF i da db) := ps_imp (ps_set hN hi hx (pe_lst (pa_cons ha (pa_cons hb pa_nil hs2) hs1)) hs hf) fun D σ H ⟨c, G, ρ, D', r, h, k⟩ => by
  refine ⟨c, G, ρ, _, r, h, fun d1 ρ1 G1 H1 v1 q1 f1 r1 h1 new1 => ⟨c, G1, ρ1, _, r1, q1, fun d2 ρ2 G2 H2 v2 q2 f2 r2 h2 new2 => ⟨sz_of (by decide : 2 ≤ 100000), fun a ap => ?_⟩⟩⟩
  obtain ⟨ts, us, rfl, rfl, i1, i2, q⟩ := q2
  have e3 : Ex G2 (upd G2 a (.lst [v1, v2])) := Ex.new (none_up r2.gh ap)
  have r3 := r2.new (o := .lst [v1, v2]) ap
  cases h1 with
  | @lst b ys _ g1 g2 =>
    cases h2 with
    | @lst b2 zs _ g3 g4 =>
      have hb : H2 b = some (.lst ys) := r2.gh _ _ (f2 _ _ g1)
      have hb2 : H2 b2 = some (.lst zs) := r2.gh _ _ g3
      have nb : b ≠ a := fun z => by rw [z, ap] at hb; cases hb
      have nb2 : b2 ≠ a := fun z => by rw [z, ap] at hb2; cases hb2
      have n12 : b ≠ b2 := fun z => by
        have := (new2 _ rfl).2
        rw [← z, g1] at this
        cases this
      have fr : c.H0 a = none := (r2.free ap).1
      refine k.nx _ _ _ _ q ((f1.trans f2).trans e3) (r3.setS rfl ⟨.ref a, _, rfl, .lst upd_same (.cons (.lst (e3 _ _ (f2 _ _ g1)) (inert_trAll ts ys (g2.up (f2.trans e3)) i1)) (.cons (.lst (e3 _ _ g3) (inert_trAll us zs (g4.up e3) i2)) .nil)), ?_, fun y hy => ?_⟩)
      · show ([b, b2, a] : List Addr).Nodup
        refine List.nodup_cons.mpr ⟨fun z => ?_, List.nodup_cons.mpr ⟨fun z => nb2 (List.mem_singleton.mp z), List.nodup_cons.mpr ⟨(fun z => (nomatch z)), List.nodup_nil⟩⟩⟩
        rcases List.mem_cons.mp z with z | z
        · exact n12 z
        · exact nb (List.mem_singleton.mp z)
      · have hy : y ∈ [b, b2, a] := hy
        rcases List.mem_cons.mp hy with rfl | hy
        · exact (new1 _ rfl).1
        · rcases List.mem_cons.mp hy with rfl | hy
          · exact (new2 _ rfl).1
          · rw [List.mem_singleton.mp hy]
            exact fr
end
end DL

set_option Elab.async false
set_option linter.all false
set_option maxRecDepth 100000
set_option maxHeartbeats 1000000
/-! DL14: l.count, l.insert, f(a, *t), d.get, comprehensions over d.values(), repr of tuples, what is in a list of tuples. -/
namespace DL
open PySem L2 Evl PyProof.Rows RZ
section
variable {X : Cx} {e a b o : Expr} {es : List Expr} {pos apos cpos : Pos} {de da db : DE}
/-- l.count(k), l of ints -/
def dCountL (de da : DE) : DE := fun ρ Q => de ρ fun x ρ1 => match x with
  | .list ds => da ρ1 fun y ρ2 => ∃ (ns : List Int) (k : Int), ds = ns.map .int ∧ y = .int k ∧ Q (.int (ns.count k : Nat)) ρ2
  | _ => False
theorem pd_lcount (hp : PE X e (tBM X.K "list" (rCntI X.K) (tD de) (tCons (tD da) tNil))) : PD X e (dCountL de da) := pe_imp hp fun σ H Q ⟨c, G, ρ, Q', rp, h, k⟩ => by
  refine ⟨c, G, ρ, _, rp, h, fun x ρ1 G1 H1 v q1 e1 r1 hx => ?_⟩
  cases hx with
  | @lst l xs _ g1 g2 =>
    refine ⟨Or.inl ⟨rfl, _, SqL.of (r1.gh _ _ g1)⟩, c, G1, ρ1, _, r1, q1, fun y ρ2 G2 H2 w q2 e2 r2 hy => ?_⟩
    obtain ⟨ns, kk, rfl, rfl, q3⟩ := q2
    cases hy
    have z := g2.ints
    subst z
    exact ⟨l, ns, kk, rfl, rfl, SqL.of (r2.gh _ _ (e2 _ _ g1)), k _ ρ2 G2 H2 _ q3 (e1.trans e2) r2 (.int _)⟩
  | _ => exact q1.elim
/-- l.insert(k, x) -/
abbrev rInsL : V → List V → Hp → VK → Prop := fun x vs H Q => ∃ (l : Addr) (xs : List V) (i : Int) (y : V), x = .ref l ∧ vs = [.int i, y] ∧ H l = some (.lst xs) ∧ xs.length < sizeLine ∧ 0 ≤ i ∧ i < 2 ^ 63 ∧
    Q .non (upd H l (.lst (xs.take i.toNat ++ [y] ++ xs.drop i.toNat)))
def dIns (i : Nat) (dk de : DE) : DS := fun D ρ => own ρ i fun _ _ => dk ρ fun x ρ1 => de ρ1 fun y ρ2 => own ρ2 i fun ds put => ∃ k : Int, x = .int k ∧ ds.length < 100000 ∧ 0 ≤ k ∧ k < 2 ^ 63 ∧ D.nx (put (ds.take k.toNat ++ [y] ++ ds.drop k.toNat))
theorem psd_ins (i : Nat) (hp : PE X e (tBM X.K "list" rInsL (tVar i) (tCons (tD da) (tCons (tD db) tNil)))) (hs : swapsWith e none pos.line X.env = pure false := by rfl) : PSD X (.Expr e pos) (dIns i da db) := ps_imp (ps_expr hp hs) fun D σ H ⟨c, G, ρ, D', r, h, k⟩ => by
  obtain ⟨p, xs, ds, put, h1, h2, h3, h4, h5⟩ := own_some r h
  refine ⟨_, h1, Or.inl ⟨rfl, xs, SqL.of h2⟩, c, G, ρ, _, r, h4, fun x ρ1 G1 H1 v q1 e1 r1 hx => ⟨c, G1, ρ1, _, r1, q1, fun y ρ2 G2 H2 w q2 e2 r2 hy => ?_⟩⟩
  obtain ⟨p', xs', ds', put', k1, k2, k3, k4, k5⟩ := own_some r2 q2
  rw [h1] at k1
  cases k1
  obtain ⟨n, rfl, z1, z2, z3, z4⟩ := k4
  cases hx
  exact ⟨p, xs', n, w, rfl, rfl, k2, sz_lt (by rw [k3.len]; exact z1), z2, z3, k.nx _ G2 _ _ z4 (e1.trans e2) (k5 _ _ (((k3.take _).app (.cons hy .nil)).app (k3.drop _)))⟩
/-- f(a, .., *t) -/
theorem pd_callT {k : Nat} {f : Addr} {fd : FuncData} {ps : List Str} {dvs : List V} {ds : List Value} {dd : List PyData} {x : Str} {p : Pos} {da : DN} {m : M1} (F : FnOk X.prog X.w X.K X.mg X.base CX0 k f fd ps (spD m)) (hr : Room k X.A) (hm : X.mg x = some (.ref f)) (hk : PySem.W.keepIn X.K (.ref f) = true) (hb : Binds X.K fd ps ds) (hd : Vals dvs ds) (hdd : ∀ G, RpAll G dvs dd) (ha : PAD X (e :: es) da)
    (hg : Gl X x := by rfl) (hdb : (x == ("__debug__" : Str)) = false := by decide) (he : starEach (e :: es) X.env = (false, eval e X.env) :: starEach es X.env := by rfl) (hst : (backTo pos (starEach es X.env)).any (·.1) = true := by rfl) :
    PD X (.Call (.Name x p) (e :: es) [] pos) (dCall m dd da) := pe_imp (StX.pe_callS2 (E := E0) (F.raw hb hd) hr hk hg hm pass0 ha hdb he hst) fun σ H Q ⟨c, G, ρ, Q', rp, h, kk⟩ => by
  refine ⟨c, G, ρ, _, rp, h, fun xs ρ1 G1 H1 vs q1 e1 r1 hx => ?_⟩
  refine ⟨G1, xs ++ dd, _, r1.gh, hx.app (hdd G1), q1, fun d G' H' v q2 fi hv => ?_⟩
  obtain ⟨e2, r2⟩ := r1.called fi
  exact kk d ρ1 G' H' v q2 (e1.trans e2) r2 hv
/-- d.get(k, x) -/
def dDGetD (i : Nat) (dk dx : DE) : DE := fun ρ Q => dic ρ i fun _ => dk ρ fun z ρ1 => dx ρ1 fun y ρ2 => dic ρ2 i fun kvs => ∃ k, keyD z = some k ∧ Q ((atD kvs k).getD y) ρ2
theorem pd_dgetD (i : Nat) {y : Str} {p2 : Pos} {f : Expr} {dk dx : DE} (hu : X.A.units + 1 < cLine) (hk : PD X e dk) (hx : PD X f dx) (m : M2 X (.Name y p2) "get" apos e f cpos) (hN : X.N[i]? = some y := by rfl) (hvy : Vis X.env.scope y := by first | exact Or.inl rfl | exact Or.inr (Or.inl rfl) | exact Or.inr (Or.inr rfl)) (hdy : (y == ("__debug__" : Str)) = false := by decide) (hcd : (y == ("__classdict__" : Str)) = false := by decide) :
    PD X (.Call (.Attribute (.Name y p2) "get" apos) [e, f] [] cpos) (dDGetD i dk dx) := pe_imp (pe_dget2 hu (pe_var hN hvy hdy hcd) hk hx m) fun σ H Q ⟨c, G, ρ, Q', rp, h, k⟩ => by
  obtain ⟨a, kws, kvs, h1, h2, _, h4, _⟩ := dic_some rp h
  refine ⟨_, h1, a, rfl, .inl ⟨kws, .inl h2⟩, c, G, ρ, _, rp, h4, fun z ρ1 G1 H1 w q1 e1 r1 hz => ⟨c, G1, ρ1, _, r1, q1, fun y ρ2 G2 H2 u q2 e2 r2 hy => ?_⟩⟩
  obtain ⟨a', kws', kvs', k1, k2, k3, ⟨kk, z1, z2⟩, _⟩ := dic_some r2 q2
  rw [h1] at k1
  cases k1
  refine ⟨valV kws' kk, ?_, ?_⟩
  · rw [key_v (H := H2) (.inl (hz.up e2)) z1]
    exact DGet.k k2
  · cases q : atD kvs' kk with
    | none =>
      rw [q] at z2
      rw [(kv_at k3).2 q]
      exact k _ ρ2 G2 H2 _ z2 (e1.trans e2) r2 hy
    | some d =>
      rw [q] at z2
      obtain ⟨v, v1, v2⟩ := (kv_at k3).1 d q
      rw [v1]
      exact k _ ρ2 G2 H2 _ z2 (e1.trans e2) r2 v2
/-- repr of a list or a tuple -/
def fReprT : D1 := fun x Q => match x with
  | .list ds => (PyData.list ds).showable = true ∧ (PyData.list ds).hasDict = false ∧ (PyData.list ds).depth ≤ 60 ∧ (PyData.list ds).shown.length ≤ sizeLine ∧ Q (.str (PyData.list ds).shown)
  | .tuple ds => (PyData.tuple ds).showable = true ∧ (PyData.tuple ds).hasDict = false ∧ (PyData.tuple ds).depth ≤ 60 ∧ (PyData.tuple ds).shown.length ≤ sizeLine ∧ Q (.str (PyData.tuple ds).shown)
  | _ => False
theorem rc_reprT {K : PySem.W.Frag} : RC1 (fun xs H Q => ∃ p d, xs = [.ref p] ∧ Dp K H (.ref p) d ∧ d.showable = true ∧ d.hasDict = false ∧ d.depth ≤ 60 ∧ d.shown.length ≤ sizeLine ∧ Q (.str d.shown) H) fReprT := by
  intro G H v x Q Q' e hv h k
  cases x with
  | list ds =>
    obtain ⟨a, xs, rfl, ha, hx⟩ := hv.lst e
    exact ⟨a, .list ds, rfl, hv.dp e, h.1, h.2.1, h.2.2.1, h.2.2.2.1, k _ _ H (.inl ⟨rfl, .str _⟩) h.2.2.2.2⟩
  | tuple ds =>
    obtain ⟨a, xs, rfl, ha, hx⟩ := hv.tup e
    exact ⟨a, .tuple ds, rfl, hv.dp e, h.1, h.2.1, h.2.2.1, h.2.2.2.1, k _ _ H (.inl ⟨rfl, .str _⟩) h.2.2.2.2⟩
  | _ => exact h.elim
/-- x in a list of data -/
def fInDeep : D2 := fun x y Q => match y with
  | .list ds => SeqAt.shaped x = true ∧ SeqAt.shaped (.list ds) = true ∧ Q (.bool (ds.any fun z => PyData.eqv z x))
  | _ => False
theorem ro_inDeep {K : PySem.W.Frag} : ROp (rInD K) fInDeep := by
  intro G H v w x y Q Q' e hv hw h k
  cases y with
  | list ds => exact ⟨x, ds, hv.dp e, hw.dp e, h.1, h.2.1, k _ _ H (.inl ⟨rfl, .bl _⟩) h.2.2⟩
  | _ => exact h.elim
end
end DL

set_option Elab.async false
set_option linter.all false
set_option maxRecDepth 100000
set_option maxHeartbeats 1000000
/-! DL15: comprehensions over the values of a dict of one's own. -/
namespace DL
open PySem L2 Evl PyProof.Rows RZ
mutual
/-- data lean on lists and tuples alone -/
theorem Rp.lean {G G' : Hp} (e1 : ∀ x ys, G x = some (.lst ys) → G' x = some (.lst ys)) (e2 : ∀ x ys, G x = some (.tup ys) → G' x = some (.tup ys)) : ∀ (d : PyData) (v : V), Rp G v d → Rp G' v d
  | .none, _, h => by cases h; exact .non
  | .bool b, _, h => by cases h; exact .bl b
  | .int i, _, h => by cases h; exact .int i
  | .str x, _, h => by cases h; exact .str x
  | .list ds, _, h => by
    cases h with
    | lst h1 h2 => exact .lst (e1 _ _ h1) (RpAll.lean e1 e2 ds _ h2)
  | .tuple ds, _, h => by
    cases h with
    | tup h1 h2 => exact .tup (e2 _ _ h1) (RpAll.lean e1 e2 ds _ h2)
  | .dict _, _, h => nomatch h
theorem RpAll.lean {G G' : Hp} (e1 : ∀ x ys, G x = some (.lst ys) → G' x = some (.lst ys)) (e2 : ∀ x ys, G x = some (.tup ys) → G' x = some (.tup ys)) : ∀ (ds : List PyData) (vs : List V), RpAll G vs ds → RpAll G' vs ds
  | [], _, h => by cases h; exact .nil
  | d :: ds, _, h => by
    cases h with
    | cons h1 h2 => exact .cons (Rp.lean e1 e2 d _ h1) (RpAll.lean e1 e2 ds _ h2)
end
theorem KvRp.vals {G : Hp} : ∀ {a : List (Key × V)} {b : List (Key × PyData)}, KvRp G a b → RpAll G (a.map (·.2)) (b.map (·.2))
  | _, _, .nil => .nil
  | _, _, .cons h t => .cons h (KvRp.vals t)
theorem kv_get {a : List (Key × V)} {i : Nat} {k : Key} {v : V} (h : a[i]? = some (k, v)) : (a.map (·.2))[i]? = some v := by
  rw [List.getElem?_map, h]
  rfl
section
variable {c : Co} {G H : Hp} {σ : L2.St} {ρ : Rho}
theorem lock_in {i : Nat} {a : Addr} {kws : List (Key × V)} {kvs : List (Key × PyData)} {od : Obj} (r : Rep c G σ H ρ) (hi : ρ[i]? = some (.dic kvs)) (ha : σ[i]? = some (some (.ref a))) (hk : H a = some (.dK kws)) (ga : G a = none) (h0 : c.H0 a = none) :
    Ex G (upd G a (.frz od (.dK kws))) ∧ Rep c (upd G a (.frz od (.dK kws))) σ (upd H a (.frz od (.dK kws))) (ρ.set i .no) := by
  have e : Ex G (upd G a (.frz od (.dK kws))) := Ex.new ga
  have oth : ∀ j s, j ≠ i → ρ[j]? = some s → s.mt = true → ∀ b, σ[j]? = some (some (.ref b)) → b ≠ a := fun j s hj hs m b hb z => by
    refine r.sep j i s _ hj hs hi m rfl ?_
    rw [hb, ha, z]
  refine ⟨e, ⟨⟨r.g0.trans e, fun b k1 k2 => ?_, fun b u hb => ?_, fun b u k1 k2 => ?_, fun b k1 => ?_⟩, ?_, fun j s hs => ?_, fun j l s t hjl k1 k2 m1 m2 => ?_, fun q hq => ?_⟩⟩
  · rw [upd_ne (fun z => k1 (by rw [z]; exact h0))]
    exact r.fr b k1 k2
  · by_cases z : b = a
    · subst z
      rw [upd_same] at hb ⊢
      exact hb
    · rw [upd_ne z] at hb ⊢
      exact r.gh b u hb
  · rw [upd_ne (fun z => by rw [z, h0] at k1; cases k1)]
    exact r.hh b u k1 k2
  · by_cases z : b = a
    · rw [z, upd_same]
      exact fun y => nomatch y
    · rw [upd_ne z]
      exact r.dom b k1
  · rw [List.length_set]
    exact r.len
  · rcases get_set hs with ⟨rfl, rfl, _⟩ | ⟨hj, hs⟩
    · trivial
    · refine (r.ok j s hs).go e fun b u z m hb => ?_
      obtain ⟨b', q1, q2, _⟩ := (r.ok j s hs).adr m
      rw [z] at q1
      cases q1
      have nb := oth j s hj hs m b z
      rw [upd_ne nb, upd_ne nb]
      exact ⟨hb, q2⟩
  · rcases get_set k1 with ⟨_, rfl, _⟩ | ⟨hj, k1⟩
    · cases m1
    · rcases get_set k2 with ⟨_, rfl, _⟩ | ⟨hl, k2⟩
      · cases m2
      · exact r.sep j l s t hjl k1 k2 m1 m2
  · obtain ⟨q1, q2, q3⟩ := r.pins q hq
    have nq : q.1 ≠ a := fun z => q3 i _ hi rfl (by rw [ha, z])
    rw [upd_ne nq, upd_ne nq]
    refine ⟨q1, q2, fun j s hs m => ?_⟩
    rcases get_set hs with ⟨_, rfl, _⟩ | ⟨hj, hs⟩
    · cases m
    · exact q3 j s hs m
def without (G : Hp) (a : Addr) : Hp := fun x => if x = a then none else G x
theorem lock_out {i : Nat} {a : Addr} {kws : List (Key × V)} {kvs : List (Key × PyData)} {od : Obj} (r : Rep c G σ H ρ) (hi : ρ[i]? = some .no) (ha : σ[i]? = some (some (.ref a))) (ga : G a = some (.frz od (.dK kws))) (h0 : c.H0 a = none) (g0 : c.G0 a = none) (kv : KvRp (without G a) kws kvs) :
    Rep c (without G a) σ (upd H a (.dK kws)) (ρ.set i (.dic kvs)) := by
  have wn : ∀ {x}, x ≠ a → without G a x = G x := fun {x} h => if_neg h
  have wa : without G a a = none := if_pos rfl
  have l1 : ∀ x ys, G x = some (.lst ys) → without G a x = some (.lst ys) := fun x ys h => by
    rw [wn fun z => by rw [z, ga] at h; cases h]
    exact h
  have l2 : ∀ x ys, G x = some (.tup ys) → without G a x = some (.tup ys) := fun x ys h => by
    rw [wn fun z => by rw [z, ga] at h; cases h]
    exact h
  have ex0 : Ex c.G0 (without G a) := fun b o hb => by
    rw [wn fun z => by rw [z, g0] at hb; cases hb]
    exact r.g0 b o hb
  have nm : ∀ (j : Nat) (s : Sl), ρ[j]? = some s → s.mt = true → ∀ b : Addr, σ[j]? = some (some (V.ref b)) → b ≠ a := fun j s hs m b hb z => by
    obtain ⟨b', q1, q2, _⟩ := (r.ok j s hs).adr m
    rw [hb] at q1
    cases q1
    rw [z, ga] at q2
    cases q2
  have ok : ∀ (j : Nat) (s : Sl), ρ[j]? = some s → SlOk c (without G a) (upd H a (.dK kws)) (σ[j]?) s := fun j s hs => by
    have o := r.ok j s hs
    cases s with
    | no => trivial
    | val d => obtain ⟨v, h1, h2⟩ := o; exact ⟨v, h1, Rp.lean l1 l2 d v h2⟩
    | scr K ns => exact o
    | bas d => exact o
    | tld d =>
      obtain ⟨v, S, h1, h2, h3⟩ := o
      exact ⟨v, S, h1, TrS.to d v S h2 l2 fun b hb o ho => by
        obtain ⟨ys, hy⟩ := TrS.lists d v S h2 b hb
        rw [hy] at ho
        cases ho
        exact l1 b ys hy, h3⟩
    | own ds =>
      obtain ⟨b, xs, h1, h2, h3, h4, h5⟩ := o
      have nb := nm j _ hs rfl b h1
      exact ⟨b, xs, h1, by rw [upd_ne nb]; exact h2, RpAll.lean l1 l2 ds xs h3, by rw [wn nb]; exact h4, h5⟩
    | pur ds =>
      obtain ⟨b, xs, h1, h2, h3, h4, h5⟩ := o
      have nb := nm j _ hs rfl b h1
      exact ⟨b, xs, h1, by rw [upd_ne nb]; exact h2, RpAll.lean l1 l2 ds xs h3, by rw [wn nb]; exact h4, h5⟩
    | dic ds =>
      obtain ⟨b, xs, h1, h2, h3, h4, h5⟩ := o
      have nb := nm j _ hs rfl b h1
      have up : ∀ {x : List (Key × V)} {y : List (Key × PyData)}, KvRp G x y → KvRp (without G a) x y := by
        intro x y h
        induction h with
        | nil => exact .nil
        | cons h _ ih => exact .cons (Rp.lean l1 l2 _ _ h) ih
      exact ⟨b, xs, h1, by rw [upd_ne nb]; exact h2, up h3, by rw [wn nb]; exact h4, h5⟩
  refine ⟨⟨ex0, fun b k1 k2 => ?_, fun b u hb => ?_, fun b u k1 k2 => ?_, fun b k1 => ?_⟩, ?_, fun j s hs => ?_, fun j l s t hjl k1 k2 m1 m2 => ?_, fun q hq => ?_⟩
  · by_cases z : b = a
    · rw [z]; exact wa
    · rw [wn z]; exact r.fr b k1 k2
  · have z : b ≠ a := fun z => by rw [z, wa] at hb; cases hb
    rw [wn z] at hb
    rw [upd_ne z]
    exact r.gh b u hb
  · rw [upd_ne (fun z => by rw [z, h0] at k1; cases k1)]
    exact r.hh b u k1 k2
  · by_cases z : b = a
    · rw [z, upd_same]
      exact fun y => nomatch y
    · rw [upd_ne z]
      exact r.dom b k1
  · rw [List.length_set]
    exact r.len
  · rcases get_set hs with ⟨rfl, rfl, _⟩ | ⟨hj, hs⟩
    · exact ⟨a, kws, ha, upd_same, kv, wa, h0⟩
    · exact ok j s hs
  · rcases get_set k1 with ⟨e1, _, _⟩ | ⟨hj, k3⟩
    · rcases get_set k2 with ⟨e2, _, _⟩ | ⟨hl, k4⟩
      · exact absurd (e1.trans e2.symm) hjl
      · intro z
        rw [e1, ha] at z
        exact nm l t k4 m2 a z.symm rfl
    · rcases get_set k2 with ⟨e2, _, _⟩ | ⟨hl, k4⟩
      · intro z
        rw [e2, ha] at z
        exact nm j s k3 m1 a z rfl
      · exact r.sep j l s t hjl k3 k4 m1 m2
  · obtain ⟨q1, q2, q3⟩ := r.pins q hq
    have nq : q.1 ≠ a := fun z => by rw [z, ga] at q2; cases q2
    rw [upd_ne nq, wn nq]
    refine ⟨q1, q2, fun j s hs m => ?_⟩
    rcases get_set hs with ⟨rfl, rfl, _⟩ | ⟨hj, hs⟩
    · intro z
      rw [ha] at z
      exact nq (by have := Option.some.inj (Option.some.inj z); cases this; rfl)
    · exact q3 j s hs m
end
/-- the turns of a comprehension over J -/
theorem lc_turns {dg : DG} {dt : DT} {de : DE} {is vs : List Nat} (hs : ∀ j ∈ is, j ∈ vs) {c : Co} {G1 : Hp} {σ : L2.St} {H1 : Hp} {ρ1 : Rho} {J : It} {items : List PyData} {Q' : List PyData → Rho → Prop} {Q : VK} (r1 : Rep c G1 σ H1 ρ1) (gv : Gives G1 J items)
    (q1 : dLc (fun ρ R => R items ρ) dg dt de vs ρ1 Q') (k : ∀ ds ρ' G' H' p xs, Q' ds ρ' → Ex G1 G' → Rep { c with pin := (p, .lst xs) :: c.pin } G' σ H' ρ' → freeAt c p → RpAll G' xs ds → Q (.ref p) H') :
    tLc (fun _ H R => H = H1 ∧ R J H) (gD is dg) (tT dt) (tD de) vs σ H1 Q := by
  refine ⟨rfl, fun D hD => ?_⟩
  obtain ⟨I, i0, step, fin⟩ := q1
  obtain ⟨Gd, Y, W, hG, hY⟩ := gv
  have fr := r1.free hD
  let Pv : Nat → Hp → Prop := fun i H' => ∃ G' ρ' acc xs, Ex G1 G' ∧ Rep { c with pin := (D, .lst xs) :: c.pin } G' (L2.wipe σ vs) H' (wipeR ρ' vs) ∧ RpAll G' xs acc ∧ I i (wipeR ρ' vs) acc
  refine lc_it W Pv ⟨G1, ρ1, [], [], Ex.refl G1, (r1.pinN hD).wiped vs, .nil, i0⟩ (fun i H' _ ⟨G', ρ', acc, xs, e, r, _, _⟩ => hG H' (e.trans r.gh)) (fun i x H' H'' hi p y => ?_) (fun H' p => ?_)
  · obtain ⟨G', ρ', acc, xs, e, r, ra, hI⟩ := p
    obtain ⟨d, hdi⟩ : ∃ d, items[i]? = some d := ⟨_, List.getElem?_eq_getElem hi⟩
    obtain ⟨G2, e2, r2, hx⟩ := r.out (hY i H' x H'' d (e.trans r.gh) y hdi G' e r.gh)
    refine ⟨_, G2, _, d, _, r2, hx, step i d _ acc hdi hI, fun σ2 ρ2 q2 r3 l2 => ?_⟩
    have hw : L2.wipe σ2 vs = L2.wipe σ vs := by rw [wipe_same l2.1 l2.2 hs, wipe_idem]
    refine ⟨hw, _, G2, ρ2, _, r3, q2, fun b ρ3 G3 H3 q3 e3 r4 => ?_⟩
    cases b with
    | false =>
      have r5 := r4.wiped vs
      rw [hw] at r5
      exact (show Pv (i + 1) H3 from ⟨G3, ρ3, acc, xs, (e.trans e2).trans e3, r5, ra.up (e2.trans e3), q3⟩)
    | true =>
      show tD de σ2 H3 _
      refine ⟨_, G3, ρ3, _, r4, q3, fun y ρ4 G4 H4 w q4 e4 r5 hy => ?_⟩
      have r6 := (r5.repin (o' := .lst (xs ++ [w])) fr).wiped vs
      rw [hw] at r6
      exact ⟨xs, (r5.pins _ List.mem_cons_self).1, sz_lt (by rw [ra.len]; exact q4.1), G4, ρ4, acc ++ [y], xs ++ [w], ((e.trans e2).trans e3).trans e4, r6, (ra.up ((e2.trans e3).trans e4)).app (.cons hy .nil), q4.2⟩
  · obtain ⟨G', ρ', acc, xs, e, r, ra, hI⟩ := p
    have r5 := r.wiped vs
    rw [wipe_idem] at r5
    exact k acc _ G' H' D xs (fin _ acc hI) e (r5.unwipe fun j hj => wipeR_no hj) fr ra
/-- [.. for x in d.values()] -/
def dLcV (i : Nat) (dg : DG) (dt : DT) (de : DE) (vs : List Nat) : DN := fun ρ Q => dic ρ i fun kvs => dLc (fun ρ R => R (kvs.map (·.2)) ρ) dg dt de vs (ρ.set i .no) fun ds ρ2 => ρ2[i]? = some .no ∧ Q ds (ρ2.set i (.dic kvs))
theorem pn_lcV {X : Cx} (i : Nat) {y : Str} {p2 apos cpos : Pos} {elt tg : Expr} {ifs : List Expr} {scope : Scope} {own : List (Str × Nat)} {pos : Pos} {dg : DG} {dt : DT} {de : DE} {is : List Nat} (hc : X.calm = true) (hNd : X.N.Nodup) (ok : BlkOk X.N X.env.scope scope own)
    (hg : ∀ (s : Shared) (H : Hp) (C : Addr) (cl : List (Str × Addr)) (fp : List Addr), PGD (X.blk s H scope (compEnvC scope cl C X.env) fp) tg is dg) (ht : ∀ (s : Shared) (H : Hp) (C : Addr) (cl : List (Str × Addr)) (fp : List Addr), PTsD (X.blk s H scope (compEnvC scope cl C X.env) fp) ifs dt)
    (he : ∀ (s : Shared) (H : Hp) (C : Addr) (cl : List (Str × Addr)) (fp : List Addr), PD (X.blk s H scope (compEnvC scope cl C X.env) fp) elt de) (hN : X.N[i]? = some y := by rfl) (hvy : Vis X.env.scope y := by first | exact Or.inl rfl | exact Or.inr (Or.inl rfl) | exact Or.inr (Or.inr rfl)) (hdy : (y == ("__debug__" : Str)) = false := by decide) (hcd : (y == ("__classdict__" : Str)) = false := by decide)
    (hj : ∀ j ∈ is, j ∈ own.map (·.2) := by decide) (hbase : attributeBase (.Name y p2) "values" X.env (eval (.Name y p2) X.env) = eval (.Name y p2) X.env := by rfl) (hline : (apos.endLine == cpos.line) = true := by rfl) (hs : ∀ x, foldedSetIterable (.Call (.Attribute (.Name y p2) "values" apos) [] [] cpos) X.env x = pure x := by intro _; rfl) :
    PN X (.ListComp elt [⟨tg, .Call (.Attribute (.Name y p2) "values" apos) [] [] cpos, ifs, 0⟩] scope pos) (dLcV i dg dt de (own.map (·.2))) := pe_imp (pe_lock (pe_lc hc hNd (pi_values (pe_var hN hvy hdy hcd) hbase hline) ok hg ht he hs)) fun σ H Q ⟨c, G, ρ, Q', rp, h, k⟩ => by
  obtain ⟨a, kws, kvs, h1, h2, h3, h4, hi, ga, h0⟩ := dic_some rp h
  refine ⟨a, .dK kws, h2, trivial, fun od => ?_⟩
  obtain ⟨eG, rL⟩ := lock_in (od := od) rp hi h1 h2 ga h0
  have g0 : c.G0 a = none := by
    cases z : c.G0 a with
    | none => rfl
    | some o => rw [rp.g0 a o z] at ga; cases ga
  have gv : Gives (upd G a (.frz od (.dK kws))) (Itd a od kws) (kvs.map (·.2)) := by
    refine ⟨fun H => H a = some (.frz od (.dK kws)), _, by rw [List.length_map, ← kv_len h3]; exact walk_values, fun H e => e _ _ upd_same, fun j H1 x H2 d e yy hd G1 e1 e2 => ?_⟩
    obtain ⟨rfl, kk, hk⟩ := yy
    obtain ⟨v, v1, v2⟩ := h3.vals.at hd
    rw [kv_get hk] at v1
    cases v1
    exact .inl ⟨rfl, v2.up (eG.trans e1)⟩
  have core := lc_turns (Q := fun v H' => H' a = some (.frz od (.dK kws)) ∧ Q v (upd H' a (.dK kws))) hj rL gv h4 fun ds ρ' G' H' p xs q e r' f h' => by
    have ga' : G' a = some (.frz od (.dK kws)) := e _ _ upd_same
    refine ⟨r'.gh _ _ ga', ?_⟩
    have l1 : ∀ x ys, G' x = some (.lst ys) → without G' a x = some (.lst ys) := fun x ys hx => by
      have z : x ≠ a := fun z => by rw [z, ga'] at hx; cases hx
      exact (if_neg z).trans hx
    have l2 : ∀ x ys, G' x = some (.tup ys) → without G' a x = some (.tup ys) := fun x ys hx => by
      have z : x ≠ a := fun z => by rw [z, ga'] at hx; cases hx
      exact (if_neg z).trans hx
    have exG : Ex G (without G' a) := fun x o hx => by
      have z : x ≠ a := fun z => by rw [z, ga] at hx; cases hx
      exact (if_neg z).trans (e _ _ (eG _ _ hx))
    have ro := lock_out (kvs := kvs) r' q.1 h1 ga' h0 g0 (KvRp.up exG h3)
    exact k ds _ _ _ p xs q.2 exG ro f (RpAll.lean l1 l2 ds xs h')
  obtain ⟨_, core⟩ := core
  exact ⟨_, h1, a, od, kws, rfl, upd_same, core⟩
end DL

set_option Elab.async false
set_option linter.all false
set_option maxRecDepth 100000
set_option maxHeartbeats 1000000
/-! DL16: blocks at whose end what was told is spoilt, with a purse about; what is told: any number of things. -/
namespace DL
open PySem L2 Evl PyProof.Rows RZ
def isI : PyData → Bool
  | .int _ => true
  | _ => false
def toB : Sl → Sl
  | .val d => .bas d
  | .pur ds => .pur ds
  | _ => .no
def unB : Sl → Sl
  | .bas d => .val d
  | .pur ds => if ds.all isI = true then .pur ds else .no
  | _ => .no
theorem rp_flatI {G G' : Hp} : ∀ {xs : List V} {ds : List PyData}, RpAll G xs ds → ds.all isI = true → RpAll G' xs ds
  | _, [], h, _ => by cases h; exact .nil
  | _, d :: ds, h, i => by
    rw [List.all_cons, Bool.and_eq_true] at i
    cases h with
    | cons h1 h2 =>
      refine .cons ?_ (rp_flatI h2 i.2)
      cases d with
      | int n => cases h1; exact .int n
      | _ => exact absurd i.1 (fun z => nomatch z)
def nest (c : Co) (G H : Hp) : Co := ⟨G, H, c.P.filter fun a => decide (∀ q ∈ c.pin, q.1 ≠ a), []⟩
section
variable {c : Co} {G H : Hp} {σ : L2.St} {ρ : Rho}
theorem toB_mt {s : Sl} (h : (toB s).mt = true) : s.mt = true := by cases s <;> first | exact h | rfl
theorem map_at' {f : Sl → Sl} {i : Nat} {s : Sl} (h : (ρ.map f)[i]? = some s) : ∃ t, ρ[i]? = some t ∧ s = f t := by
  rw [List.getElem?_map] at h
  cases q : ρ[i]? with
  | none => rw [q] at h; cases h
  | some t => rw [q] at h; cases h; exact ⟨t, rfl, rfl⟩
theorem rep_nestP (r : Rep c G σ H ρ) : Rep (nest c G H) G σ H (ρ.map toB) where
  toFin := ⟨Ex.refl G, fun _ _ h => h, r.gh, fun _ _ h _ => h, fun _ h => h⟩
  len := by rw [List.length_map, r.len]
  ok := fun i s h => by
    obtain ⟨t, ht, rfl⟩ := map_at' h
    have o := r.ok i t ht
    cases t with
    | val d => exact o
    | pur ds =>
      obtain ⟨a, xs, h1, h2, h3, h4, h5⟩ := o
      exact ⟨a, xs, h1, h2, h3, h4, List.mem_filter.mpr ⟨h5, decide_eq_true fun q hq z => (r.pins q hq).2.2 i _ ht rfl (by rw [h1, z])⟩⟩
    | _ => trivial
  sep := fun i j s t hij h1 h2 m1 m2 => by
    obtain ⟨u, hu, rfl⟩ := map_at' h1
    obtain ⟨w, hw, rfl⟩ := map_at' h2
    exact r.sep i j u w hij hu hw (toB_mt m1) (toB_mt m2)
  pins := fun q hq => nomatch hq
theorem unB_mt {s : Sl} (h : (unB s).mt = true) : ∃ ds, s = .pur ds ∧ ds.all isI = true := by
  cases s with
  | pur ds =>
    refine ⟨ds, rfl, ?_⟩
    cases z : ds.all isI with
    | true => rfl
    | false =>
      have h : (if ds.all isI = true then Sl.pur ds else Sl.no).mt = true := h
      rw [z] at h
      exact absurd h (fun z => nomatch z)
  | _ => exact absurd h (fun z => nomatch z)
theorem rep_backP {G2 H2 H3 : Hp} {σ2 : L2.St} {ρ2 : Rho} {S : List Addr} (r : Rep c G σ H ρ) (r2 : Rep (nest c G H) G2 σ2 H2 ρ2) (ch : Chg H2 H3 S) (new : ∀ a ∈ S, H a = none ∧ G2 a ≠ none) : Rep c G σ2 H3 (ρ2.map unB) := by
  have keepP : ∀ a o, H a = some o → a ∉ (nest c G H).P → H3 a = some o := fun a o h hp => ch.keep a o (r2.hh a o h hp) fun z => by rw [(new a z).1] at h; cases h
  have nP : ∀ a, a ∉ c.P → a ∉ (nest c G H).P := fun a h z => h (List.mem_filter.mp z).1
  have gh : Ex G H3 := fun a o h => ch.keep a o (r2.gh a o (r2.g0 a o h)) fun z => by
    have := (new a z).1
    rw [r.gh a o h] at this
    cases this
  refine ⟨⟨r.g0, r.fr, gh, fun a o h1 h2 => keepP a o (r.hh a o h1 h2) (nP a h2), fun a h z => ?_⟩, by rw [List.length_map, r2.len], fun i s h => ?_, fun i j s t hij h1 h2 m1 m2 => ?_, fun q hq => ?_⟩
  · have d2 : H2 a ≠ none := r2.dom a (r.dom a h)
    cases y : H2 a with
    | none => exact d2 y
    | some o =>
      by_cases hs : a ∈ S
      · obtain ⟨ys, e⟩ := ch.lst a hs
        rw [e] at z
        cases z
      · rw [ch.keep a o y hs] at z
        cases z
  · obtain ⟨t, ht, rfl⟩ := map_at' h
    have o := r2.ok i t ht
    cases t with
    | bas d => exact o
    | pur ds =>
      show SlOk c G H3 (σ2[i]?) (if ds.all isI = true then Sl.pur ds else Sl.no)
      by_cases hi : ds.all isI = true
      · rw [if_pos hi]
        obtain ⟨a, xs, h1, h2, h3, h4, h5⟩ := o
        refine ⟨a, xs, h1, ch.keep a _ h2 fun z => (new a z).2 h4, rp_flatI h3 hi, ?_, (List.mem_filter.mp h5).1⟩
        cases y : G a with
        | none => rfl
        | some o => rw [r2.g0 a o y] at h4; cases h4
      · rw [if_neg hi]
        trivial
    | _ => trivial
  · obtain ⟨u, hu, rfl⟩ := map_at' h1
    obtain ⟨w, hw, rfl⟩ := map_at' h2
    obtain ⟨ds, rfl, _⟩ := unB_mt m1
    obtain ⟨es, rfl, _⟩ := unB_mt m2
    exact r2.sep i j _ _ hij hu hw rfl rfl
  · obtain ⟨h1, h2, _⟩ := r.pins q hq
    refine ⟨keepP _ _ h1 fun z => (of_decide_eq_true (List.mem_filter.mp z).2) q hq rfl, h2, fun i s h m z => ?_⟩
    obtain ⟨t, ht, rfl⟩ := map_at' h
    obtain ⟨ds, rfl, _⟩ := unB_mt m
    obtain ⟨a, xs, k1, _, _, _, k5⟩ := r2.ok i _ ht
    rw [z] at k1
    cases k1
    exact (of_decide_eq_true (List.mem_filter.mp k5).2) q hq rfl
end
/-- T may be run within the block, by the data B -/
def Good (T : TS) (B : DEnds → Rho → Prop) : Prop := ∀ (D : Ends) (D' : DEnds) (c : Co) (G H : Hp) (σ : L2.St) (ρ : Rho), Rep c G σ H ρ → EndsOk c G D D' → ∀ (G2 : Hp) (σ2 : L2.St) (H2 : Hp) (ρ2 : Rho), Rep (nest c G H) G2 σ2 H2 ρ2 → B D' ρ2 → T D σ2 H2
def bCons (d : DS) (B : DEnds → Rho → Prop) : DEnds → Rho → Prop := fun D' ρ => d { nx := B D', rt := fun _ _ _ => False, bk := fun _ => False, ct := fun _ => False } ρ
theorem gd_cons {d : DS} {T : TS} {B : DEnds → Rho → Prop} (g : Good T B) : Good (tSeq (tS d) T) (bCons d B) := fun D D' c G H σ ρ r k G2 σ2 H2 ρ2 r2 h =>
  ⟨_, G2, ρ2, _, r2, h, ⟨fun σ' G' H' ρ' q _ r' => g D D' c G H σ ρ r k G' σ' H' ρ' r' q, fun _ _ _ _ _ _ _ z => z.elim, fun _ _ _ _ z => z.elim, fun _ _ _ _ z => z.elim⟩⟩
/-- _law_spoilt(told) -/
def bSpo (i n : Nat) (dr : DS) : DEnds → Rho → Prop := fun D' ρ2 => ∃ d, ρ2[i]? = some (.tld d) ∧ fitD n d = true ∧ dr D' (ρ2.map unB)
theorem gd_spo {i n : Nat} {dr : DS} : Good (tSeq (tDrop (tCall (spoS n) [] E0 (tCons (tVar i) tNil))) (tS dr)) (bSpo i n dr) := fun D D' c G H σ ρ r k G2 σ2 H2 ρ2 r2 ⟨d, hi, fit, q⟩ => by
  obtain ⟨v, S, hv, tr, nd, new⟩ := r2.ok i _ hi
  refine ⟨v, hv, G2, v, d, S, rfl, r2.gh, tr, nd, fit, fun H3 ch => ?_⟩
  refine ⟨c, G, _, D', rep_backP r r2 ch fun a ha => ⟨new a ha, fun z => ?_⟩, q, k⟩
  obtain ⟨ys, e⟩ := TrS.lists d v S tr a ha
  rw [e] at z
  cases z
/-- told[0].append('more') -/
def bApp0 (i : Nat) (dr : DS) : DEnds → Rho → Prop := fun D' ρ2 => ∃ ts ds, ρ2[i]? = some (.tld (.list (.list ts :: ds))) ∧ ts.length < 100000 ∧ dr D' (ρ2.map unB)
theorem gd_app0 {K : PySem.W.Frag} {i : Nat} {s : Str} {dr : DS} : Good (tSeq (tDrop (tBM K "list" rAppend (tOp (rIx K) (tVar i) (tC (.int 0))) (tCons (tC (.str s)) tNil))) (tS dr)) (bApp0 i dr) := fun D D' c G H σ ρ r k G2 σ2 H2 ρ2 r2 ⟨ts, ds, hi, hl, q⟩ => by
  obtain ⟨v, S, hv, tr, nd, new⟩ := r2.ok i _ hi
  cases tr with
  | @lst a xs _ T g1 g2 =>
    cases g2 with
    | @cons x0 xr _ _ S1 S2 t1 t2 =>
      cases t1 with
      | @lst b ys _ S3 g3 g4 =>
        have hb : H2 b = some (.lst ys) := r2.gh _ _ g3
        have at_0 : atI (V.ref b :: xr) 0 = some (.ref b) := by
          unfold atI ixN
          rw [if_pos (by omega), if_pos (by rw [List.length_cons]; omega)]
          rfl
        refine ⟨_, hv, Or.inl ⟨a, _, 0, _, rfl, rfl, SqL.of (r2.gh _ _ g1), at_0, ?_⟩⟩
        refine ⟨Or.inl ⟨rfl, _, SqL.of hb⟩, b, ys, _, rfl, rfl, hb, sz_lt (by rw [g4.len]; exact hl), ?_⟩
        refine ⟨c, G, _, D', rep_backP (S := [b]) r r2 ⟨fun x o hx m => ?_, fun x hx => ?_⟩ fun x hx => ⟨?_, fun z => ?_⟩, q, k⟩
        · rw [upd_ne fun z => m (List.mem_singleton.mpr z)]
          exact hx
        · rw [List.mem_singleton.mp hx]
          exact ⟨_, upd_same⟩
        · rw [List.mem_singleton.mp hx]
          exact new b (List.mem_append_left _ (List.mem_append_left _ (List.mem_append_right _ (List.mem_singleton.mpr rfl))))
        · rw [List.mem_singleton.mp hx, g3] at z
          cases z
def dBlkG (B : DEnds → Rho → Prop) : DS := fun D ρ => B D (ρ.map toB)
theorem pssd_blk {X : Cx} {sts : List Stmt} {T : TS} {B : DEnds → Rho → Prop} (h : PSs X sts T) (g : Good T B) : PSsD X sts (dBlkG B) := pss_imp h fun D σ H ⟨c, G, ρ, D', r, hB, k⟩ => g D D' c G H σ ρ r k G σ H _ (rep_nestP r) hB
/-! ### what is told -/
/-- true: a new list of what has no list in it; false: what has no list in it -/
def dtl : List (Bool × DE) → DN
  | [] => fun ρ Q => Q [] ρ
  | (true, de) :: r => fun ρ Q => de ρ fun d ρ1 => (∃ ts, d = .list ts ∧ inertAll ts = true) ∧ dtl r ρ1 fun ds ρ2 => Q (d :: ds) ρ2
  | (false, de) :: r => fun ρ Q => de ρ fun d ρ1 => inert d = true ∧ dtl r ρ1 fun ds ρ2 => Q (d :: ds) ρ2
def tTl (l : List (Bool × DE)) : TA := fun σ H Q => ∃ c G ρ Q', Rep c G σ H ρ ∧ dtl l ρ Q' ∧ ∀ ds ρ' G' H' vs S, Q' ds ρ' → Ex G G' → Rep c G' σ H' ρ' → TrSAll G' vs ds S → S.Nodup → (∀ a ∈ S, c.H0 a = none ∧ G a = none) → Q vs H'
section
variable {X : Cx} {e : Expr} {es : List Expr} {de : DE} {l : List (Bool × DE)}
theorem ptl_nil : PA X [] (tTl []) := pa_imp pa_nil fun σ H Q ⟨c, G, ρ, Q', rp, h, k⟩ => k [] ρ G H [] [] h (Ex.refl G) rp .nil List.nodup_nil fun _ z => nomatch z
theorem ptl_F (ha : PF X e de) (hr : PA X es (tTl l)) (hs : starEach (e :: es) X.env = (false, eval e X.env) :: starEach es X.env := by rfl) : PA X (e :: es) (tTl ((true, de) :: l)) := pa_imp (pa_cons ha hr hs) fun σ H Q ⟨c, G, ρ, Q', rp, h, k⟩ => by
  refine ⟨c, G, ρ, _, rp, h, fun d ρ1 G1 H1 v q1 e1 r1 hv new => ⟨c, G1, ρ1, _, r1, q1.2, fun ds ρ2 G2 H2 vs S q2 e2 r2 hs nd nS => ?_⟩⟩
  obtain ⟨⟨ts, rfl, it⟩, _⟩ := q1
  cases hv with
  | @lst b ys _ g1 g2 =>
    refine k _ ρ2 G2 H2 _ ([] ++ [b] ++ S) q2 (e1.trans e2) r2 (.cons (.lst (e2 _ _ g1) (inert_trAll ts ys (g2.up e2) it)) hs) ?_ fun a ha => ?_
    · refine List.nodup_cons.mpr ⟨fun z => ?_, nd⟩
      have := (nS b z).2
      rw [g1] at this
      cases this
    · rcases List.mem_cons.mp ha with rfl | ha
      · exact new _ rfl
      · refine ⟨(nS a ha).1, ?_⟩
        cases y : G a with
        | none => rfl
        | some o => have := (nS a ha).2; rw [e1 a o y] at this; cases this
theorem ptl_D (ha : PD X e de) (hr : PA X es (tTl l)) (hs : starEach (e :: es) X.env = (false, eval e X.env) :: starEach es X.env := by rfl) : PA X (e :: es) (tTl ((false, de) :: l)) := pa_imp (pa_cons ha hr hs) fun σ H Q ⟨c, G, ρ, Q', rp, h, k⟩ => by
  refine ⟨c, G, ρ, _, rp, h, fun d ρ1 G1 H1 v q1 e1 r1 hv => ⟨c, G1, ρ1, _, r1, q1.2, fun ds ρ2 G2 H2 vs S q2 e2 r2 hs nd nS => ?_⟩⟩
  refine k _ ρ2 G2 H2 _ ([] ++ S) q2 (e1.trans e2) r2 (.cons (inert_tr d v (hv.up e2) q1.1) hs) nd fun a ha => ⟨(nS a ha).1, ?_⟩
  cases y : G a with
  | none => rfl
  | some o => have := (nS a ha).2; rw [e1 a o y] at this; cases this
def dTld (i : Nat) (l : List (Bool × DE)) : DS := fun D ρ => dtl l ρ fun ds ρ1 => ds.length ≤ 100000 ∧ D.nx (ρ1.set i (.tld (.list ds)))
theorem psd_tld (i : Nat) {x : Str} {p pos lpos : Pos} (hN : X.N.Nodup) (ha : PA X es (tTl l)) (hi : X.N[i]? = some x := by rfl) (hx : Loc X.env.scope x := by first | exact Or.inl rfl | exact Or.inr rfl) (hs : swapsWith (.List es lpos) (some (.Name x p)) pos.line X.env = pure false := by rfl) (hf : X.fn x = true ∨ X.env.scope.names.lookup x = some .local := by first | exact .inl rfl | exact .inr rfl) :
    PSD X (.Assign [.Name x p] (.List es lpos) pos) (dTld i l) := ps_imp (ps_set hN hi hx (pe_lst ha) hs hf) fun D σ H ⟨c, G, ρ, D', r, h, k⟩ => by
  refine ⟨c, G, ρ, _, r, h, fun ds ρ1 G1 H1 vs S q1 e1 r1 tr nd new => ⟨sz_of (by rw [tr.len]; exact q1.1), fun a ap => ?_⟩⟩
  have e3 : Ex G1 (upd G1 a (.lst vs)) := Ex.new (none_up r1.gh ap)
  refine k.nx _ _ _ _ q1.2 (e1.trans e3) ((r1.new (o := .lst vs) ap).setS rfl ⟨.ref a, S ++ [a], rfl, .lst upd_same (TrSAll.to ds vs S tr (fun x ys hx => e3 _ _ hx) fun x _ o hx => e3 _ _ hx), ?_, fun y hy => ?_⟩)
  · refine List.nodup_append.mpr ⟨nd, List.nodup_cons.mpr ⟨(fun z => (nomatch z)), List.nodup_nil⟩, fun x hx y hy z => ?_⟩
    rw [List.mem_singleton.mp hy] at z
    obtain ⟨ys, hy2⟩ := TrSAll.lists ds vs S tr x hx
    rw [z, none_up r1.gh ap] at hy2
    cases hy2
  · rcases List.mem_append.mp hy with hy | hy
    · exact (new y hy).1
    · rw [List.mem_singleton.mp hy]
      exact (r1.free ap).1
end
end DL

set_option Elab.async false
set_option linter.all false
set_option maxRecDepth 100000
set_option maxHeartbeats 1000000
/-! DL17: more assignments at once. -/
namespace DL
open PySem L2 Evl PyProof.Rows RZ
section
variable {X : Cx} {e1 e2 e3 : Expr} {da db dc : DE} {dn : DN} {pos : Pos}
def dPar3 (i j l : Nat) (da db dc : DE) : DS := fun D ρ => da ρ fun x ρ1 => db ρ1 fun y ρ2 => dc ρ2 fun z ρ3 => D.nx (((ρ3.set i (.val x)).set j (.val y)).set l (.val z))
theorem psd_par3 (i j l : Nat) {x y z : Str} {px py pz pt : Pos} {kt k2 pt2} (hc : X.calm = true) (hN : X.N.Nodup) (ha : PD X e1 da) (hb : PD X e2 db) (hd : PD X e3 dc) (hi : X.N[i]? = some x := by rfl) (hj : X.N[j]? = some y := by rfl) (hl : X.N[l]? = some z := by rfl) (hij : i ≠ j := by decide) (hil : i ≠ l := by decide) (hjl : j ≠ l := by decide)
    (hx : X.env.scope.names.lookup x = some .local := by rfl) (hy : X.env.scope.names.lookup y = some .local := by rfl) (hz : X.env.scope.names.lookup z = some .local := by rfl) (hs1 : starEach [e1, e2, e3] X.env = (false, eval e1 X.env) :: starEach [e2, e3] X.env := by rfl) (hs2 : starEach [e2, e3] X.env = (false, eval e2 X.env) :: starEach [e3] X.env := by rfl) (hs3 : starEach [e3] X.env = (false, eval e3 X.env) :: starEach [] X.env := by rfl)
    (hw : swappedStores [.Tuple [.Name x px, .Name y py, .Name z pz] kt pt] (.Tuple [e1, e2, e3] k2 pt2) X.env = pure (some [x, y, z]) := by rfl) (hs : swapsWithSole [.Tuple [.Name x px, .Name y py, .Name z pz] kt pt] (.Tuple [e1, e2, e3] k2 pt2) pos.line X.env = pure false := by rfl) :
    PSD X (.Assign [.Tuple [.Name x px, .Name y py, .Name z pz] kt pt] (.Tuple [e1, e2, e3] k2 pt2) pos) (dPar3 i j l da db dc) := ps_imp (ps_par3 hc hN hi hj hl hij hil hjl hx hy hz (pa_cons ha (pa_cons hb (pa_cons hd pa_nil hs3) hs2) hs1) hw hs) fun D σ H ⟨c, G, ρ, D', r, h, k⟩ =>
  ⟨c, G, ρ, _, r, h, fun d ρ1 G1 H1 v q1 f1 r1 hx => ⟨c, G1, ρ1, _, r1, q1, fun d2 ρ2 G2 H2 w q2 f2 r2 hy => ⟨c, G2, ρ2, _, r2, q2, fun d3 ρ3 G3 H3 u q3 f3 r3 hz => ⟨v, w, u, rfl, k.nx _ G3 H3 _ q3 ((f1.trans f2).trans f3) (((r3.setV (hx.up (f2.trans f3))).setV (hy.up f3)).setV hz)⟩⟩⟩⟩
/-- a, b = x, [..] -/
def dParVN (i j : Nat) (da : DE) (dn : DN) : DS := fun D ρ => da ρ fun x ρ1 => dn ρ1 fun ys ρ2 => D.nx ((ρ2.set i (.val x)).set j (.own ys))
theorem psd_parVN (i j : Nat) {x y : Str} {px py pt : Pos} {kt k2 pt2} (hc : X.calm = true) (hN : X.N.Nodup) (ha : PD X e1 da) (hb : PN X e2 dn) (hi : X.N[i]? = some x := by rfl) (hj : X.N[j]? = some y := by rfl) (hij : i ≠ j := by decide)
    (hx : X.env.scope.names.lookup x = some .local := by rfl) (hy : X.env.scope.names.lookup y = some .local := by rfl) (hs1 : starEach [e1, e2] X.env = (false, eval e1 X.env) :: starEach [e2] X.env := by rfl) (hs2 : starEach [e2] X.env = (false, eval e2 X.env) :: starEach [] X.env := by rfl)
    (hw : swappedStores [.Tuple [.Name x px, .Name y py] kt pt] (.Tuple [e1, e2] k2 pt2) X.env = pure (some [x, y]) := by rfl) (hs : swapsWithSole [.Tuple [.Name x px, .Name y py] kt pt] (.Tuple [e1, e2] k2 pt2) pos.line X.env = pure false := by rfl) :
    PSD X (.Assign [.Tuple [.Name x px, .Name y py] kt pt] (.Tuple [e1, e2] k2 pt2) pos) (dParVN i j da dn) := ps_imp (ps_par hc hN hi hj hij hx hy (pa_cons ha (pa_cons hb pa_nil hs2) hs1) hw hs) fun D σ H ⟨c, G, ρ, D', r, h, k⟩ =>
  ⟨c, G, ρ, _, r, h, fun d ρ1 G1 H1 v q1 f1 r1 hx => ⟨c, G1, ρ1, _, r1, q1, fun ds ρ2 G2 H2 p xs q2 f2 r2 f hy => ⟨v, _, rfl, k.nx _ G2 H2 _ q2 (f1.trans f2)
    ((r2.setV (hx.up f2)).setM (s := .own ds) rfl ⟨p, xs, rfl, (r2.pins _ List.mem_cons_self).1, hy, (r2.pins _ List.mem_cons_self).2.1, f.1⟩ f.2)⟩⟩⟩
/-- the same where one of the names is a cell: a tuple is laid and taken apart -/
theorem psd_unpVN (i j : Nat) {x y : Str} {px py pt : Pos} {kt k2 pt2} (hc : X.calm = true) (hN : X.N.Nodup) (ha : PD X e1 da) (hb : PN X e2 dn) (hi : X.N[i]? = some x := by rfl) (hj : X.N[j]? = some y := by rfl)
    (hx : Loc X.env.scope x := by first | exact Or.inl rfl | exact Or.inr rfl) (hy : Loc X.env.scope y := by first | exact Or.inl rfl | exact Or.inr rfl) (hfx : X.fn x = true ∨ X.env.scope.names.lookup x = some .local := by first | exact .inl rfl | exact .inr rfl) (hfy : X.fn y = true ∨ X.env.scope.names.lookup y = some .local := by first | exact .inl rfl | exact .inr rfl) (hs1 : starEach [e1, e2] X.env = (false, eval e1 X.env) :: starEach [e2] X.env := by rfl) (hs2 : starEach [e2] X.env = (false, eval e2 X.env) :: starEach [] X.env := by rfl)
    (hw : swappedStores [.Tuple [.Name x px, .Name y py] kt pt] (.Tuple [e1, e2] k2 pt2) X.env = pure none := by rfl) (hs : swapsWithSole [.Tuple [.Name x px, .Name y py] kt pt] (.Tuple [e1, e2] k2 pt2) pos.line X.env = pure false := by rfl)
    (h1 : (assignEach [.Tuple [.Name x px, .Name y py] kt pt] X.env).map (·.2) = [assign (.Tuple [.Name x px, .Name y py] kt pt) X.env] := by rfl) (h2 : (assignEach [.Name x px, .Name y py] X.env).map (·.2) = assign (.Name x px) X.env :: (assignEach [.Name y py] X.env).map (·.2) := by rfl) (h3 : (assignEach [.Name y py] X.env).map (·.2) = assign (.Name y py) X.env :: (assignEach [] X.env).map (·.2) := by rfl)
    (hn : (assignEach [.Name x px, .Name y py] X.env).length = 2 := by rfl) (hst : (assignEach [.Name x px, .Name y py] X.env).findIdx? (·.1) = none := by rfl) :
    PSD X (.Assign [.Tuple [.Name x px, .Name y py] kt pt] (.Tuple [e1, e2] k2 pt2) pos) (dParVN i j da dn) := ps_imp (ps_asg (pe_tup (pa_cons ha (pa_cons hb pa_nil hs2) hs1)) (pg_tup hc (pgs_cons (pg_name hN hi hx hfx) (pgs_cons (pg_name hN hj hy hfy) pgs_nil h3) h2) hn hst) hs hw h1) fun D σ H ⟨c, G, ρ, D', r, h, k⟩ => by
  refine ⟨c, G, ρ, _, r, h, fun d ρ1 G1 H1 v q1 f1 r1 hx => ⟨c, G1, ρ1, _, r1, q1, fun ds ρ2 G2 H2 p xs q2 f2 r2 f hy => ⟨sz_of (by decide : 2 ≤ 100000), fun t ht => ?_⟩⟩⟩
  have r3 := r2.newH (o := .tup [v, .ref p]) ht
  refine ⟨t, _, rfl, SqT.of upd_same, rfl, _, _, rfl, _, _, rfl, rfl, ?_⟩
  exact k.nx _ G2 _ _ q2 (f1.trans f2) ((r3.setV (hx.up f2)).setM (s := .own ds) rfl ⟨p, xs, rfl, (r3.pins _ List.mem_cons_self).1, hy, (r3.pins _ List.mem_cons_self).2.1, f.1⟩ f.2)
/-- list(range(n)), list(range(a, b)) -/
theorem rp_rgV {G : Hp} (a b : Int) : RpAll G (rgV a b) (rngD a (b - a).toNat) := by
  unfold rgV rngD
  generalize List.range (b - a).toNat = l
  induction l with
  | nil => exact .nil
  | cons x r ih => exact .cons (.int _) ih
def dLRg1 (da : DE) : DN := fun ρ Q => da ρ fun x ρ1 => ∃ n : Int, x = .int n ∧ 0 ≤ n ∧ n ≤ 16000000 ∧ Q (rngD 0 n.toNat) ρ1
theorem pn_listRg1 {a : Expr} {p p2 pos2 : Pos} (hc : X.calm = true) (hm2 : X.mg "range" = none) (hm : X.mg "list" = none) (ha : PD X a da) (hg : Gl X "list" := by rfl) (hg2 : Gl X "range" := by rfl) (na : starEach [a] X.env = (false, eval a X.env) :: starEach [] X.env := by rfl) (nb : starEach [.Call (.Name "range" p2) [a] [] pos2] X.env = (false, eval (.Call (.Name "range" p2) [a] [] pos2) X.env) :: starEach [] X.env := by rfl) :
    PN X (.Call (.Name "list" p) [.Call (.Name "range" p2) [a] [] pos2] [] pos) (dLRg1 da) := pe_imp (pe_listRg hc hg hm (prg_1 hg2 hm2 ha na) nb) fun σ H Q ⟨c, G, ρ, Q', rp, h, k⟩ => by
  refine ⟨c, G, ρ, _, rp, h, fun d ρ1 G1 H1 v q1 e1 r1 hx => ?_⟩
  obtain ⟨n, rfl, h0, h1, q⟩ := q1
  cases hx
  refine ⟨n, rfl, RgOk.of_le (by decide) (by omega) (by decide) h0, fun t ht => ?_⟩
  have e : rngD 0 n.toNat = rngD 0 (n - 0).toNat := by rw [Int.sub_zero]
  rw [e] at q
  exact k _ ρ1 G1 _ t _ q e1 (r1.pinN ht) (r1.free ht) (rp_rgV 0 n)
end
end DL

set_option Elab.async false
set_option linter.all false
set_option maxRecDepth 100000
set_option maxHeartbeats 1000000
/-! DL18: `[..] * n` as a new list, `d = {}`, `d[k] = e` at a key old or new. -/
namespace DL
open PySem L2 Evl PyProof.Rows RZ
section
variable {X : Cx} {e a b kx : Expr} {de da db dk : DE} {pos : Pos}
def dRepN (da db : DE) : DN := fun ρ Q => da ρ fun x ρ1 => db ρ1 fun y ρ2 => match x, y with
  | .list ds, .int k => (-(2 ^ 63) ≤ k ∧ k < 2 ^ 63 ∧ ds.length * k.toNat ≤ 100000) ∧ Q (repD k.toNat ds) ρ2
  | _, _ => False
theorem pn_rep (ha : PD X a da) (hb : PR X b db) : PN X (.BinOp a .Mult b pos) (dRepN da db) := pe_imp (pe_op op_rep ha hb) fun σ H Q ⟨c, G, ρ, Q', rp, h, k⟩ => by
  refine ⟨c, G, ρ, _, rp, h, fun x ρ1 G1 H1 v q1 e1 r1 hx => ⟨c, G1, ρ1, _, r1, q1, fun y ρ2 G2 H2 w q2 e2 r2 hy => ?_⟩⟩
  cases x with
  | list ds =>
    cases y with
    | int n =>
      have hx2 := hx.up e2
      cases hx2 with
      | lst h4 h5 =>
      exact ⟨_, n, _, rfl, hy.int, r2.gh _ _ h4, q2.1.1, q2.1.2.1, sz_of (by rw [h5.len]; exact q2.1.2.2), fun p hp => k _ ρ2 G2 _ p _ q2.2 (e1.trans e2) (r2.pinN hp) (r2.free hp) (h5.rep _)⟩
    | _ => exact q2.elim
  | _ => cases y <;> exact q2.elim
/-- d = {} -/
def dSetDic (i : Nat) : DS := fun D ρ => D.nx (ρ.set i (.dic []))
theorem psd_setDic (i : Nat) {x : Str} {p pd : Pos} (hN : X.N.Nodup) (hi : X.N[i]? = some x := by rfl) (hx : Loc X.env.scope x := by first | exact Or.inl rfl | exact Or.inr rfl) (hs : swapsWith (.Dict [] [] pd) (some (.Name x p)) pos.line X.env = pure false := by rfl) (hf : X.fn x = true ∨ X.env.scope.names.lookup x = some .local := by first | exact .inl rfl | exact .inr rfl) :
    PSD X (.Assign [.Name x p] (.Dict [] [] pd) pos) (dSetDic i) := ps_imp (ps_set hN hi hx pe_dnewK hs hf) fun D σ H ⟨c, G, ρ, D', r, h, k⟩ => by
  intro p hp
  have r1 := r.pinN (o := .dK []) hp
  have fp := r.free hp
  have a2 := r1.pins (p, .dK []) List.mem_cons_self
  exact k.nx _ G _ _ h (Ex.refl G) (Rep.setM (c := c) (i := i) r1 (s := .dic []) rfl ⟨p, [], rfl, a2.1, .nil, a2.2.1, fp.1⟩ fp.2)
/-- put in its place, or at the end -/
def putD (kvs : List (Key × PyData)) (k : Key) (d : PyData) : List (Key × PyData) := if (atD kvs k).isSome then kvs.map (fun kv => if kv.1 = k then (kv.1, d) else kv) else kvs ++ [(k, d)]
theorem kv_put {G : Hp} {k : Key} {v : V} {d : PyData} {a : List (Key × V)} {b : List (Key × PyData)} (h : KvRp G a b) (hv : Rp G v d) : KvRp G (putK a k v) (putD b k d) := by
  cases q : atD b k with
  | none =>
    have e : putD b k d = b ++ [(k, d)] := by unfold putD; rw [q]; rfl
    rw [e]
    exact kv_new h q hv
  | some z =>
    have e : putD b k d = b.map (fun kv => if kv.1 = k then (kv.1, d) else kv) := by unfold putD; rw [q]; rfl
    obtain ⟨u, u1, _⟩ := (kv_at h).1 z q
    have e2 : putK a k v = a.map (fun kv => if kv.1 = k then (kv.1, v) else kv) := by
      unfold putK
      rw [valV_any, u1]
      rfl
    rw [e, e2]
    clear e e2 q u1
    induction h with
    | nil => exact .nil
    | @cons j w f r s hw t ih =>
      rw [List.map_cons, List.map_cons]
      by_cases y : j = k
      · rw [if_pos (show (j, w).1 = k from y), if_pos (show (j, f).1 = k from y)]
        exact .cons hv ih
      · rw [if_neg (show ¬ (j, w).1 = k from y), if_neg (show ¬ (j, f).1 = k from y)]
        exact .cons hw ih
def dDPutU (i : Nat) (dk de : DE) : DS := fun D ρ => de ρ fun d ρ1 => dic ρ1 i fun _ => dk ρ1 fun z ρ2 => dic ρ2 i fun kvs => ∃ k, keyD z = some k ∧ kvs.length < 100000 ∧ D.nx (ρ2.set i (.dic (putD kvs k d)))
theorem psd_dputU (i : Nat) {y : Str} {p2 p3 : Pos} (hu : X.A.units + 1 < cLine) (he : PD X e de) (hk : PD X kx dk) (hN : X.N[i]? = some y := by rfl) (hvy : Vis X.env.scope y := by first | exact Or.inl rfl | exact Or.inr (Or.inl rfl) | exact Or.inr (Or.inr rfl)) (hdy : (y == ("__debug__" : Str)) = false := by decide) (hcd : (y == ("__classdict__" : Str)) = false := by decide)
    (hs : swapsWith e (some (.Subscript (.Name y p2) kx p3)) pos.line X.env = pure false := by rfl) : PSD X (.Assign [.Subscript (.Name y p2) kx p3] e pos) (dDPutU i dk de) := ps_imp (ps_dput hu (pe_var hN hvy hdy hcd) hk he hs) fun D σ H ⟨c, G, ρ, D', r, h, k⟩ => by
  refine ⟨c, G, ρ, _, r, h, fun d ρ1 G1 H1 v q1 e1 r1 hx => ?_⟩
  obtain ⟨a, _, _, h1, _, _, h4, _⟩ := dic_some r1 q1
  refine ⟨_, h1, c, G1, ρ1, _, r1, h4, fun z ρ2 G2 H2 w q2 e2 r2 hz => ?_⟩
  obtain ⟨a', kws, kvs, k1, k2, k3, ⟨kk, z1, z3, z4⟩, k5, k6, k7⟩ := dic_some r2 q2
  rw [h1] at k1
  cases k1
  refine ⟨a, _, rfl, ?_, k.nx _ G2 _ _ z4 (e1.trans e2) (r2.chg (t := .dic (putD kvs kk d)) (o := .dK (putK kws kk v)) k5 rfl rfl h1 (.inl k7) ⟨a, _, rfl, upd_same, kv_put k3 (hx.up e2), k6, k7⟩)⟩
  rw [key_v (H := H2) (.inl hz) z1]
  exact DPut.k k2 (sz_lt (by rw [kv_len k3]; exact z3))
end
end DL

set_option Elab.async false
set_option linter.all false
set_option maxRecDepth 100000
set_option maxHeartbeats 1000000
/-! DLRep: what repr makes of nested data is not too long and is a string. -/
namespace DL
open PySem L2 Evl PyProof.Rows RZ
theorem so_app {a b : Str} (h1 : PyData.strOk a = true) (h2 : PyData.strOk b = true) : PyData.strOk (a ++ b) = true := by
  unfold PyData.strOk at *
  have e : (a ++ b).cps = a.cps ++ b.cps := rfl
  rw [e, Array.all_append, h1, h2]
  rfl
theorem so_of (s : String) : PyData.strOk (Str.ofString s) = true := by
  unfold PyData.strOk
  rw [Str.ofString_eq_toList]
  show (Array.all _ _) = true
  rw [List.all_toArray, List.all_eq_true]
  intro x hx
  obtain ⟨c, _, rfl⟩ := List.mem_map.mp hx
  have : c.toNat < 1114112 := by
    have := c.valid
    unfold Char.toNat
    rcases this with h | h
    · exact Nat.lt_trans h (by decide)
    · exact h.2
  exact decide_eq_true this
theorem so_from : ∀ (ts : List Str) (k : Nat) (acc : Str), PyData.strOk acc = true → (∀ t ∈ ts, PyData.strOk t = true) → PyData.strOk (textFrom k acc ts) = true
  | [], _, _, h, _ => h
  | t :: ts, k, acc, h, g => by
    unfold textFrom
    exact so_from ts _ _ (so_app (so_app h (so_of _)) (g t List.mem_cons_self)) fun x hx => g x (List.mem_cons_of_mem _ hx)
theorem so_list {ts : List Str} (h : ∀ t ∈ ts, PyData.strOk t = true) : PyData.strOk (listText ts) = true := so_app (so_from ts 0 _ (so_of "[") h) (so_of "]")
theorem so_join (sep : Str) (hs : PyData.strOk sep = true) : ∀ (ts : List Str), (∀ t ∈ ts, PyData.strOk t = true) → PyData.strOk (Str.join sep ts) = true
  | [], _ => so_of ""
  | [t], h => h t List.mem_cons_self
  | t :: u :: r, h => so_app (so_app (h t List.mem_cons_self) hs) (so_join sep hs (u :: r) fun x hx => h x (List.mem_cons_of_mem _ hx))
theorem so_tuple {ts : List Str} (h : ∀ t ∈ ts, PyData.strOk t = true) : PyData.strOk (tupleText ts) = true := by
  unfold tupleText
  exact so_app (so_app (so_of "(") (so_join _ (so_of ", ") ts h)) (so_of _)
/-- shown by at most L signs -/
structure Rb (d : PyData) (L : Nat) : Prop where
  sh : d.showable = true
  len : d.shown.length ≤ L
  ok : PyData.strOk d.shown = true
theorem Rb.int {i : Int} (h : i.natAbs < 2 ^ 100) : Rb (.int i) 40 where
  sh := by
    have lg : i.natAbs.log2 < 1920 := by
      by_cases z : i.natAbs = 0
      · rw [z]; decide
      · exact Nat.lt_of_lt_of_le ((Nat.log2_lt z).mpr h) (by decide)
    simp only [PyData.showable, decide_eq_true lg]
  len := by
    simp only [PyData.shown]
    have e := int_text_length_le10 (a := i) (k := 31) (by decide) (Nat.lt_of_lt_of_le h (by decide))
    rw [PySem.ofString_length]
    omega
  ok := by
    simp only [PyData.shown]
    exact so_of _
theorem Rb.mono {d : PyData} {L M : Nat} (h : Rb d L) (l : L ≤ M) : Rb d M := ⟨h.sh, Nat.le_trans h.len l, h.ok⟩
theorem rb_all {L : Nat} : ∀ {ds : List PyData}, (∀ d ∈ ds, Rb d L) → PyData.showableAll ds = true ∧ ((PyData.shownAll ds).map (·.length)).sum ≤ ds.length * L ∧ (PyData.shownAll ds).length = ds.length ∧ ∀ t ∈ PyData.shownAll ds, PyData.strOk t = true
  | [], _ => ⟨by simp only [PyData.showableAll], by simp only [PyData.shownAll]; exact Nat.zero_le _, by simp only [PyData.shownAll, List.length_nil], by simp only [PyData.shownAll]; exact fun _ h => nomatch h⟩
  | d :: ds, h => by
    obtain ⟨a, b, c, e⟩ := rb_all fun x hx => h x (List.mem_cons_of_mem _ hx)
    have hd := h d List.mem_cons_self
    have l := hd.len
    refine ⟨by simp only [PyData.showableAll, hd.sh, a, Bool.and_true], ?_, ?_, ?_⟩
    · simp only [PyData.shownAll, List.map_cons, List.sum_cons, List.length_cons, Nat.succ_mul]
      omega
    · simp only [PyData.shownAll, List.length_cons, c]
    · simp only [PyData.shownAll]
      intro t ht
      rcases List.mem_cons.mp ht with rfl | ht
      · exact hd.ok
      · exact e t ht
theorem Rb.list {L : Nat} {ds : List PyData} (h : ∀ d ∈ ds, Rb d L) : Rb (.list ds) (ds.length * L + 2 * ds.length + 3) := by
  obtain ⟨a, b, c, e⟩ := rb_all h
  refine ⟨by simp only [PyData.showable, a], ?_, ?_⟩
  · simp only [PyData.shown]
    have := listText_len_le (PyData.shownAll ds)
    rw [c] at this
    omega
  · simp only [PyData.shown]
    exact so_list e
theorem Rb.tuple {L : Nat} {ds : List PyData} (h : ∀ d ∈ ds, Rb d L) : Rb (.tuple ds) (ds.length * L + 2 * ds.length + 3) := by
  obtain ⟨a, b, c, e⟩ := rb_all h
  refine ⟨by simp only [PyData.showable, a], ?_, ?_⟩
  · simp only [PyData.shown]
    have := tupleText_len_le (PyData.shownAll ds)
    rw [c] at this
    omega
  · simp only [PyData.shown]
    exact so_tuple e
theorem Rb.shaped {d : PyData} {L : Nat} (h : Rb d L) : SeqAt.shaped (.str d.shown) = true := by
  unfold SeqAt.shaped
  simp only [PyData.canLay0, h.ok, PyData.depth]
  rfl
theorem size_line : sizeLine = 16777216 := by unfold sizeLine; decide
end DL

set_option Elab.async false
set_option linter.all false
set_option maxRecDepth 100000
set_option maxHeartbeats 1000000
/-! KS: what every law's own helpers promise. -/
namespace DL
open PySem L2 Evl PyProof.Rows RZ
def dints (ns : List Int) : PyData := .list (ns.map .int)
/-- a purse whose counter is at most n -/
def PuOk (n : Nat) (ns : List Int) : Prop := ∃ a b c t : Int, ns = [a, b, c, t] ∧ (0 ≤ a ∧ a < 2 ^ 1600) ∧ (0 ≤ b ∧ b < 2147483629) ∧ (0 ≤ c ∧ c ≤ n) ∧ (0 ≤ t ∧ t ≤ 1000)
def whl : PyData → Bool
  | .int _ => true
  | _ => false
def cnt (l : Int) : PyData → Bool
  | .int n => decide (max l 0 ≤ n)
  | _ => false
def tupn (n : Int) : PyData → Bool
  | .tuple ds => decide ((ds.length : Int) = n)
  | _ => false
def m_is_whole : M1 := fun xs Q => ∃ d, xs = [d] ∧ Q (.bool (whl d))
def m_is_count : M1 := fun xs Q => ∃ d l, xs = [d, .int l] ∧ Q (.bool (cnt l d))
def m_is_tuple_of : M1 := fun xs Q => ∃ d n, xs = [d, .int n] ∧ Q (.bool (tupn n d))
def m__law_mixed : M1 := fun xs Q => ∃ a b c : Int, xs = [.int a, .int b, .int c] ∧ (0 ≤ a ∧ a < 2 ^ 1000) ∧ (0 ≤ b ∧ b < 2 ^ 1000) ∧ (0 ≤ c ∧ c < 2 ^ 1000) ∧ ∀ r : Int, 0 ≤ r → r < 2147483587 → Q (.int r)
def m__law_draw : MP := fun qs xs Q => ∃ n ns, ∃ many : Int, qs = ns.map .int ∧ xs = [.int many] ∧ PuOk n ns ∧ n + 100 ≤ 2 ^ 60 ∧ (0 < many ∧ many < 2 ^ 2000) ∧ ∀ (d : Int) ms, 0 ≤ d → d < many → PuOk (n + 100) ms → Q (.int d) (ms.map .int)
def mSame (n : Nat) : M1 := fun xs Q => ∃ d, xs = [d, d] ∧ fitD n d = true ∧ Q (.bool true)
def m__law_same : M1 := mSame 8
def m__law_purse : MS := fun ns xs Q => ∃ t : Int, xs = [.int t] ∧ (0 ≤ t ∧ t ≤ 1000) ∧ ∀ ms, PuOk 0 ms → Q (dints ms)
def m__law_purses : MS := fun ns xs Q => ns.length ≤ 63 ∧ ∃ few : Int, xs = [.int few] ∧ (1 ≤ few ∧ few ≤ 60) ∧ ∀ pss : List (List Int), (∀ ms ∈ pss, PuOk 0 ms) → pss.length ≤ 60 → Q (.list (pss.map dints))
end DL

set_option Elab.async false
set_option linter.all false
set_option maxRecDepth 100000
set_option maxHeartbeats 1000000
namespace K18
open PySem L2 Evl PyProof.Rows RZ DL
def gt (cs : List Int) (i : Nat) : Int := cs.getD i 0
/-- the colour of two guests -/
def pc (rows : List (List Int)) (a b : Nat) : Int := gt (rows.getD (max a b) []) (min a b)
def pD (c : Int) (rows : List (List Int)) : PyData := .tuple [.int c, .list (rows.map dints)]
structure WF (c : Int) (rows : List (List Int)) : Prop where
  pos : 1 ≤ c
  few : c ≤ 1000
  len : rows.length ≤ 24
  row : ∀ (i : Nat) (r : List Int), rows[i]? = some r → r.length = i ∧ ∀ x ∈ r, 0 ≤ x ∧ x < c
def t3D (t : Nat × Nat × Nat) : PyData := .tuple [.int (t.1 : Int), .int (t.2.1 : Int), .int (t.2.2 : Int)]
def trips (n : Nat) : List (Nat × Nat × Nat) := (List.range n).flatMap fun a => (List.range (n - (a + 1))).flatMap fun i => (List.range (n - (a + 1 + i + 1))).map fun j => (a, a + 1 + i, a + 1 + i + 1 + j)
def kind (rows : List (List Int)) (t : Nat × Nat × Nat) : Nat :=
  if pc rows t.1 t.2.1 = pc rows t.1 t.2.2 then (if pc rows t.2.1 t.2.2 = pc rows t.1 t.2.1 then 1 else 2) else (if pc rows t.2.1 t.2.2 = pc rows t.1 t.2.1 ∨ pc rows t.2.1 t.2.2 = pc rows t.1 t.2.2 then 2 else 3)
def onesL (rows : List (List Int)) : List (Nat × Nat × Nat) := (trips rows.length).filter fun t => decide (kind rows t = 1)
def onesD (rows : List (List Int)) : PyData := .list ((onesL rows).map t3D)
def natsD (l : List Nat) : PyData := .list (l.map fun (i : Nat) => PyData.int (i : Int))
/-- the weights' sum over the triples of one kind -/
def wk (rows : List (List Int)) (ws : List Int) (k : Nat) : Int := (((trips rows.length).filter fun t => decide (kind rows t = k)).map fun t => gt ws t.1 * gt ws t.2.1 * gt ws t.2.2).sum
def wD (rows : List (List Int)) (ws : List Int) : PyData := .tuple [.int (wk rows ws 1), .int (wk rows ws 2), .int (wk rows ws 3)]
def Ws (rows : List (List Int)) (ws : List Int) : Prop := ws.length = rows.length ∧ ∀ x ∈ ws, 0 ≤ x ∧ x < 2 ^ 60
def named (rows : List (List Int)) (nm : List Nat) : List (List Int) := (List.range nm.length).map fun i => (List.range i).map fun j => pc rows (nm.getD i 0) (nm.getD j 0)
def countsL (c : Int) (rows : List (List Int)) (g : Nat) : List Int := (List.range c.toNat).map fun (k : Nat) => ((((List.range rows.length).filter fun l => decide (l ≠ g) && decide (pc rows g l = (k : Int))).length : Nat) : Int)
def unlike (c : Int) (rows : List (List Int)) (g : Nat) : Int := ((countsL c rows g).sum * (countsL c rows g).sum - ((countsL c rows g).map fun x => x * x).sum) / 2
def unlikeD (c : Int) (rows : List (List Int)) : PyData := .list ((List.range rows.length).map fun (g : Nat) => PyData.int (unlike c rows g))
/-- twice over: the guest's look at a triple -/
def fits (rows : List (List Int)) (g : Nat) (t : Nat × Nat × Nat) : Bool := decide (g = t.1 ∨ g = t.2.1 ∨ g = t.2.2) || (decide (pc rows g t.1 = pc rows g t.2.1) && decide (pc rows g t.2.1 = pc rows g t.2.2))
def firstF (rows : List (List Int)) (g : Nat) : PyData := match (onesL rows).find? (fits rows g) with
  | some t => t3D t
  | none => .none
def cornersI (rows : List (List Int)) (ws : List Int) : Int := 2 * wk rows ws 2 + 3 * wk rows ws 3
def Pd (xs : List PyData) (c : Int) (rows : List (List Int)) (r : List PyData) : Prop := xs = pD c rows :: r ∧ WF c rows
def m_colour_there : M1 := fun xs Q => ∃ c rows, ∃ a b : Nat, Pd xs c rows [.int (a : Int), .int (b : Int)] ∧ a < rows.length ∧ b < rows.length ∧ a ≠ b ∧ Q (.int (pc rows a b))
def m__law_colour : M1 := m_colour_there
def m_triples_of : M1 := fun xs Q => ∃ n : Nat, xs = [.int (n : Int)] ∧ n ≤ 24 ∧ Q (.list ((trips n).map t3D))
def m__law_chain : M1 := fun xs Q => False
def m_partners_there : M1 := fun xs Q => ∃ c rows, ∃ g : Nat, ∃ k : Int, Pd xs c rows [.int (g : Int), .int k] ∧ g < rows.length ∧ Q (natsD ((List.range rows.length).filter fun l => decide (l ≠ g) && decide (pc rows g l = k)))
def Tr (n : Nat) (t : Nat × Nat × Nat) : Prop := t.1 < t.2.1 ∧ t.2.1 < t.2.2 ∧ t.2.2 < n
def m_colours_of : M1 := fun xs Q => ∃ c rows t, Pd xs c rows [.int (t.1 : Int), .int (t.2.1 : Int), .int (t.2.2 : Int)] ∧ Tr rows.length t ∧ Q (.int (kind rows t : Int))
def m__law_named : M1 := fun xs Q => ∃ c rows, ∃ nm : List Nat, Pd xs c rows [natsD nm] ∧ nm.Perm (List.range rows.length) ∧ Q (pD c (named rows nm))
def m__law_counts : M1 := fun xs Q => ∃ c rows, ∃ g : Nat, Pd xs c rows [.int (g : Int)] ∧ g < rows.length ∧ Q (dints (countsL c rows g))
def m__law_ones : M1 := fun xs Q => ∃ c rows, Pd xs c rows [] ∧ Q (onesD rows)
def m__law_corners : M1 := fun xs Q => ∃ c rows ws, Pd xs c rows [dints ws] ∧ Ws rows ws ∧ Q (.int (cornersI rows ws))
def m__law_fits : M1 := fun xs Q => ∃ c rows, ∃ g : Nat, ∃ t, Pd xs c rows [.int (g : Int), t3D t] ∧ g < rows.length ∧ Tr rows.length t ∧ Q (.bool (fits rows g t))
def m_is_row : M1 := fun xs Q => ∃ (c : Int) (row : List Int), xs = [.int c, .int (row.length : Int), dints row] ∧ (∀ x ∈ row, 0 ≤ x ∧ x < c) ∧ row.length ≤ 1000 ∧ Q (.bool true)
def m_is_guest : M1 := fun xs Q => ∃ c rows, ∃ g : Nat, Pd xs c rows [.int (g : Int)] ∧ g < rows.length ∧ Q (.bool true)
def m_ones_there : M1 := fun xs Q => ∃ c rows, Pd xs c rows [] ∧ Q (onesD rows)
def m_ones_of : M1 := m_ones_there
def m__law_one_of : MP := fun qs xs Q => ∃ n ns, ∃ ks : List Int, qs = ns.map .int ∧ xs = [dints ks] ∧ PuOk n ns ∧ n + 100 ≤ 2 ^ 60 ∧ ks ≠ [] ∧ ks.length ≤ 1000 ∧ ∀ k ms, k ∈ ks → PuOk (n + 100) ms → Q (.int k) (ms.map .int)
def m__law_shuffled : MP := fun qs xs Q => ∃ n ns, ∃ ks : List Nat, qs = ns.map .int ∧ xs = [natsD ks] ∧ PuOk n ns ∧ n + 10000 ≤ 2 ^ 60 ∧ ks.length ≤ 90 ∧ ∀ js ms, js.Perm ks → PuOk (n + 9000) ms → Q (natsD js) (ms.map .int)
def m__law_weighed : M1 := fun xs Q => ∃ c rows ws, Pd xs c rows [dints ws, onesD rows] ∧ Ws rows ws ∧ Q (wD rows ws)
def m__law_triple_right : M1 := fun xs Q => ∃ c rows, ∃ g : Nat, Pd xs c rows [.int (g : Int), onesD rows, firstF rows g] ∧ g < rows.length ∧ Q (.bool true)
def m_is_party : M1 := fun xs Q => ∃ c rows, Pd xs c rows [] ∧ Q (.bool true)
def m_check_guest : M1 := fun xs Q => ∃ c rows, ∃ g : Nat, Pd xs c rows [.int (g : Int)] ∧ g < rows.length ∧ Q .none
def m__law_party : MP := fun qs xs Q => ∃ n ns, qs = ns.map .int ∧ xs = [] ∧ PuOk n ns ∧ n + 1000000 ≤ 2 ^ 60 ∧ ∀ c rows ms, WF c rows → PuOk (n + 900000) ms → Q (pD c rows) (ms.map .int)
def m_check_party : M1 := fun xs Q => ∃ c rows, Pd xs c rows [] ∧ Q .none
def m_check_pair : M1 := fun xs Q => ∃ c rows, ∃ a b : Nat, Pd xs c rows [.int (a : Int), .int (b : Int)] ∧ a < rows.length ∧ b < rows.length ∧ a ≠ b ∧ Q .none
def m_triple_counts : M1 := fun xs Q => ∃ c rows, Pd xs c rows [] ∧ Q (wD rows (List.replicate rows.length 1))
def m_unlike_corners : M1 := fun xs Q => ∃ c rows, Pd xs c rows [] ∧ Q (unlikeD c rows)
def m_triple_at : M1 := fun xs Q => ∃ c rows, ∃ g : Nat, Pd xs c rows [.int (g : Int)] ∧ g < rows.length ∧ Q (firstF rows g)
def m_weighed_triples : M1 := fun xs Q => ∃ c rows ws, Pd xs c rows [dints ws] ∧ Ws rows ws ∧ Q (wD rows ws)
def m_closers : M1 := fun xs Q => ∃ c rows, ∃ a b : Nat, Pd xs c rows [.int (a : Int), .int (b : Int)] ∧ a < rows.length ∧ b < rows.length ∧ a ≠ b ∧ Q (natsD ((List.range rows.length).filter fun l => decide (l ≠ a ∧ l ≠ b) && (decide (pc rows a l = pc rows a b) && decide (pc rows b l = pc rows a b))))
def m__law_is_right : MP := fun qs xs Q => ∃ n ns c rows, qs = ns.map .int ∧ Pd xs c rows [] ∧ PuOk n ns ∧ n + 1000000 ≤ 2 ^ 60 ∧ ∀ ms, PuOk (n + 900000) ms → Q (.bool true) (ms.map .int)
end K18

set_option Elab.async false
set_option linter.all false
set_option maxRecDepth 100000
set_option maxHeartbeats 1000000
namespace K18
open PySem L2 Evl PyProof.Rows RZ DL
abbrev nm_is_whole : List Str := ["value"]
abbrev ps_is_whole : List Str := ["value"]
abbrev nm_is_count : List Str := ["value", "least"]
abbrev ps_is_count : List Str := ["value", "least"]
abbrev nm_is_tuple_of : List Str := ["value", "size"]
abbrev ps_is_tuple_of : List Str := ["value", "size"]
abbrev nm_is_row : List Str := ["colours", "many", "value", "one"]
abbrev ps_is_row : List Str := ["colours", "many", "value"]
abbrev nm_is_party : List Str := ["value", "guest", "row"]
abbrev ps_is_party : List Str := ["value"]
abbrev nm_check_party : List Str := ["value"]
abbrev ps_check_party : List Str := ["value"]
abbrev nm_is_guest : List Str := ["party", "value"]
abbrev ps_is_guest : List Str := ["party", "value"]
abbrev nm_check_guest : List Str := ["party", "value"]
abbrev ps_check_guest : List Str := ["party", "value"]
abbrev nm_colour_there : List Str := ["party", "one", "other"]
abbrev ps_colour_there : List Str := ["party", "one", "other"]
abbrev nm_check_pair : List Str := ["party", "one", "other"]
abbrev ps_check_pair : List Str := ["party", "one", "other"]
abbrev nm_partners_there : List Str := ["party", "guest", "colour", "late"]
abbrev ps_partners_there : List Str := ["party", "guest", "colour"]
abbrev nm_colours_of : List Str := ["party", "one", "other", "third", "first", "second", "last"]
abbrev ps_colours_of : List Str := ["party", "one", "other", "third"]
abbrev nm_triples_of : List Str := ["many", "found", "one", "other", "third"]
abbrev ps_triples_of : List Str := ["many"]
abbrev nm_triple_counts : List Str := ["party", "kinds", "triple"]
abbrev ps_triple_counts : List Str := ["party"]
abbrev nm_ones_there : List Str := ["party", "triple"]
abbrev ps_ones_there : List Str := ["party"]
abbrev nm_ones_of : List Str := ["party"]
abbrev ps_ones_of : List Str := ["party"]
abbrev nm_closers : List Str := ["party", "one", "other", "colour", "mates", "late"]
abbrev ps_closers : List Str := ["party", "one", "other"]
abbrev nm_unlike_corners : List Str := ["party", "many", "found", "guest", "counts", "late", "colour", "whole", "count"]
abbrev ps_unlike_corners : List Str := ["party"]
abbrev nm_triple_at : List Str := ["party", "guest", "triple", "mine", "late", "colour"]
abbrev ps_triple_at : List Str := ["party", "guest"]
abbrev nm_weighed_triples : List Str := ["party", "weights", "found", "one", "other", "third", "kind"]
abbrev ps_weighed_triples : List Str := ["party", "weights"]
abbrev nm__law_purse : List Str := ["script", "at", "seed"]
abbrev ps__law_purse : List Str := ["script", "at"]
abbrev nm__law_mixed : List Str := ["seed", "spin", "at", "mixed"]
abbrev ps__law_mixed : List Str := ["seed", "spin", "at"]
abbrev nm__law_draw : List Str := ["purse", "many", "drawn", "found", "piece"]
abbrev ps__law_draw : List Str := ["purse", "many"]
abbrev nm__law_one_of : List Str := ["purse", "some"]
abbrev ps__law_one_of : List Str := ["purse", "some"]
abbrev nm__law_purses : List Str := ["script", "few", "at"]
abbrev ps__law_purses : List Str := ["script", "few"]
abbrev nm__law_shuffled : List Str := ["purse", "some", "found", "item"]
abbrev ps__law_shuffled : List Str := ["purse", "some"]
abbrev nm__law_same : List Str := ["told", "due", "is_like", "one", "other"]
abbrev ps__law_same : List Str := ["told", "due"]
abbrev nm__law_chain : List Str := ["lists", "found", "late"]
abbrev ps__law_chain : List Str := ["lists"]
abbrev nm__law_colour : List Str := ["party", "one", "other"]
abbrev ps__law_colour : List Str := ["party", "one", "other"]
abbrev nm__law_named : List Str := ["party", "naming", "rows", "at", "one", "late"]
abbrev ps__law_named : List Str := ["party", "naming"]
abbrev nm__law_is_crowd : List Str := ["party", "colour", "guests", "at", "one", "late"]
abbrev ps__law_is_crowd : List Str := ["party", "colour", "guests"]
abbrev nm__law_party : List Str := ["purse", "many", "colours", "way", "lots", "rows", "guest", "row", "late"]
abbrev ps__law_party : List Str := ["purse"]
abbrev nm__law_counts : List Str := ["party", "guest", "many", "row", "late", "colour"]
abbrev ps__law_counts : List Str := ["party", "guest"]
abbrev nm__law_ones : List Str := ["party", "found", "many", "one", "other", "colour", "third"]
abbrev ps__law_ones : List Str := ["party"]
abbrev nm__law_corners : List Str := ["party", "weights", "whole", "guest", "sums", "late", "colour"]
abbrev ps__law_corners : List Str := ["party", "weights"]
abbrev nm__law_weighed : List Str := ["party", "weights", "ones", "found", "sums", "pairs", "three", "one", "other", "third", "weight", "unlike"]
abbrev ps__law_weighed : List Str := ["party", "weights", "ones"]
abbrev nm__law_is_right : List Str := ["purse", "party", "many", "noted", "ones", "counts", "unlike", "told", "top", "weights", "naming", "named", "late", "spin", "one", "other", "colour", "mates", "guest", "row", "far", "number"]
abbrev ps__law_is_right : List Str := ["purse", "party"]
abbrev nm__law_fits : List Str := ["party", "guest", "triple", "told", "late"]
abbrev ps__law_fits : List Str := ["party", "guest", "triple"]
abbrev nm__law_triple_right : List Str := ["party", "guest", "ones", "told", "some", "triple"]
abbrev ps__law_triple_right : List Str := ["party", "guest", "ones", "told"]
abbrev nm_law : List Str := ["script", "purse"]
abbrev ps_law : List Str := ["script"]
def bd_is_whole : DS :=
  (dRet (dAnd (dIs1 "int" (dRd 0)) (dNot (dIs1 "bool" (dRd 0)))))
def bd_is_tuple_of : DS :=
  (dRet (dAnd (dIs1 "tuple" (dRd 0)) (dBin fEq (dUn fLen (dRd 0)) (dRd 1))))
def bd_colour_there : DS :=
  (dRet (dBin fIx (dBin fIx (dBinV fIx 0 (dC (.int 1))) (dBin fMax2 (dVar 1) (dRd 2))) (dBin fMin2 (dVar 1) (dRd 2))))
def bd_triples_of : DS :=
  (dSeq (dSet 1 (asD (dLst daNil)))
    (dSeq (dFor (dRange1 (dVar 0)) (dgName 2)
    (dFor (dRange2 (dBinV fAdd 2 (dC (.int 1))) (dVar 0)) (dgName 3)
    (dSet 1 (dBinV fAdd 1 (asD (dLc (dRange2 (dBinV fAdd 3 (dC (.int 1))) (dVar 0)) (dgName 4) dYes (dTup (daCons (dVar 2) (daCons (dVar 3) (daCons (dVar 4) daNil)))) [4]))))))
    (dRet (dVar 1))))
def bd__law_purse (K : PySem.W.Frag) : DS :=
  (dSeq (dSet 2 (dUn fSum (asD (dSlS K 0 (dPart (dVar 1)) (dPart (dBinV fAdd 1 (dC (.int 1))))))))
    (dRet (asD (dLst (daCons (dBin fMod (dUn fInt (dBin fMax2 (dBinV fSub 2 (dBin fPow (dC (.int 10)) (dC (.int 18)))) (dC (.int 0)))) (dBin fPow (dBin fPow (dC (.int 10)) (dC (.int 60))) (dC (.int 8)))) (daCons (dBin fMod (dUn fInt (dRd 2)) (dC (.int 2147483629))) (daCons (dC (.int 0)) (daCons (dVar 1) daNil))))))))
def bd__law_mixed : DS :=
  (dSeq (dSet 3 (dBin fAdd (dBinV fMul 0 (dC (.int 69069))) (dBin fMul (dBin fMul (dC (.int 104729)) (dRd 1)) (dRd 1))))
    (dSeq (dSet 3 (dBin fMod (dUn fInt (dBin fAdd (dBinV fAdd 3 (dBin fMul (dC (.int 7919)) (dRd 2))) (dRd 1))) (dC (.int 2147483647))))
    (dSeq (dSet 3 (dBin fMod (dUn fInt (dBin fAdd (dBinV fMul 3 (dRd 3)) (dC (.int 40503)))) (dC (.int 2147483629))))
    (dRet (dBin fMod (dUn fInt (dBinV fMul 3 (dC (.int 48271)))) (dC (.int 2147483587)))))))
def bd__law_colour : DS :=
  (dRet (dBin fIx (dBin fIx (dBinV fIx 0 (dC (.int 1))) (dBin fMax2 (dVar 1) (dRd 2))) (dBin fMin2 (dVar 1) (dRd 2))))
def bd_is_count : DS :=
  (dRet (dAnd (dCall m_is_whole [] (daCons (dVar 0) daNil)) (dBinV fGe 0 (dBin fMax2 (dVar 1) (dC (.int 0))))))
def bd_partners_there : DS :=
  (dRet (asD (dLc (dRange1 (dUn fLen (dBinV fIx 0 (dC (.int 1))))) (dgName 3) (dTAnd (dB (dBinV fNe 3 (dRd 1))) (dB (dBin fEq (dCall m_colour_there [] (daCons (dVar 0) (daCons (dVar 1) (daCons (dVar 3) daNil)))) (dRd 2)))) (dVar 3) [3])))
def bd_colours_of : DS :=
  (dSeq (dPar 4 5 (dCall m_colour_there [] (daCons (dVar 0) (daCons (dVar 1) (daCons (dVar 2) daNil)))) (dCall m_colour_there [] (daCons (dVar 0) (daCons (dVar 1) (daCons (dVar 3) daNil)))))
    (dSeq (dSet 6 (dCall m_colour_there [] (daCons (dVar 0) (daCons (dVar 2) (daCons (dVar 3) daNil)))))
    (dSeq (dIfS (dB (dBinV fEq 4 (dRd 5)))
    (dRet (dIf (dB (dBinV fEq 6 (dRd 4))) (dC (.int 1)) (dC (.int 2))))
    dNext)
    (dRet (dIf (dB (dBinV (fIn false) 6 (dTup (daCons (dVar 4) (daCons (dVar 5) daNil))))) (dC (.int 2)) (dC (.int 3)))))))
def bd__law_draw : DS :=
  (dSeq (dIfS (dB (dBin fGt (dBinV fIx 0 (dC (.int 0))) (dC (.int 0))))
    (dSeq (dSet 2 (dBin fMod (dUn fInt (dBinV fIx 0 (dC (.int 0)))) (dRd 1)))
    (dSeq (dSetIx 0 (dBin fDiv (dBinV fIx 0 (dC (.int 0))) (dRd 1)) (dC (.int 0)))
    (dRet (dVar 2))))
    dNext)
    (dSeq (dSet 3 (dC (.int 0)))
    (dSeq (dFor (dRange1 (dBin fAdd (dC (.int 1)) (dBin fDiv (dBits (dVar 1)) (dC (.int 28))))) (dgName 4)
    (dSeq (dSetIx 0 (dBin fAdd (dBinV fIx 0 (dC (.int 2))) (dC (.int 1))) (dC (.int 2)))
    (dSet 3 (dBin fAdd (dBinV fMul 3 (dC (.int 2147483587))) (dCall m__law_mixed [] (daCons (dBinV fIx 0 (dC (.int 1))) (daCons (dBinV fIx 0 (dC (.int 2))) (daCons (dBinV fIx 0 (dC (.int 3))) daNil))))))))
    (dRet (dBin fMod (dUn fInt (dRd 3)) (dRd 1))))))
def bd__law_purses (K : PySem.W.Frag) : DS :=
  (dRet (asD (dLc (dRange1 (dBin fMax2 (dC (.int 1)) (dBin fMin2 (dVar 1) (dLenS K 0)))) (dgName 2) dYes (dCallS K m__law_purse 0 [] (daCons (dVar 2) daNil)) [2])))
def bd__law_named : DS :=
  (dSeq (dSetN 2 (dLst daNil))
    (dSeq (dFor (dEnum (dVar 1)) (dgTup (dgCons (dgName 3) (dgCons (dgName 4) dgNil)))
    (dApp 2 (asD (dLc (dListOf (asD (dSlV 1 dNoPart (dPart (dVar 3))))) (dgName 5) dYes (dCall m__law_colour [] (daCons (dVar 0) (daCons (dVar 4) (daCons (dVar 5) daNil)))) [5]))))
    (dRet (dTup (daCons (dBinV fIx 0 (dC (.int 0))) (daCons (dVar 2) daNil))))))
def bd__law_counts : DS :=
  (dSeq (dSet 2 (dUn fLen (dBinV fIx 0 (dC (.int 1)))))
    (dSeq (dSet 3 (asD (dLc (dRange1 (dVar 2)) (dgName 4) (dB (dBinV fNe 4 (dRd 1))) (dCall m__law_colour [] (daCons (dVar 0) (daCons (dVar 1) (daCons (dVar 4) daNil)))) [4])))
    (dRet (asD (dLc (dRange1 (dBinV fIx 0 (dC (.int 0)))) (dgName 5) dYes (dCountL (dVar 3) (dVar 5)) [5])))))
def bd__law_ones : DS :=
  (dSeq (dParN 1 2 (dLst daNil) (dUn fLen (dBinV fIx 0 (dC (.int 1)))))
    (dSeq (dFor (dRange1 (dVar 2)) (dgName 3)
    (dFor (dRange2 (dBinV fAdd 3 (dC (.int 1))) (dVar 2)) (dgName 4)
    (dSeq (dSet 5 (dCall m__law_colour [] (daCons (dVar 0) (daCons (dVar 3) (daCons (dVar 4) daNil)))))
    (dFor (dRange2 (dBinV fAdd 4 (dC (.int 1))) (dVar 2)) (dgName 6)
    (dIfS (dTAnd (dB (dBin fEq (dCall m__law_colour [] (daCons (dVar 0) (daCons (dVar 3) (daCons (dVar 6) daNil)))) (dRd 5))) (dB (dBin fEq (dCall m__law_colour [] (daCons (dVar 0) (daCons (dVar 4) (daCons (dVar 6) daNil)))) (dRd 5))))
    (dApp 1 (dTup (daCons (dVar 3) (daCons (dVar 4) (daCons (dVar 6) daNil)))))
    dNext)))))
    (dRet (dVar 1))))
def bd__law_corners : DS :=
  (dSeq (dSet 2 (dC (.int 0)))
    (dSeq (dFor (dRange1 (dUn fLen (dBinV fIx 0 (dC (.int 1))))) (dgName 3)
    (dSeq (dSetN 4 (dRepN (asD (dLst (daCons (dC (.int 0)) daNil))) (dBinV fIx 0 (dC (.int 0)))))
    (dFor (dRange1 (dUn fLen (dBinV fIx 0 (dC (.int 1))))) (dgName 5)
    (dIfS (dB (dBinV fNe 5 (dRd 3)))
    (dSeq (dSet 6 (dCall m__law_colour [] (daCons (dVar 0) (daCons (dVar 3) (daCons (dVar 5) daNil)))))
    (dSeq (dSet 2 (dBinV fAdd 2 (dBin fMul (dBin fMul (dBinV fIx 1 (dRd 3)) (dBinV fIx 1 (dRd 5))) (dBin fSub (dUn fSum (dRd 4)) (dBinV fIx 4 (dRd 6))))))
    (dSetIx 4 (dBin fAdd (dBinV fIx 4 (dRd 6)) (dBinV fIx 1 (dRd 5))) (dVar 6))))
    dNext))))
    (dRet (dVar 2))))
def bd__law_fits : DS :=
  (dSeq (dIfS (dB (dBinV (fIn false) 1 (dRd 2)))
    (dRet (dC (.bool true)))
    dNext)
    (dSeq (dSet 3 (asD (dLc (dSeqVar 2) (dgName 4) dYes (dCall m__law_colour [] (daCons (dVar 0) (daCons (dVar 1) (daCons (dVar 4) daNil)))) [4])))
    (dRet (dAnd (dBin fEq (dBinV fIx 3 (dC (.int 0))) (dBinV fIx 3 (dC (.int 1)))) (dBin fEq (dBinV fIx 3 (dC (.int 1))) (dBinV fIx 3 (dC (.int 2))))))))
def bd_is_row : DS :=
  (dRet (dAnd (dIs1 "list" (dRd 2)) (dAnd (dBin fEq (dUn fLen (dRd 2)) (dRd 1)) (dUn fAll (asD (dLc (dSeqVar 2) (dgName 3) dYes (dAnd (dCall m_is_count [.int 0] (daCons (dVar 3) daNil)) (dBinV fLt 3 (dRd 0))) [3]))))))
def bd_is_guest : DS :=
  (dRet (dAnd (dCall m_is_count [.int 0] (daCons (dVar 1) daNil)) (dBinV fLt 1 (dUn fLen (dBinV fIx 0 (dC (.int 1)))))))
def bd_ones_there : DS :=
  (dRetF (asD (dLc (dListOf (dCall m_triples_of [] (daCons (dUn fLen (dBinV fIx 0 (dC (.int 1)))) daNil))) (dgName 1) (dB (dBin fEq (dCall m_colours_of [] (daCons (dVar 0) (daStar (dVar 1) daNil))) (dC (.int 1)))) (dVar 1) [1])))
def bd__law_one_of : DS :=
  (dRet (dBinV fIx 1 (dCallP m__law_draw 0 [] (daCons (dUn fLen (dRd 1)) daNil))))
def bd__law_shuffled : DS :=
  (dSeq (dSetN 2 (dLst daNil))
    (dSeq (dFor (dSeqVar 1) (dgName 3)
    (dIns 2 (dCallP m__law_draw 0 [] (daCons (dBin fAdd (dUn fLen (dRd 2)) (dC (.int 1))) daNil)) (dVar 3)))
    (dRet (dVar 2))))
def bd__law_weighed : DS :=
  (dSeq (dUnp (dTup (daCons (dC (.int 0)) (daCons (dC (.int 0)) (daCons (dC (.int 0)) (daCons (dC (.int 0)) daNil))))) (dgTup (dgCons (dgName 3) (dgCons (dgName 4) (dgCons (dgName 5) (dgCons (dgName 6) dgNil))))))
    (dSeq (dFor (dSeqVar 2) (dgTup (dgCons (dgName 7) (dgCons (dgName 8) (dgCons (dgName 9) dgNil))))
    (dSet 3 (dBinV fAdd 3 (dBin fMul (dBin fMul (dBinV fIx 1 (dRd 7)) (dBinV fIx 1 (dRd 8))) (dBinV fIx 1 (dRd 9))))))
    (dSeq (dFor (dSeqVar 1) (dgName 10)
    (dSeq (dSet 6 (dBinV fAdd 6 (dBinV fMul 5 (dRd 10))))
    (dSeq (dSet 5 (dBinV fAdd 5 (dBinV fMul 4 (dRd 10))))
    (dSet 4 (dBinV fAdd 4 (dRd 10))))))
    (dSeq (dSet 11 (dCall m__law_corners [] (daCons (dVar 0) (daCons (dVar 1) daNil))))
    (dSeq (dSet 9 (dBinV fSub 11 (dBin fMul (dC (.int 2)) (dBinV fSub 6 (dRd 3)))))
    (dRet (dTup (daCons (dVar 3) (daCons (dBin fSub (dBinV fSub 6 (dRd 3)) (dRd 9)) (daCons (dVar 9) daNil))))))))))
def bd__law_triple_right : DS :=
  (dSeq (dSet 4 (asD (dLc (dSeqVar 2) (dgName 5) (dB (dCall m__law_fits [] (daCons (dVar 0) (daCons (dVar 1) (daCons (dVar 5) daNil))))) (dVar 5) [5])))
    (dSeq (dIfS (dTAnd (dB (dBin fLt (dBinV fIx 0 (dC (.int 0))) (dC (.int 3)))) (dTAnd (dB (dBin fGt (dUn fLen (dBinV fIx 0 (dC (.int 1)))) (dC (.int 5)))) (dB (dBinV fEq 4 (asD (dLst daNil))))))
    (dRet (dC (.bool false)))
    dNext)
    (dRet (dIf (dB (dBinV fEq 4 (asD (dLst daNil)))) (dBinV fIs 3 (dC .none)) (dBinV fInDeep 3 (dRd 4))))))
def bd_is_party : DS :=
  (dSeq (dIfS (dTOr (dTNot (dB (dCall m_is_tuple_of [] (daCons (dVar 0) (daCons (dC (.int 2)) daNil))))) (dTOr (dTNot (dB (dCall m_is_count [] (daCons (dBinV fIx 0 (dC (.int 0))) (daCons (dC (.int 1)) daNil))))) (dTNot (dB (dIs1 "list" (dBinV fIx 0 (dC (.int 1))))))))
    (dRet (dC (.bool false)))
    dNext)
    (dRet (dUn fAll (asD (dLc (dEnum (dBinV fIx 0 (dC (.int 1)))) (dgTup (dgCons (dgName 1) (dgCons (dgName 2) dgNil))) dYes (dCall m_is_row [] (daCons (dBinV fIx 0 (dC (.int 0))) (daCons (dVar 1) (daCons (dVar 2) daNil)))) [1, 2])))))
def bd_check_guest : DS :=
  (dIfS (dTNot (dB (dCall m_is_guest [] (daCons (dVar 0) (daCons (dVar 1) daNil)))))
    dNever
    dNext)
def bd__law_party : DS :=
  (dSeq (dUnp (dTup (daCons (dCallP m__law_draw 0 [] (daCons (dC (.int 25)) daNil)) (daCons (dBin fAdd (dC (.int 1)) (dCallP m__law_draw 0 [] (daCons (dC (.int 5)) daNil))) (daCons (dCallP m__law_draw 0 [] (daCons (dC (.int 4)) daNil)) daNil)))) (dgTup (dgCons (dgName 1) (dgCons (dgName 2) (dgCons (dgName 3) dgNil)))))
    (dSeq (dParVN 4 5 (asD (dLc (dRange1 (dVar 1)) (dgName 6) dYes (dCallP m__law_draw 0 [] (daCons (dC (.int 5)) daNil)) [6])) (dLst daNil))
    (dSeq (dFor (dRange1 (dVar 1)) (dgName 6)
    (dSeq (dSet 7 (asD (dLc (dRange1 (dVar 6)) (dgName 8) dYes (dCallP m__law_draw 0 [] (daCons (dVar 2) daNil)) [8])))
    (dSeq (dIfS (dB (dBinV fEq 3 (dC (.int 1))))
    (dSet 7 (asD (dLc (dRange1 (dVar 6)) (dgName 8) dYes (dBin fMod (dUn fInt (dBin fEq (dBinV fIx 4 (dRd 6)) (dBinV fIx 4 (dRd 8)))) (dRd 2)) [8])))
    dNext)
    (dSeq (dIfS (dB (dBinV fEq 3 (dC (.int 2))))
    (dSet 7 (asD (dLc (dRange1 (dVar 6)) (dgName 8) dYes (dBin fMod (dUn fInt (dBin fAdd (dBinV fIx 4 (dRd 6)) (dBinV fIx 4 (dRd 8)))) (dRd 2)) [8])))
    dNext)
    (dApp 5 (dVar 7))))))
    (dRet (dCall m__law_named [] (daCons (dTup (daCons (dVar 2) (daCons (dVar 5) daNil))) (daCons (dCallP m__law_shuffled 0 [] (daCons (asD (dLRg1 (dVar 1))) daNil)) daNil)))))))
def bd_check_party : DS :=
  (dIfS (dTNot (dB (dCall m_is_party [] (daCons (dVar 0) daNil))))
    dNever
    dNext)
def bd_check_pair : DS :=
  (dSeq (dDrop (dCall m_check_party [] (daCons (dVar 0) daNil)))
    (dSeq (dDrop (dCall m_check_guest [] (daCons (dVar 0) (daCons (dVar 1) daNil))))
    (dIfS (dTOr (dTNot (dB (dCall m_is_guest [] (daCons (dVar 0) (daCons (dVar 2) daNil))))) (dB (dBinV fEq 2 (dRd 1))))
    dNever
    dNext)))
def bd_triple_counts : DS :=
  (dSeq (dDrop (dCall m_check_party [] (daCons (dVar 0) daNil)))
    (dSeq (dSet 1 (asD (dLc (dListOf (dCall m_triples_of [] (daCons (dUn fLen (dBinV fIx 0 (dC (.int 1)))) daNil))) (dgName 2) dYes (dCall m_colours_of [] (daCons (dVar 0) (daStar (dVar 2) daNil))) [2])))
    (dRet (dTup (daCons (dCountL (dVar 1) (dC (.int 1))) (daCons (dCountL (dVar 1) (dC (.int 2))) (daCons (dCountL (dVar 1) (dC (.int 3))) daNil)))))))
def bd_ones_of : DS :=
  (dSeq (dDrop (dCall m_check_party [] (daCons (dVar 0) daNil)))
    (dRetF (dCall m_ones_there [] (daCons (dVar 0) daNil))))
def bd_unlike_corners : DS :=
  (dSeq (dDrop (dCall m_check_party [] (daCons (dVar 0) daNil)))
    (dSeq (dParVN 1 2 (dUn fLen (dBinV fIx 0 (dC (.int 1)))) (dLst daNil))
    (dSeq (dFor (dRange1 (dVar 1)) (dgName 3)
    (dSeq (dSetDic 4)
    (dSeq (dFor (dListOf (asD (dLc (dRange1 (dVar 1)) (dgName 5) (dB (dBinV fNe 5 (dRd 3))) (dVar 5) [5]))) (dgName 5)
    (dSeq (dSet 6 (dCall m_colour_there [] (daCons (dVar 0) (daCons (dVar 3) (daCons (dVar 5) daNil)))))
    (dDPutU 4 (dVar 6) (dBin fAdd (dDGetD 4 (dVar 6) (dC (.int 0))) (dC (.int 1))))))
    (dSeq (dSet 7 (dBin fMax2 (dBinV fSub 1 (dC (.int 1))) (dC (.int 0))))
    (dApp 2 (dBin fDiv (dBin fSub (dBinV fMul 7 (dRd 7)) (dUn fSum (asD (dLcV 4  (dgName 8) dYes (dBinV fMul 8 (dRd 8)) [8])))) (dC (.int 2))))))))
    (dRetF (dOwn 2)))))
def bd_triple_at : DS :=
  (dSeq (dDrop (dCall m_check_party [] (daCons (dVar 0) daNil)))
    (dSeq (dDrop (dCall m_check_guest [] (daCons (dVar 0) (daCons (dVar 1) daNil))))
    (dSeq (dFor (dListOf (dCall m_ones_there [] (daCons (dVar 0) daNil))) (dgName 2)
    (dSeq (dSet 3 (asD (dLc (dSeqVar 2) (dgName 4) (dB (dBinV fNe 4 (dRd 1))) (dCall m_colour_there [] (daCons (dVar 0) (daCons (dVar 1) (daCons (dVar 4) daNil)))) [4])))
    (dIfS (dTOr (dB (dBinV (fIn false) 1 (dRd 2))) (dB (dUn fAll (asD (dLc (dSeqVar 3) (dgName 5) dYes (dBinV fEq 5 (dBinV fIx 3 (dC (.int 0)))) [5])))))
    (dRet (dVar 2))
    dNext)))
    (dRet (dC .none)))))
def bd_weighed_triples : DS :=
  (dSeq (dDrop (dCall m_check_party [] (daCons (dVar 0) daNil)))
    (dSeq (dIfS (dTOr (dTNot (dB (dIs1 "list" (dRd 1)))) (dTOr (dB (dBin fNe (dUn fLen (dRd 1)) (dUn fLen (dBinV fIx 0 (dC (.int 1)))))) (dTNot (dB (dUn fAll (asD (dLc (dSeqVar 1) (dgName 3) dYes (dCall m_is_count [.int 0] (daCons (dVar 3) daNil)) [3])))))))
    dNever
    dNext)
    (dSeq (dSetN 2 (dLst (daCons (dC (.int 0)) (daCons (dC (.int 0)) (daCons (dC (.int 0)) daNil)))))
    (dSeq (dFor (dListOf (dCall m_triples_of [] (daCons (dUn fLen (dBinV fIx 0 (dC (.int 1)))) daNil))) (dgTup (dgCons (dgName 3) (dgCons (dgName 4) (dgCons (dgName 5) dgNil))))
    (dSeq (dSet 6 (dCall m_colours_of [] (daCons (dVar 0) (daCons (dVar 3) (daCons (dVar 4) (daCons (dVar 5) daNil))))))
    (dSetIx 2 (dBin fAdd (dBinV fIx 2 (dBinV fSub 6 (dC (.int 1)))) (dBin fMul (dBin fMul (dBinV fIx 1 (dRd 3)) (dBinV fIx 1 (dRd 4))) (dBinV fIx 1 (dRd 5)))) (dBinV fSub 6 (dC (.int 1))))))
    (dRet (dUn fTuple (dRd 2)))))))
def bd_closers : DS :=
  (dSeq (dDrop (dCall m_check_pair [] (daCons (dVar 0) (daCons (dVar 1) (daCons (dVar 2) daNil)))))
    (dSeq (dSet 3 (dCall m_colour_there [] (daCons (dVar 0) (daCons (dVar 1) (daCons (dVar 2) daNil)))))
    (dSeq (dSet 4 (dCall m_partners_there [] (daCons (dVar 0) (daCons (dVar 1) (daCons (dVar 3) daNil)))))
    (dRet (asD (dLc (dSeqVar 4) (dgName 5) (dTAnd (dB (dBinV fNe 5 (dRd 2))) (dB (dBin fEq (dCall m_colour_there [] (daCons (dVar 0) (daCons (dVar 2) (daCons (dVar 5) daNil)))) (dRd 3)))) (dVar 5) [5]))))))
def bd__law_same (m : M1) : DS :=
  (dSeq (dIfS (dB (dIsTs ["list", "tuple"] (dRd 1)))
    (dSeq (dSet 2 (dAnd (dBin fEq (dIs1 "list" (dRd 0)) (dIs1 "list" (dRd 1))) (dBin fEq (dIs1 "tuple" (dRd 0)) (dIs1 "tuple" (dRd 1)))))
    (dRet (dAnd (dVar 2) (dAnd (dBin fEq (dUn fLen (dRd 0)) (dUn fLen (dRd 1))) (dUn fAll (asD (dLc (dZip (dVar 0) (dVar 1)) (dgTup (dgCons (dgName 3) (dgCons (dgName 4) dgNil))) dYes (dCall m [] (daCons (dVar 3) (daCons (dVar 4) daNil))) [3, 4])))))))
    dNext)
    (dSeq (dSet 2 (dAnd (dNot (dIsTs ["list", "tuple", "dict"] (dRd 0))) (dAnd (dBin fEq (dIs1 "int" (dRd 0)) (dIs1 "int" (dRd 1))) (dBin fEq (dIs1 "str" (dRd 0)) (dIs1 "str" (dRd 1))))))
    (dRet (dAnd (dVar 2) (dAnd (dBin fEq (dBinV fIs 0 (dC .none)) (dBinV fIs 1 (dC .none))) (dAnd (dBin fEq (dIs1 "bool" (dRd 0)) (dIs1 "bool" (dRd 1))) (dBinV fEq 0 (dRd 1))))))))
def bd__law_is_right : DS :=
  (dSeq (dPar3 2 3 4 (dUn fLen (dBinV fIx 1 (dC (.int 1)))) (dUn fReprT (dRd 1)) (dCall m__law_ones [] (daCons (dVar 1) daNil)))
    (dSeq (dSet 5 (asD (dLc (dRange1 (dVar 2)) (dgName 18) dYes (dCall m__law_counts [] (daCons (dVar 1) (daCons (dVar 18) daNil))) [18])))
    (dSeq (dSet 6 (asD (dLc (dSeqVar 5) (dgName 19) dYes (dBin fDiv (dBin fSub (dBin fMul (dUn fSum (dRd 19)) (dUn fSum (dRd 19))) (dUn fSum (asD (dLc (dSeqVar 19) (dgName 21) dYes (dBinV fMul 21 (dRd 21)) [21])))) (dC (.int 2))) [19])))
    (dBlkG (bCons (dTld 7 [(true, (dCall m_ones_of [] (daCons (dVar 1) daNil))), (true, (dCallK m_unlike_corners 0 1 [0] daNil (daCons (dVar 1) daNil))), (false, (dCall m_triple_counts [] (daCons (dVar 1) daNil)))])
    (bCons (dIfS (dTOr (dTNot (dB (dCall m__law_same [] (daCons (dVar 7) (daCons (asD (dLst (daCons (dVar 4) (daCons (dVar 6) (daCons (dCall m__law_weighed [] (daCons (dVar 1) (daCons (dBin fMul (asD (dLst (daCons (dC (.int 1)) daNil))) (dRd 2)) (daCons (dVar 4) daNil)))) daNil))))) daNil))))) (dB (dBin fNe (dUn fSum (dRd 6)) (dBin fAdd (dBin fMul (dC (.int 2)) (dBin fIx (dBinV fIx 7 (dC (.int 2))) (dC (.int 1)))) (dBin fMul (dC (.int 3)) (dBin fIx (dBinV fIx 7 (dC (.int 2))) (dC (.int 2))))))))
    (dRet (dC (.bool false)))
    dNext)
    (bCons (dSet 8 (dCallP m__law_one_of 0 [] (daCons (asD (dLst (daCons (dC (.int 2)) (daCons (dC (.int 100)) (daCons (dBin fPow (dC (.int 10)) (dC (.int 6))) (daCons (dBin fPow (dC (.int 10)) (dC (.int 12))) daNil)))))) daNil)))
    (bCons (dSet 9 (asD (dLc (dRange1 (dVar 2)) (dgName 18) dYes (dBin fMul (dCallP m__law_draw 0 [] (daCons (dVar 8) daNil)) (dUn fInt (dBin fGt (dCallP m__law_draw 0 [] (daCons (dC (.int 6)) daNil)) (dC (.int 0))))) [18])))
    (bCons (dIfS (dTNot (dB (dCall m__law_same [] (daCons (dCallK m_weighed_triples 1 1 [0, 1] (daCons (dVar 1) daNil) (daCons (dUn fList (dRd 9)) daNil)) (daCons (dCall m__law_weighed [] (daCons (dVar 1) (daCons (dVar 9) (daCons (dVar 4) daNil)))) daNil)))))
    (dRet (dC (.bool false)))
    dNext)
    (bCons (dSet 10 (dCallP m__law_shuffled 0 [] (daCons (asD (dLRg1 (dVar 2))) daNil)))
    (bCons (dPar 11 12 (dCall m__law_named [] (daCons (dVar 1) (daCons (dVar 10) daNil))) (asD (dLc (dSeqVar 10) (dgName 18) dYes (dBinV fIx 9 (dRd 18)) [18])))
    (bCons (dIfS (dTNot (dB (dCall m__law_same [] (daCons (asD (dLst (daCons (dCall m_triple_counts [] (daCons (dVar 11) daNil)) (daCons (dCall m_weighed_triples [] (daCons (dVar 11) (daCons (dVar 12) daNil))) daNil)))) (daCons (asD (dLst (daCons (dBinV fIx 7 (dC (.int 2))) (daCons (dCall m__law_weighed [] (daCons (dVar 1) (daCons (dVar 9) (daCons (dVar 4) daNil)))) daNil)))) daNil)))))
    (dRet (dC (.bool false)))
    dNext)
    (bCons (dFor (dRange1 (dC (.int 6))) (dgName 13)
    (dIfS (dB (dBinV fGt 2 (dC (.int 1))))
    (dSeq (dUnp (dTup (daCons (dBinV fIx 10 (dBinV fMod 13 (dRd 2))) (daCons (dBinV fIx 10 (dBin fMod (dBinV fAdd 13 (dC (.int 1))) (dRd 2))) daNil))) (dgTup (dgCons (dgName 14) (dgCons (dgName 15) dgNil))))
    (dSeq (dSet 16 (dCall m__law_colour [] (daCons (dVar 1) (daCons (dVar 14) (daCons (dVar 15) daNil)))))
    (dSeq (dSet 17 (asD (dLc (dRange1 (dVar 2)) (dgName 20) (dTAnd (dB (dBinV (fIn true) 20 (asD (dLst (daCons (dVar 14) (daCons (dVar 15) daNil)))))) (dTAnd (dB (dBin fEq (dCall m__law_colour [] (daCons (dVar 1) (daCons (dVar 14) (daCons (dVar 20) daNil)))) (dRd 16))) (dB (dBin fEq (dCall m__law_colour [] (daCons (dVar 1) (daCons (dVar 15) (daCons (dVar 20) daNil)))) (dRd 16))))) (dVar 20) [20])))
    (dIfS (dTNot (dB (dCall m__law_same [] (daCons (dCallK m_closers 2 1 [0, 1, 2] (daCons (dVar 1) (daCons (dVar 14) daNil)) (daCons (dVar 15) daNil)) (daCons (dVar 17) daNil)))))
    (dRet (dC (.bool false)))
    dNext))))
    dNext))
    (bCons (dFor (dListOf (asD (dSlV 10 dNoPart (dPart (dC (.int 5)))))) (dgName 18)
    (dIfS (dTNot (dB (dCall m__law_triple_right [] (daCons (dVar 1) (daCons (dVar 18) (daCons (dVar 4) (daCons (dCall m_triple_at [] (daCons (dVar 1) (daCons (dVar 18) daNil))) daNil)))))))
    (dRet (dC (.bool false)))
    dNext))
    (bApp0 7
    (dRet (dAnd (dCall m__law_same [] (daCons (dCall m_ones_of [] (daCons (dVar 1) daNil)) (daCons (dVar 4) daNil))) (dBin fEq (dUn fReprT (dRd 1)) (dRd 3)))))))))))))))))))
def bd_law (K : PySem.W.Frag) : DS :=
  (dIfS (dTNot (dB (dCallP m__law_is_right 1 [] (daCons (dCallP m__law_party 1 [] daNil) daNil))))
    (dRet (dC (.bool false)))
    dNext)
def sd_law (K : PySem.W.Frag) : DE := (dCallS K m__law_purses 0 [] (daCons (dC (.int 2)) daNil))
end K18

set_option Elab.async false
set_option linter.all false
set_option maxRecDepth 100000
set_option maxHeartbeats 1000000
set_option exponentiation.threshold 5000
namespace K18
open PySem L2 Evl PyProof.Rows RZ DL
theorem mlen_is_whole : ∀ xs Q, m_is_whole xs Q → xs.length = ps_is_whole.length := fun _ _ ⟨_, e, _⟩ => by rw [e]; rfl
theorem math_is_whole : ∀ xs Q, m_is_whole xs Q → bd_is_whole { nx := fun _ => Q .none, rt := fun _ d _ => Q d } (startR nm_is_whole xs) := fun xs Q ⟨d, e, h⟩ => by
  subst e
  cases d <;> exact h
theorem mlen_is_tuple_of : ∀ xs Q, m_is_tuple_of xs Q → xs.length = ps_is_tuple_of.length := fun _ _ ⟨_, _, e, _⟩ => by rw [e]; rfl
theorem eqv_int (a b : Int) : PyData.eqv (.int a) (.int b) = decide (a = b) := by
  show (a == b) = _
  rfl
theorem math_is_tuple_of : ∀ xs Q, m_is_tuple_of xs Q → bd_is_tuple_of { nx := fun _ => Q .none, rt := fun _ d _ => Q d } (startR nm_is_tuple_of xs) := fun xs Q ⟨d, n, e, h⟩ => by
  subst e
  cases d with
  | tuple ds => exact ⟨⟨rfl, rfl⟩, h⟩
  | _ => exact h
theorem mlen_is_count : ∀ xs Q, m_is_count xs Q → xs.length = ps_is_count.length := fun _ _ ⟨_, _, e, _⟩ => by rw [e]; rfl
theorem math_is_count : ∀ xs Q, m_is_count xs Q → bd_is_count { nx := fun _ => Q .none, rt := fun _ d _ => Q d } (startR nm_is_count xs) := fun xs Q ⟨d, l, e, h⟩ => by
  subst e
  refine ⟨d, rfl, ?_⟩
  cases d <;> exact h
theorem emod_b (a b : Int) (h : 0 < b) : 0 ≤ a % b ∧ a % b < b := ⟨Int.emod_nonneg _ (by omega), Int.emod_lt_of_pos _ h⟩
theorem sz_of1 {a : Int} (h0 : 0 ≤ a) (h : a < 2 ^ 3000) : Sz a := by
  unfold Sz
  have e : (a.natAbs : Int) = a := by omega
  have : (a.natAbs : Int) < ((2 ^ 3000 : Nat) : Int) := by
    rw [e]
    exact_mod_cast h
  exact_mod_cast this
theorem mlen__law_mixed : ∀ xs Q, m__law_mixed xs Q → xs.length = ps__law_mixed.length := fun _ _ ⟨_, _, _, e, _⟩ => by rw [e]; rfl
theorem pw_le {m n : Nat} (h : m ≤ n) : (2 : Int) ^ m ≤ 2 ^ n := by
  have := Nat.pow_le_pow_right (n := 2) (by decide) h
  exact_mod_cast this
theorem mul_lt {a b : Int} {m n : Nat} (a0 : 0 ≤ a) (b0 : 0 ≤ b) (ha : a < 2 ^ m) (hb : b < 2 ^ n) : 0 ≤ a * b ∧ a * b < 2 ^ (m + n) := by
  refine ⟨Int.mul_nonneg a0 b0, ?_⟩
  rw [Int.pow_add]
  by_cases h : b = 0
  · subst h
    rw [Int.mul_zero]
    exact Int.mul_pos (by omega) (by omega)
  · have h1 : a * b < 2 ^ m * b := Int.mul_lt_mul_of_pos_right ha (by omega)
    have h2 : (2 : Int) ^ m * b ≤ 2 ^ m * 2 ^ n := Int.mul_le_mul_of_nonneg_left (by omega) (by omega)
    omega
theorem math__law_mixed : ∀ xs Q, m__law_mixed xs Q → bd__law_mixed { nx := fun _ => Q .none, rt := fun _ d _ => Q d } (startR nm__law_mixed xs) := fun xs Q ⟨a, b, c, e, ⟨a0, a1⟩, ⟨b0, b1⟩, ⟨c0, c1⟩, h⟩ => by
  subst e
  have p : ∀ {n : Nat}, n ≤ 3000 → (2 : Int) ^ n ≤ 2 ^ 3000 := fun h => pw_le h
  have sb : Sz b := sz_of1 b0 (Int.lt_of_lt_of_le b1 (p (by decide)))
  have m1 := mul_lt (m := 17) (n := 1000) (a := 104729) (by decide) b0 (by decide) b1
  refine ⟨⟨sz_of1 a0 (Int.lt_of_lt_of_le a1 (p (by decide))), sz_of1 (by decide) (Int.lt_of_lt_of_le (by decide : (69069 : Int) < 2 ^ 20) (p (by decide)))⟩, ?_⟩
  refine ⟨⟨sz_of1 (by decide) (Int.lt_of_lt_of_le (by decide : (104729 : Int) < 2 ^ 20) (p (by decide))), sb⟩, ?_⟩
  refine ⟨⟨sz_of1 m1.1 (Int.lt_of_lt_of_le m1.2 (p (by decide))), sb⟩, ?_⟩
  refine ⟨⟨sz_of1 (by decide) (Int.lt_of_lt_of_le (by decide : (7919 : Int) < 2 ^ 20) (p (by decide))), sz_of1 c0 (Int.lt_of_lt_of_le c1 (p (by decide)))⟩, ?_⟩
  refine ⟨(by decide : (0 : Int) < 2147483647), ?_⟩
  have k1 := emod_b (a * 69069 + 104729 * b * b + 7919 * c + b) 2147483647 (by decide)
  have sx := sz_of1 k1.1 (Int.lt_of_lt_of_le k1.2 (Int.le_trans (by decide : (2147483647 : Int) ≤ 2 ^ 31) (p (by decide))))
  refine ⟨⟨sx, sx⟩, (by decide : (0 : Int) < 2147483629), ?_⟩
  have k2 := emod_b ((a * 69069 + 104729 * b * b + 7919 * c + b) % 2147483647 * ((a * 69069 + 104729 * b * b + 7919 * c + b) % 2147483647) + 40503) 2147483629 (by decide)
  have sy := sz_of1 k2.1 (Int.lt_of_lt_of_le k2.2 (Int.le_trans (by decide : (2147483629 : Int) ≤ 2 ^ 31) (p (by decide))))
  refine ⟨⟨sy, sz_of1 (by decide) (Int.lt_of_lt_of_le (by decide : (48271 : Int) < 2 ^ 20) (p (by decide)))⟩, (by decide : (0 : Int) < 2147483587), ?_⟩
  have k3 := emod_b (((a * 69069 + 104729 * b * b + 7919 * c + b) % 2147483647 * ((a * 69069 + 104729 * b * b + 7919 * c + b) % 2147483647) + 40503) % 2147483629 * 48271) 2147483587 (by decide)
  exact h _ k3.1 k3.2
theorem mlen__law_draw : ∀ qs xs Q, m__law_draw qs xs Q → xs.length + 1 = ps__law_draw.length := fun _ _ _ ⟨_, _, _, _, e, _⟩ => by rw [e]; rfl
theorem ibits {i : Int} {n : Nat} (h0 : 0 < i) (h : i < 2 ^ n) : Builtin.Int.intBits i ≤ n := by
  refine PySem.intBits_le_iff.mpr ?_
  have e : (i.natAbs : Int) = i := by omega
  have : (i.natAbs : Int) < ((2 ^ n : Nat) : Int) := by
    rw [e]
    exact_mod_cast h
  exact_mod_cast this
theorem grow {f M r : Int} {k : Nat} (f0 : 0 ≤ f) (M0 : 0 ≤ M) (r0 : 0 ≤ r) (hf : f < 2 ^ k) (hM : M < 2 ^ 31) (hr : r < 2 ^ 31) : 0 ≤ f * M + r ∧ f * M + r < 2 ^ (k + 32) := by
  have m := mul_lt f0 M0 hf hM
  have h1 : (2 : Int) ^ 31 ≤ 2 ^ (k + 31) := pw_le (by omega)
  have h2 : (2 : Int) ^ (k + 32) = 2 ^ (k + 31) * 2 := Int.pow_succ 2 (k + 31)
  omega
theorem math__law_draw : ∀ qs xs Q, m__law_draw qs xs Q → bd__law_draw { nx := fun ρ => pur0 ρ (Q .none), rt := fun _ d ρ => pur0 ρ (Q d) } (startP nm__law_draw qs xs) := fun qs xs Q ⟨n, ns, many, e1, e2, ⟨a, b, c, t, e3, ⟨a0, a1⟩, ⟨b0, b1⟩, ⟨c0, c1⟩, t0, t1⟩, hn, ⟨m0, m1⟩, h⟩ => by
  subst e1 e2 e3
  have sm : Sz many := sz_of1 (by omega) (Int.lt_of_lt_of_le m1 (pw_le (by decide)))
  refine ⟨_, rfl, ?_⟩
  by_cases ha : 0 < a
  · have e : decide ((0 : Int) < a) = true := decide_eq_true ha
    show (match (decide ((0 : Int) < a)) with | true => _ | false => _)
    rw [e]
    refine ⟨_, rfl, m0, ?_⟩
    refine ⟨_, rfl, ⟨m0, sm⟩, ?_⟩
    refine ⟨0, rfl, ?_⟩
    have k := emod_b a many m0
    refine h _ [a / many, b, c, t] k.1 k.2 ⟨_, _, _, _, rfl, ⟨Int.ediv_nonneg a0 (by omega), ?_⟩, ⟨b0, b1⟩, ⟨c0, by omega⟩, t0, t1⟩
    exact Int.lt_of_le_of_lt (Int.ediv_le_self _ a0) a1
  · have e : decide ((0 : Int) < a) = false := decide_eq_false ha
    show (match (decide ((0 : Int) < a)) with | true => _ | false => _)
    rw [e]
    have a00 : a = 0 := by omega
    subst a00
    have hb := ibits m0 m1
    refine ⟨⟨(by decide : (0 : Int) < 28), sz_of1 (by decide) (Int.lt_of_lt_of_le (by decide : (28 : Int) < 2 ^ 20) (pw_le (by decide)))⟩, ?_⟩
    have hk : (Builtin.Int.intBits many : Int) / 28 ≤ 72 := by omega
    have hk0 : 0 ≤ (Builtin.Int.intBits many : Int) / 28 := by omega
    refine ⟨by omega, by omega, ?_⟩
    have hl : (rngD 0 (1 + (Builtin.Int.intBits many : Int) / 28).toNat).length ≤ 73 := by rw [rngD_len]; omega
    generalize rngD 0 (1 + (Builtin.Int.intBits many : Int) / 28).toNat = items at hl
    refine ⟨fun i ρ => ∃ c' f y, ρ = [.pur [.int 0, .int b, .int c', .int t], .val (.int many), .no, .val (.int f), y] ∧ (0 ≤ c' ∧ c' ≤ n + (i : Int)) ∧ (0 ≤ f ∧ f < 2 ^ (32 * i + 1)), ⟨c, 0, _, rfl, ⟨c0, by omega⟩, by decide⟩, ?_, ?_⟩
    · rintro i x ρ hi ⟨c', f, y, rfl, ⟨d0, d1⟩, f0, f1⟩
      have hi2 : i < 73 := by have := (List.getElem?_eq_some_iff.mp hi).1; omega
      refine ⟨_, rfl, 2, rfl, ?_⟩
      refine ⟨⟨sz_of1 f0 (Int.lt_of_lt_of_le f1 ?_), sz_of1 (by decide) (Int.lt_of_lt_of_le (by decide : (2147483587 : Int) < 2 ^ 31) (pw_le (by decide)))⟩, ?_⟩
      · exact pw_le (by omega)
      refine ⟨_, rfl, _, rfl, _, rfl, b, c' + 1, t, rfl, ⟨b0, ?_⟩, ⟨by omega, ?_⟩, ⟨t0, ?_⟩, fun r r0 r1 => ?_⟩
      · exact Int.lt_of_lt_of_le b1 (Int.le_trans (by decide : (2147483629 : Int) ≤ 2 ^ 31) (pw_le (by decide)))
      · refine Int.lt_of_lt_of_le (b := 2 ^ 62) ?_ (pw_le (by decide))
        omega
      · exact Int.lt_of_le_of_lt t1 (Int.lt_of_lt_of_le (by decide : (1000 : Int) < 2 ^ 31) (pw_le (by decide)))
      · have g := grow (M := 2147483587) f0 (by decide) r0 f1 (by decide) (Int.lt_of_lt_of_le r1 (by decide))
        refine ⟨c' + 1, _, _, rfl, ⟨by omega, by omega⟩, g.1, ?_⟩
        rw [show 32 * (i + 1) + 1 = 32 * i + 1 + 32 by omega]
        exact g.2
    · rintro ρ ⟨c', f, y, rfl, ⟨d0, d1⟩, f0, f1⟩
      refine ⟨m0, ?_⟩
      have k := emod_b f many m0
      refine h _ [0, b, c', t] k.1 k.2 ⟨_, _, _, _, rfl, ⟨by decide, a1⟩, ⟨b0, b1⟩, ⟨d0, by omega⟩, t0, t1⟩
theorem mlen__law_purse : ∀ ns xs Q, m__law_purse ns xs Q → xs.length + 1 = ps__law_purse.length := fun _ _ _ ⟨_, e, _⟩ => by rw [e]; rfl
theorem math__law_purse {K : PySem.W.Frag} : ∀ ns xs Q, m__law_purse ns xs Q → bd__law_purse K { nx := fun _ => Q .none, rt := fun _ d _ => Q d } (startS K nm__law_purse ns xs) := fun ns xs Q ⟨t, e, ⟨t0, t1⟩, h⟩ => by
  subst e
  refine ⟨rfl, ?_⟩
  have cut : DL.cutD (ns.map PyData.int) (some t) (some (t + 1)) = ((ns.drop (HT.sIx ns.length 0 (some t))).take (HT.sIx ns.length ns.length (some (t + 1)) - HT.sIx ns.length 0 (some t))).map PyData.int := by
    unfold DL.cutD
    rw [List.length_map, List.map_take, List.map_drop]
  refine ⟨_, congrArg PyData.list cut, ?_⟩
  generalize ((ns.drop (HT.sIx ns.length 0 (some t))).take (HT.sIx ns.length ns.length (some (t + 1)) - HT.sIx ns.length 0 (some t))).sum = z
  have b10 : (Builtin.Int.intBits 10 : Int) = 4 := by decide
  refine ⟨⟨by decide, by decide⟩, ?_⟩
  refine ⟨⟨by decide, by decide⟩, ?_⟩
  refine ⟨⟨by decide, ?_⟩, ?_⟩
  · show (Builtin.Int.intBits ((10 : Int) ^ 60) : Int) * 8 ≤ 100000
    decide +kernel
  have pos : (0 : Int) < ((10 : Int) ^ (60 : Int).toNat) ^ (8 : Int).toNat := by decide +kernel
  refine ⟨pos, (by decide : (0 : Int) < 2147483629), (by decide : 4 ≤ 100000), ?_⟩
  have k1 := emod_b (max (z - (10 : Int) ^ (18 : Int).toNat) 0) (((10 : Int) ^ (60 : Int).toNat) ^ (8 : Int).toNat) pos
  have k2 := emod_b z 2147483629 (by decide)
  have lt : ((10 : Int) ^ (60 : Int).toNat) ^ (8 : Int).toNat < 2 ^ 1600 := by decide +kernel
  exact h [_, _, 0, t] ⟨_, _, _, _, rfl, ⟨k1.1, Int.lt_trans k1.2 lt⟩, k2, ⟨by decide, by decide⟩, t0, t1⟩
theorem mlen__law_purses : ∀ ns xs Q, m__law_purses ns xs Q → xs.length + 1 = ps__law_purses.length := fun _ _ _ ⟨_, _, e, _⟩ => by rw [e]; rfl
theorem rngD_at {lo : Int} {n i : Nat} {x : PyData} (h : (rngD lo n)[i]? = some x) : i < n ∧ x = .int (lo + i) := by
  unfold rngD at h
  rw [List.getElem?_map] at h
  cases q : (List.range n)[i]? with
  | none => rw [q] at h; cases h
  | some j =>
    rw [q] at h
    obtain ⟨h1, h2⟩ := List.getElem?_eq_some_iff.mp q
    rw [List.getElem_range] at h2
    subst h2
    rw [List.length_range] at h1
    cases h
    exact ⟨h1, rfl⟩
theorem math__law_purses {K : PySem.W.Frag} : ∀ ns xs Q, m__law_purses ns xs Q → bd__law_purses K { nx := fun _ => Q .none, rt := fun _ d _ => Q d } (startS K nm__law_purses ns xs) := fun ns xs Q ⟨hl, few, e, ⟨f0, f1⟩, h⟩ => by
  subst e
  refine ⟨rfl, ?_⟩
  have b : (1 : Int) ≤ max 1 (min few (ns.length : Int)) ∧ max 1 (min few (ns.length : Int)) ≤ 60 := by omega
  refine ⟨by omega, by omega, ?_⟩
  generalize max 1 (min few (ns.length : Int)) = m at b
  refine ⟨fun i ρ acc => ρ = [.scr K ns, .val (.int few), .no] ∧ ∃ pss : List (List Int), acc = pss.map dints ∧ pss.length = i ∧ ∀ ms ∈ pss, PuOk 0 ms, ⟨rfl, [], rfl, rfl, fun _ z => nomatch z⟩, ?_, ?_⟩
  · rintro i x ρ acc hi ⟨rfl, pss, rfl, pl, pok⟩
    obtain ⟨hi1, rfl⟩ := rngD_at hi
    have hi2 : i < 60 := by omega
    refine ⟨rfl, 0 + (i : Int), rfl, ⟨by omega, by omega⟩, fun ms hms => ⟨by rw [List.length_map]; omega, rfl, pss ++ [ms], by rw [List.map_append]; rfl, by rw [List.length_append, pl]; rfl, fun y hy => ?_⟩⟩
    rcases List.mem_append.mp hy with hy | hy
    · exact pok y hy
    · rw [List.mem_singleton.mp hy]
      exact hms
  · rintro ρ acc ⟨rfl, pss, rfl, pl, pok⟩
    rw [rngD_len] at pl
    exact h pss pok (by omega)
end K18

set_option Elab.async false
set_option linter.all false
set_option maxRecDepth 100000
set_option maxHeartbeats 1000000
set_option exponentiation.threshold 5000
namespace K18
open PySem L2 Evl PyProof.Rows RZ DL
theorem mlen_same {n : Nat} : ∀ xs Q, mSame n xs Q → xs.length = ps__law_same.length := fun _ _ ⟨_, e, _⟩ => by rw [e]; rfl
theorem math_same0 : ∀ xs Q, mSame 0 xs Q → bd__law_same (fun _ _ => False) { nx := fun _ => Q .none, rt := fun _ d _ => Q d } (startR nm__law_same xs) := fun xs Q ⟨d, e, f, h⟩ => by
  unfold fitD at f
  cases f
theorem all_true (n : Nat) : (List.replicate n true).all id = true := by
  rw [List.all_eq_true]
  intro x hx
  exact (List.mem_replicate.mp hx).2
theorem eqv_len (n : Nat) : PyData.eqv (.int (n : Int)) (.int (n : Int)) = true := by rw [eqv_int]; simp
theorem math_same1 {n : Nat} : ∀ xs Q, mSame (n + 1) xs Q → bd__law_same (mSame n) { nx := fun _ => Q .none, rt := fun _ d _ => Q d } (startR nm__law_same xs) := fun xs Q ⟨d, e, f, h⟩ => by
  subst e
  cases d with
  | dict _ =>
    unfold fitD at f
    cases f
  | list ds =>
    have f1 : (decide (ds.length ≤ 100000) && fitAll n ds) = true := by unfold fitD at f; exact f
    rw [Bool.and_eq_true, decide_eq_true_eq] at f1
    refine ⟨⟨rfl, rfl⟩, ⟨rfl, rfl⟩, ?_⟩
    refine ⟨⟨rfl, rfl⟩, ?_⟩
    rw [eqv_len]
    refine ⟨fun i ρ acc => ρ = [.val (.list ds), .val (.list ds), .val (.bool true), .no, .no] ∧ acc = List.replicate i (.bool true), ⟨rfl, rfl⟩, ?_, ?_⟩
    · rintro i x ρ acc hi ⟨rfl, rfl⟩
      obtain ⟨a, b, h1, h2, rfl⟩ := zipD_at _ _ _ _ hi
      rw [h1] at h2
      cases h2
      have hl : i < ds.length := (List.getElem?_eq_some_iff.mp h1).1
      refine ⟨a, rfl, fitAll_mem f1.2 a (List.mem_of_getElem? h1), ?_⟩
      refine ⟨by rw [List.length_replicate]; omega, rfl, ?_⟩
      rw [List.replicate_succ']
    · rintro ρ acc ⟨rfl, rfl⟩
      refine ⟨List.replicate (zipD ds ds).length true, by rw [List.map_replicate], ?_⟩
      rw [all_true]
      exact h
  | tuple ds =>
    have f1 : (decide (ds.length ≤ 100000) && fitAll n ds) = true := by unfold fitD at f; exact f
    rw [Bool.and_eq_true, decide_eq_true_eq] at f1
    refine ⟨⟨rfl, rfl⟩, ⟨rfl, rfl⟩, ?_⟩
    refine ⟨⟨rfl, rfl⟩, ?_⟩
    rw [eqv_len]
    refine ⟨fun i ρ acc => ρ = [.val (.tuple ds), .val (.tuple ds), .val (.bool true), .no, .no] ∧ acc = List.replicate i (.bool true), ⟨rfl, rfl⟩, ?_, ?_⟩
    · rintro i x ρ acc hi ⟨rfl, rfl⟩
      obtain ⟨a, b, h1, h2, rfl⟩ := zipD_at _ _ _ _ hi
      rw [h1] at h2
      cases h2
      have hl : i < ds.length := (List.getElem?_eq_some_iff.mp h1).1
      refine ⟨a, rfl, fitAll_mem f1.2 a (List.mem_of_getElem? h1), ?_⟩
      refine ⟨by rw [List.length_replicate]; omega, rfl, ?_⟩
      rw [List.replicate_succ']
    · rintro ρ acc ⟨rfl, rfl⟩
      refine ⟨List.replicate (zipD ds ds).length true, by rw [List.map_replicate], ?_⟩
      rw [all_true]
      exact h
  | none => exact ⟨⟨rfl, rfl⟩, ⟨rfl, rfl⟩, ⟨rfl, rfl⟩, ⟨rfl, rfl⟩, ⟨rfl, rfl⟩, h⟩
  | bool b => cases b <;> exact ⟨⟨rfl, rfl⟩, ⟨rfl, rfl⟩, ⟨rfl, rfl⟩, ⟨rfl, rfl⟩, ⟨rfl, rfl⟩, h⟩
  | int i =>
    refine ⟨⟨rfl, rfl⟩, ⟨rfl, rfl⟩, ⟨rfl, rfl⟩, ⟨rfl, rfl⟩, ⟨rfl, rfl⟩, ?_⟩
    have e : PyData.eqv (.int i) (.int i) = true := by rw [eqv_int]; simp
    rw [e]
    exact h
  | str x =>
    have sh : SeqAt.shaped (.str x) = true := by unfold fitD at f; exact f
    refine ⟨⟨rfl, rfl⟩, ⟨rfl, rfl⟩, ⟨rfl, rfl⟩, ⟨rfl, rfl⟩, ⟨sh, sh⟩, ?_⟩
    have e : PyData.eqv (.str x) (.str x) = true := by show (x == x) = true; simp
    rw [e]
    exact h
end K18

set_option Elab.async false
set_option linter.all false
set_option maxRecDepth 100000
set_option maxHeartbeats 1000000
namespace K18
open PySem L2 Evl PyProof.Rows RZ DL
theorem at_gt (cs : List Int) {z : Int} {k : Nat} (h : k < cs.length) (e : z = (k : Int)) : atI (cs.map PyData.int) z = some (.int (gt cs k)) := by
  subst e
  unfold atI ixN
  rw [List.length_map, if_pos (by omega), if_pos (by omega)]
  show (cs.map PyData.int)[(k : Int).toNat]? = _
  rw [Int.toNat_natCast, List.getElem?_map]
  unfold gt
  rw [List.getD_eq_getElem?_getD, List.getElem?_eq_getElem h]
  rfl
theorem at_row (rows : List (List Int)) {z : Int} {k : Nat} (h : k < rows.length) (e : z = (k : Int)) : atI (rows.map dints) z = some (dints (rows.getD k [])) := by
  subst e
  unfold atI ixN
  rw [List.length_map, if_pos (by omega), if_pos (by omega)]
  show (rows.map dints)[(k : Int).toNat]? = _
  rw [Int.toNat_natCast, List.getElem?_map]
  rw [List.getD_eq_getElem?_getD, List.getElem?_eq_getElem h]
  rfl
theorem map_at {α : Type} {f : α → PyData} {l : List α} {i : Nat} {x : PyData} (h : (l.map f)[i]? = some x) : ∃ a, l[i]? = some a ∧ x = f a := by
  rw [List.getElem?_map] at h
  cases q : l[i]? with
  | none => rw [q] at h; cases h
  | some a => rw [q] at h; cases h; exact ⟨a, rfl, rfl⟩
theorem WF.rlen {c : Int} {rows : List (List Int)} (w : WF c rows) {k : Nat} (h : k < rows.length) : (rows.getD k []).length = k := by
  rw [List.getD_eq_getElem?_getD, List.getElem?_eq_getElem h]
  exact (w.row k _ (List.getElem?_eq_getElem h)).1
theorem WF.pc {c : Int} {rows : List (List Int)} (w : WF c rows) {a b : Nat} (ha : a < rows.length) (hb : b < rows.length) (hab : a ≠ b) : 0 ≤ pc rows a b ∧ pc rows a b < c := by
  have hm : max a b < rows.length := by omega
  have hl := w.rlen hm
  have hr : rows[max a b]? = some (rows.getD (max a b) []) := by
    rw [List.getD_eq_getElem?_getD, List.getElem?_eq_getElem hm]
    rfl
  refine (w.row _ _ hr).2 _ ?_
  unfold K18.pc gt
  rw [List.getD_eq_getElem?_getD (i := min a b), List.getElem?_eq_getElem (by omega)]
  exact List.getElem_mem _
theorem pc_comm (rows : List (List Int)) (a b : Nat) : pc rows a b = pc rows b a := by
  unfold pc
  rw [Nat.max_comm, Nat.min_comm]
theorem mlen_colour_there : ∀ xs Q, m_colour_there xs Q → xs.length = ps_colour_there.length := fun _ _ ⟨_, _, _, _, ⟨e, _⟩, _⟩ => by rw [e]; rfl
theorem math_colour_there : ∀ xs Q, m_colour_there xs Q → bd_colour_there { nx := fun _ => Q .none, rt := fun _ d _ => Q d } (startR nm_colour_there xs) := fun xs Q ⟨c, rows, a, b, ⟨e, wf⟩, ha, hb, hab, h⟩ => by
  subst e
  refine ⟨_, rfl, ?_⟩
  have hm : max a b < rows.length := by omega
  refine ⟨_, at_row rows (k := max a b) hm (by omega), ?_⟩
  exact ⟨_, at_gt _ (k := min a b) (by rw [wf.rlen hm]; omega) (by omega), h⟩
theorem mlen__law_colour : ∀ xs Q, m__law_colour xs Q → xs.length = ps__law_colour.length := mlen_colour_there
theorem math__law_colour : ∀ xs Q, m__law_colour xs Q → bd__law_colour { nx := fun _ => Q .none, rt := fun _ d _ => Q d } (startR nm__law_colour xs) := math_colour_there
theorem mlen_is_row : ∀ xs Q, m_is_row xs Q → xs.length = ps_is_row.length := fun _ _ ⟨_, _, e, _⟩ => by rw [e]; rfl
theorem math_is_row : ∀ xs Q, m_is_row xs Q → bd_is_row { nx := fun _ => Q .none, rt := fun _ d _ => Q d } (startR nm_is_row xs) := fun xs Q ⟨c, row, e, nn, hl, h⟩ => by
  subst e
  refine ⟨⟨rfl, rfl⟩, ?_⟩
  have e1 : PyData.eqv (.int ((row.map PyData.int).length : Int)) (.int (row.length : Int)) = true := by rw [List.length_map]; exact eqv_len _
  rw [e1]
  refine ⟨fun i ρ acc => ρ = [.val (.int c), .val (.int (row.length : Int)), .val (dints row), .no] ∧ acc = List.replicate i (.bool true), ⟨rfl, rfl⟩, ?_, ?_⟩
  · rintro i x ρ acc hi ⟨rfl, rfl⟩
    obtain ⟨y, hc, rfl⟩ := map_at hi
    have hl2 : i < row.length := (List.getElem?_eq_some_iff.mp hc).1
    have hy := nn y (List.mem_of_getElem? hc)
    refine ⟨_, 0, rfl, ?_⟩
    have e : cnt 0 (.int y) = true := by
      show decide (max (0 : Int) 0 ≤ y) = true
      exact decide_eq_true (by omega)
    rw [e]
    refine ⟨by rw [List.length_replicate]; omega, rfl, ?_⟩
    show _ ++ [PyData.bool (decide (y < c))] = _
    rw [decide_eq_true hy.2, List.replicate_succ']
  · rintro ρ acc ⟨rfl, rfl⟩
    refine ⟨List.replicate (row.map PyData.int).length true, by rw [List.map_replicate], ?_⟩
    rw [all_true]
    exact h
theorem mlen_is_guest : ∀ xs Q, m_is_guest xs Q → xs.length = ps_is_guest.length := fun _ _ ⟨_, _, _, ⟨e, _⟩, _⟩ => by rw [e]; rfl
theorem math_is_guest : ∀ xs Q, m_is_guest xs Q → bd_is_guest { nx := fun _ => Q .none, rt := fun _ d _ => Q d } (startR nm_is_guest xs) := fun xs Q ⟨c, rows, g, ⟨e, wf⟩, hg, h⟩ => by
  subst e
  refine ⟨_, 0, rfl, ?_⟩
  have e : cnt 0 (.int (g : Int)) = true := by
    show decide (max (0 : Int) 0 ≤ (g : Int)) = true
    exact decide_eq_true (by omega)
  rw [e]
  refine ⟨_, rfl, ?_⟩
  show Q (PyData.bool (decide ((g : Int) < ((rows.map dints).length : Int))))
  rw [decide_eq_true (by rw [List.length_map]; omega)]
  exact h
theorem mlen_is_party : ∀ xs Q, m_is_party xs Q → xs.length = ps_is_party.length := fun _ _ ⟨_, _, ⟨e, _⟩, _⟩ => by rw [e]; rfl
theorem math_is_party : ∀ xs Q, m_is_party xs Q → bd_is_party { nx := fun _ => Q .none, rt := fun _ d _ => Q d } (startR nm_is_party xs) := fun xs Q ⟨c, rows, ⟨e, wf⟩, h⟩ => by
  subst e
  have wp := wf.pos
  have wl := wf.len
  refine ⟨_, 2, rfl, ?_⟩
  refine ⟨_, rfl, _, 1, rfl, ?_⟩
  have e1 : cnt 1 (.int c) = true := by
    show decide (max (1 : Int) 0 ≤ c) = true
    exact decide_eq_true (by omega)
  rw [e1]
  refine ⟨_, rfl, ?_⟩
  refine ⟨_, rfl, ?_⟩
  refine ⟨fun i ρ acc => ρ = [.val (pD c rows), .no, .no] ∧ acc = List.replicate i (.bool true), ⟨rfl, rfl⟩, ?_, ?_⟩
  · rintro i x ρ acc hi ⟨rfl, rfl⟩
    obtain ⟨d, hd, rfl⟩ := enumD_at _ _ _ _ hi
    obtain ⟨row, hr, rfl⟩ := map_at hd
    have hl2 : i < rows.length := (List.getElem?_eq_some_iff.mp hr).1
    obtain ⟨r1, r2⟩ := wf.row i row hr
    refine ⟨_, rfl, c, row, ?_, r2, by omega, ?_⟩
    · rw [r1, Nat.zero_add]
      rfl
    · refine ⟨by rw [List.length_replicate]; omega, rfl, ?_⟩
      rw [List.replicate_succ']
  · rintro ρ acc ⟨rfl, rfl⟩
    refine ⟨List.replicate (enumD 0 (rows.map dints)).length true, by rw [List.map_replicate], ?_⟩
    rw [all_true]
    exact h
theorem mlen_check_party : ∀ xs Q, m_check_party xs Q → xs.length = ps_check_party.length := fun _ _ ⟨_, _, ⟨e, _⟩, _⟩ => by rw [e]; rfl
theorem math_check_party : ∀ xs Q, m_check_party xs Q → bd_check_party { nx := fun _ => Q .none, rt := fun _ d _ => Q d } (startR nm_check_party xs) := fun xs Q ⟨c, rows, ⟨e, wf⟩, h⟩ => by
  subst e
  exact ⟨c, rows, ⟨rfl, wf⟩, h⟩
theorem mlen_check_guest : ∀ xs Q, m_check_guest xs Q → xs.length = ps_check_guest.length := fun _ _ ⟨_, _, _, ⟨e, _⟩, _⟩ => by rw [e]; rfl
theorem math_check_guest : ∀ xs Q, m_check_guest xs Q → bd_check_guest { nx := fun _ => Q .none, rt := fun _ d _ => Q d } (startR nm_check_guest xs) := fun xs Q ⟨c, rows, g, ⟨e, wf⟩, hg, h⟩ => by
  subst e
  exact ⟨c, rows, g, ⟨rfl, wf⟩, hg, h⟩
theorem mlen_check_pair : ∀ xs Q, m_check_pair xs Q → xs.length = ps_check_pair.length := fun _ _ ⟨_, _, _, _, ⟨e, _⟩, _⟩ => by rw [e]; rfl
theorem math_check_pair : ∀ xs Q, m_check_pair xs Q → bd_check_pair { nx := fun _ => Q .none, rt := fun _ d _ => Q d } (startR nm_check_pair xs) := fun xs Q ⟨c, rows, a, b, ⟨e, wf⟩, ha, hb, hab, h⟩ => by
  subst e
  refine ⟨c, rows, ⟨rfl, wf⟩, ?_⟩
  refine ⟨c, rows, a, ⟨rfl, wf⟩, ha, ?_⟩
  refine ⟨c, rows, b, ⟨rfl, wf⟩, hb, ?_⟩
  refine ⟨⟨rfl, rfl⟩, ?_⟩
  rw [eqv_int, decide_eq_false (by omega)]
  exact h
theorem mlen_ones_of : ∀ xs Q, m_ones_of xs Q → xs.length = ps_ones_of.length := fun _ _ ⟨_, _, ⟨e, _⟩, _⟩ => by rw [e]; rfl
theorem math_ones_of : ∀ xs Q, m_ones_of xs Q → bd_ones_of { nx := fun _ => False, rt := fun n d _ => n = true ∧ Q d } (startR nm_ones_of xs) := fun xs Q ⟨c, rows, ⟨e, wf⟩, h⟩ => by
  subst e
  refine ⟨c, rows, ⟨rfl, wf⟩, ?_⟩
  exact ⟨c, rows, ⟨rfl, wf⟩, rfl, h⟩
end K18

set_option Elab.async false
set_option linter.all false
set_option maxRecDepth 100000
set_option maxHeartbeats 1000000
namespace K18
open PySem L2 Evl PyProof.Rows RZ DL
theorem filt_succ (P : Nat → Bool) (i : Nat) : (List.range (i + 1)).filter P = (List.range i).filter P ++ (if P i = true then [i] else []) := by
  rw [List.range_succ, List.filter_append, List.filter_cons]
  rfl
theorem filt_len (P : Nat → Bool) (i : Nat) : ((List.range i).filter P).length ≤ i := by
  have := List.length_filter_le P (List.range i)
  rw [List.length_range] at this
  exact this
def natD (i : Nat) : PyData := .int (i : Int)
theorem inD_two (x a b : Int) : inD (.int x) [.int a, .int b] = (decide (x = a) || decide (x = b)) := by
  unfold inD
  show (List.any [PyData.int a, PyData.int b] fun _ => _) = _
  simp only [List.any_cons, List.any_nil, Bool.or_false]
  rw [eqv_int, eqv_int]
  rw [decide_eq_decide.mpr (eq_comm : a = x ↔ x = a), decide_eq_decide.mpr (eq_comm : b = x ↔ x = b)]
theorem mlen_colours_of : ∀ xs Q, m_colours_of xs Q → xs.length = ps_colours_of.length := fun _ _ ⟨_, _, _, ⟨e, _⟩, _⟩ => by rw [e]; rfl
theorem math_colours_of : ∀ xs Q, m_colours_of xs Q → bd_colours_of { nx := fun _ => Q .none, rt := fun _ d _ => Q d } (startR nm_colours_of xs) := fun xs Q ⟨c, rows, ⟨p, q, r⟩, ⟨e, wf⟩, ⟨h1, h2, h3⟩, h⟩ => by
  subst e
  replace h1 : p < q := h1
  replace h2 : q < r := h2
  replace h3 : r < rows.length := h3
  replace h : Q (.int (kind rows (p, q, r) : Int)) := h
  have ek : kind rows (p, q, r) = if pc rows p q = pc rows p r then (if pc rows q r = pc rows p q then 1 else 2) else (if pc rows q r = pc rows p q ∨ pc rows q r = pc rows p r then 2 else 3) := rfl
  refine ⟨c, rows, p, q, ⟨rfl, wf⟩, by omega, by omega, by omega, ?_⟩
  refine ⟨c, rows, p, r, ⟨rfl, wf⟩, by omega, by omega, by omega, ?_⟩
  refine ⟨c, rows, q, r, ⟨rfl, wf⟩, by omega, by omega, by omega, ?_⟩
  refine ⟨⟨rfl, rfl⟩, ?_⟩
  rw [eqv_int]
  by_cases z : pc rows p q = pc rows p r
  · rw [decide_eq_true z]
    rw [ek, if_pos z] at h
    refine ⟨⟨rfl, rfl⟩, ?_⟩
    rw [eqv_int]
    by_cases y : pc rows q r = pc rows p q
    · rw [decide_eq_true y]
      rw [if_pos y] at h
      exact h
    · rw [decide_eq_false y]
      rw [if_neg y] at h
      exact h
  · rw [decide_eq_false z]
    rw [ek, if_neg z] at h
    refine ⟨(by decide : 2 ≤ 100000), ?_⟩
    refine ⟨⟨rfl, rfl⟩, ?_⟩
    show (match (inD (.int (pc rows q r)) [.int (pc rows p q), .int (pc rows p r)]) with | true => _ | false => _)
    rw [inD_two]
    by_cases y : pc rows q r = pc rows p q ∨ pc rows q r = pc rows p r
    · rw [← Bool.decide_or, decide_eq_true y]
      rw [if_pos y] at h
      exact h
    · rw [← Bool.decide_or, decide_eq_false y]
      rw [if_neg y] at h
      exact h
theorem mlen_partners_there : ∀ xs Q, m_partners_there xs Q → xs.length = ps_partners_there.length := fun _ _ ⟨_, _, _, _, ⟨e, _⟩, _⟩ => by rw [e]; rfl
theorem math_partners_there : ∀ xs Q, m_partners_there xs Q → bd_partners_there { nx := fun _ => Q .none, rt := fun _ d _ => Q d } (startR nm_partners_there xs) := fun xs Q ⟨c, rows, g, k, ⟨e, wf⟩, hg, h⟩ => by
  subst e
  have wl := wf.len
  have hn : (rows.map dints).length = rows.length := List.length_map _
  refine ⟨_, rfl, ?_⟩
  refine ⟨by omega, by omega, ?_⟩
  refine ⟨fun i ρ acc => ρ = [.val (pD c rows), .val (.int (g : Int)), .val (.int k), .no] ∧ acc = ((List.range i).filter fun l => decide (l ≠ g) && decide (pc rows g l = k)).map natD, ⟨rfl, rfl⟩, ?_, ?_⟩
  · rintro i x ρ acc hi ⟨rfl, rfl⟩
    obtain ⟨hi1, rfl⟩ := rngD_at hi
    have hi2 : i < rows.length := by omega
    have fl := filt_len (fun l => decide (l ≠ g) && decide (pc rows g l = k)) i
    refine ⟨⟨rfl, rfl⟩, ?_⟩
    rw [eqv_int, show (0 + (i : Int)) = (i : Int) by omega]
    by_cases z : i = g
    · rw [decide_eq_true (by omega)]
      refine ⟨rfl, ?_⟩
      rw [filt_succ, if_neg (by simp [z]), List.append_nil]
    · rw [decide_eq_false (by omega)]
      refine ⟨c, rows, g, i, ⟨rfl, wf⟩, hg, hi2, by omega, ?_⟩
      refine ⟨⟨rfl, rfl⟩, ?_⟩
      rw [eqv_int]
      by_cases y : pc rows g i = k
      · rw [decide_eq_true y]
        refine ⟨by rw [List.length_map]; omega, rfl, ?_⟩
        rw [filt_succ, if_pos (by simp [z, y]), List.map_append]
        rfl
      · rw [decide_eq_false y]
        refine ⟨rfl, ?_⟩
        rw [filt_succ, if_neg (by simp [z, y]), List.append_nil]
  · rintro ρ acc ⟨rfl, rfl⟩
    rw [rngD_len]
    have en : (((rows.map dints).length : Int)).toNat = rows.length := by omega
    rw [en]
    exact h
end K18

set_option Elab.async false
set_option linter.all false
set_option maxRecDepth 100000
set_option maxHeartbeats 1000000
namespace K18
open PySem L2 Evl PyProof.Rows RZ DL
theorem t3D_of {a b c : Nat} {x y z : Int} (hx : x = (a : Int)) (hy : y = (b : Int)) (hz : z = (c : Int)) : PyData.tuple [.int x, .int y, .int z] = t3D (a, b, c) := by
  subst hx hy hz
  rfl
theorem flatMap_len {α β : Type} (f : α → List β) (k : Nat) : ∀ (l : List α), (∀ x ∈ l, (f x).length ≤ k) → (l.flatMap f).length ≤ l.length * k
  | [], _ => Nat.zero_le _
  | x :: r, h => by
    rw [List.flatMap_cons, List.length_append, List.length_cons, Nat.succ_mul]
    have := flatMap_len f k r fun y hy => h y (List.mem_cons_of_mem _ hy)
    have := h x List.mem_cons_self
    omega
theorem flatMap_succ {β : Type} (f : Nat → List β) (i : Nat) : (List.range (i + 1)).flatMap f = (List.range i).flatMap f ++ f i := by
  rw [List.range_succ, List.flatMap_append, List.flatMap_cons, List.flatMap_nil, List.append_nil]
def cellT (n a i : Nat) : List (Nat × Nat × Nat) := (List.range (n - (a + 1 + i + 1))).map fun j => (a, a + 1 + i, a + 1 + i + 1 + j)
def rowT (n a : Nat) : List (Nat × Nat × Nat) := (List.range (n - (a + 1))).flatMap (cellT n a)
theorem trips_eq (n : Nat) : trips n = (List.range n).flatMap (rowT n) := rfl
theorem cell_len (n a i : Nat) : (cellT n a i).length ≤ n := by
  unfold cellT
  rw [List.length_map, List.length_range]
  omega
theorem cells_len (n a j : Nat) : ((List.range j).flatMap (cellT n a)).length ≤ j * n := by
  have := flatMap_len (cellT n a) n (List.range j) fun i _ => cell_len n a i
  rw [List.length_range] at this
  exact this
theorem row_len (n a : Nat) : (rowT n a).length ≤ n * n := by
  have := cells_len n a (n - (a + 1))
  exact Nat.le_trans this (Nat.mul_le_mul_right n (by omega))
theorem rows_len (n i : Nat) : ((List.range i).flatMap (rowT n)).length ≤ i * (n * n) := by
  have := flatMap_len (rowT n) (n * n) (List.range i) fun i _ => row_len n i
  rw [List.length_range] at this
  exact this
theorem mlen_triples_of : ∀ xs Q, m_triples_of xs Q → xs.length = ps_triples_of.length := fun _ _ ⟨_, e, _⟩ => by rw [e]; rfl
theorem math_triples_of : ∀ xs Q, m_triples_of xs Q → bd_triples_of { nx := fun _ => Q .none, rt := fun _ d _ => Q d } (startR nm_triples_of xs) := fun xs Q ⟨n, e, hn, h⟩ => by
  subst e
  refine ⟨by decide, ?_⟩
  refine ⟨by omega, by omega, fun i ρ => ∃ x y, ρ = [.val (.int (n : Int)), .val (.list (((List.range i).flatMap (rowT n)).map t3D)), x, y, .no], ⟨.no, .no, rfl⟩, ?_, ?_⟩
  · rintro i x ρ hi ⟨s2, s3, rfl⟩
    obtain ⟨hi1, rfl⟩ := rngD_at hi
    have hi2 : i < n := by omega
    refine ⟨⟨by omega, by omega, by omega, by omega⟩, fun j ρ => ∃ y, ρ = [.val (.int (n : Int)), .val (.list (((List.range i).flatMap (rowT n) ++ (List.range j).flatMap (cellT n i)).map t3D)), .val (.int (0 + (i : Int))), y, .no], ⟨s3, by rw [List.range_zero, List.flatMap_nil, List.append_nil]; rfl⟩, ?_, ?_⟩
    · rintro j x ρ hj ⟨s3, rfl⟩
      obtain ⟨hj1, rfl⟩ := rngD_at hj
      have hj2 : i + 1 + j < n := by omega
      refine ⟨⟨by omega, by omega, by omega, by omega⟩, fun k ρ acc => ρ = [.val (.int (n : Int)), .val (.list (((List.range i).flatMap (rowT n) ++ (List.range j).flatMap (cellT n i)).map t3D)), .val (.int (0 + (i : Int))), .val (.int (0 + (i : Int) + 1 + (j : Int))), .no] ∧ acc = ((List.range k).map fun l => (i, i + 1 + j, i + 1 + j + 1 + l)).map t3D, ⟨rfl, rfl⟩, ?_, ?_⟩
      · rintro k x ρ acc hk ⟨rfl, rfl⟩
        obtain ⟨hk1, rfl⟩ := rngD_at hk
        refine ⟨(by decide : 3 ≤ 100000), ?_⟩
        refine ⟨by rw [List.length_map, List.length_map, List.length_range]; omega, rfl, ?_⟩
        rw [List.range_succ, List.map_append, List.map_append]
        congr 1
        exact congrArg (fun z => [z]) (t3D_of (by omega) (by omega) (by omega))
      · rintro ρ acc ⟨rfl, rfl⟩
        have l1 := rows_len n i
        have l2 := cells_len n i j
        have l3 : i * (n * n) ≤ 24 * (24 * 24) := Nat.mul_le_mul (by omega) (Nat.mul_le_mul hn hn)
        have l4 : j * n ≤ 24 * 24 := Nat.mul_le_mul (by omega) hn
        refine ⟨?_, .val (.int (0 + (i : Int) + 1 + (j : Int))), ?_⟩
        · rw [List.length_map, List.length_append, List.length_map, List.length_map, List.length_range, rngD_len]
          omega
        · rw [flatMap_succ, ← List.append_assoc, List.map_append (l₁ := (List.range i).flatMap (rowT n) ++ (List.range j).flatMap (cellT n i)), rngD_len]
          have en : ((n : Int) - (0 + (i : Int) + 1 + (j : Int) + 1)).toNat = n - (i + 1 + j + 1) := by omega
          rw [en]
          rfl
    · rintro ρ ⟨s3, rfl⟩
      refine ⟨.val (.int (0 + (i : Int))), s3, ?_⟩
      rw [rngD_len]
      have en : ((n : Int) - (0 + (i : Int) + 1)).toNat = n - (i + 1) := by omega
      rw [en, flatMap_succ]
      rfl
  · rintro ρ ⟨s2, s3, rfl⟩
    rw [rngD_len]
    exact h
end K18

set_option Elab.async false
set_option linter.all false
set_option maxRecDepth 100000
set_option maxHeartbeats 1000000
namespace K18
open PySem L2 Evl PyProof.Rows RZ DL
theorem mem_trips {n : Nat} {t : Nat × Nat × Nat} : t ∈ trips n ↔ Tr n t := by
  obtain ⟨a, b, c⟩ := t
  show (a, b, c) ∈ trips n ↔ (a < b ∧ b < c ∧ c < n)
  unfold trips
  simp only [List.mem_flatMap, List.mem_map, List.mem_range, Prod.mk.injEq]
  constructor
  · rintro ⟨a', h1, i, h2, j, h3, rfl, rfl, rfl⟩
    omega
  · rintro ⟨h1, h2, h3⟩
    exact ⟨a, by omega, b - (a + 1), by omega, c - (b + 1), by omega, rfl, by omega, by omega⟩
theorem take_at {α : Type} {l : List α} {i : Nat} {x : α} (h : l[i]? = some x) : l.take (i + 1) = l.take i ++ [x] := by
  rw [List.take_add_one, h]
  rfl
theorem trips_len (n : Nat) (h : n ≤ 24) : (trips n).length ≤ 13824 := by
  have := rows_len n n
  rw [← trips_eq] at this
  have l3 : n * (n * n) ≤ 24 * (24 * 24) := Nat.mul_le_mul h (Nat.mul_le_mul h h)
  omega
theorem tf_len {α : Type} (P : α → Bool) (l : List α) (k : Nat) : ((l.take k).filter P).length ≤ l.length := by
  have h1 := List.length_filter_le P (l.take k)
  have h2 := List.length_take_le k l
  have h3 : (l.take k).length ≤ l.length := by rw [List.length_take]; omega
  omega
theorem mlen_ones_there : ∀ xs Q, m_ones_there xs Q → xs.length = ps_ones_there.length := fun _ _ ⟨_, _, ⟨e, _⟩, _⟩ => by rw [e]; rfl
theorem math_ones_there : ∀ xs Q, m_ones_there xs Q → bd_ones_there { nx := fun _ => False, rt := fun n d _ => n = true ∧ Q d } (startR nm_ones_there xs) := fun xs Q ⟨c, rows, ⟨e, wf⟩, h⟩ => by
  subst e
  have wl := wf.len
  have hn : (rows.map dints).length = rows.length := List.length_map _
  have tl := trips_len rows.length wl
  refine ⟨_, rfl, ?_⟩
  refine ⟨rows.length, by rw [hn]; rfl, wl, ?_⟩
  refine ⟨fun k ρ acc => ρ = [.val (pD c rows), .no] ∧ acc = (((trips rows.length).take k).filter fun t => decide (kind rows t = 1)).map t3D, ⟨rfl, rfl⟩, ?_, ?_⟩
  · rintro k x ρ acc hk ⟨rfl, rfl⟩
    obtain ⟨t, ht, rfl⟩ := map_at hk
    refine ⟨c, rows, t, ⟨rfl, wf⟩, mem_trips.mp (List.mem_of_getElem? ht), ?_⟩
    refine ⟨⟨rfl, rfl⟩, ?_⟩
    rw [eqv_int]
    have fl := tf_len (fun t => decide (kind rows t = 1)) (trips rows.length) k
    by_cases z : kind rows t = 1
    · rw [decide_eq_true (by omega)]
      refine ⟨by rw [List.length_map]; omega, rfl, ?_⟩
      rw [take_at ht, List.filter_append, List.map_append, List.filter_cons, if_pos (by simp [z])]
      rfl
    · rw [decide_eq_false (by omega)]
      refine ⟨rfl, ?_⟩
      rw [take_at ht, List.filter_append, List.filter_cons, if_neg (by simp [z]), List.filter_nil, List.append_nil]
  · rintro ρ acc ⟨rfl, rfl⟩
    rw [List.length_map, List.take_length]
    exact ⟨rfl, h⟩
theorem mlen__law_counts : ∀ xs Q, m__law_counts xs Q → xs.length = ps__law_counts.length := fun _ _ ⟨_, _, _, ⟨e, _⟩, _⟩ => by rw [e]; rfl
theorem math__law_counts : ∀ xs Q, m__law_counts xs Q → bd__law_counts { nx := fun _ => Q .none, rt := fun _ d _ => Q d } (startR nm__law_counts xs) := fun xs Q ⟨c, rows, g, ⟨e, wf⟩, hg, h⟩ => by
  subst e
  have wl := wf.len
  have wp := wf.pos
  have wq := wf.few
  have hn : (rows.map dints).length = rows.length := List.length_map _
  refine ⟨_, rfl, ?_⟩
  have fl := filt_len (fun l => decide (l ≠ g))
  refine ⟨by omega, by omega, fun k ρ acc => ρ = [.val (pD c rows), .val (.int (g : Int)), .val (.int ((rows.map dints).length : Int)), .no, .no, .no] ∧ acc = (((List.range k).filter fun l => decide (l ≠ g)).map fun l => pc rows g l).map PyData.int, ⟨rfl, rfl⟩, ?_, ?_⟩
  · rintro i x ρ acc hi ⟨rfl, rfl⟩
    obtain ⟨hi1, rfl⟩ := rngD_at hi
    have hi2 : i < rows.length := by omega
    have fi := fl i
    refine ⟨⟨rfl, rfl⟩, ?_⟩
    rw [eqv_int, show (0 + (i : Int)) = (i : Int) by omega]
    by_cases z : i = g
    · rw [decide_eq_true (by omega)]
      refine ⟨rfl, ?_⟩
      rw [filt_succ, if_neg (by simp [z]), List.append_nil]
    · rw [decide_eq_false (by omega)]
      refine ⟨c, rows, g, i, ⟨rfl, wf⟩, hg, hi2, by omega, ?_⟩
      refine ⟨by rw [List.length_map, List.length_map]; omega, rfl, ?_⟩
      rw [filt_succ, if_pos (by simp [z]), List.map_append, List.map_append]
      rfl
  · rintro ρ acc ⟨rfl, rfl⟩
    rw [rngD_len]
    have en : (((rows.map dints).length : Int)).toNat = rows.length := by omega
    rw [en]
    refine ⟨_, rfl, ?_⟩
    refine ⟨by omega, by omega, fun k ρ acc => ρ = [.val (pD c rows), .val (.int (g : Int)), .val (.int ((rows.map dints).length : Int)), .val (dints (((List.range rows.length).filter fun l => decide (l ≠ g)).map fun l => pc rows g l)), .no, .no] ∧ acc = ((List.range k).map fun (k : Nat) => ((((List.range rows.length).filter fun l => decide (l ≠ g) && decide (pc rows g l = (k : Int))).length : Nat) : Int)).map PyData.int, ⟨rfl, rfl⟩, ?_, ?_⟩
    · rintro k x ρ acc hk ⟨rfl, rfl⟩
      obtain ⟨hk1, rfl⟩ := rngD_at hk
      refine ⟨_, _, rfl, rfl, ?_⟩
      refine ⟨by rw [List.length_map, List.length_map, List.length_range]; omega, rfl, ?_⟩
      rw [List.range_succ, List.map_append, List.map_append]
      congr 1
      refine congrArg (fun z : Nat => [PyData.int (z : Int)]) ?_
      rw [List.count_eq_countP, List.countP_map, List.countP_eq_length_filter, List.filter_filter]
      congr 2
      funext l
      show ((pc rows g l == 0 + (k : Int)) && decide (l ≠ g)) = _
      rw [Bool.and_comm, Int.zero_add]
      rfl
    · rintro ρ acc ⟨rfl, rfl⟩
      rw [rngD_len]
      exact h
end K18

set_option Elab.async false
set_option linter.all false
set_option maxRecDepth 100000
set_option maxHeartbeats 1000000
namespace K18
open PySem L2 Evl PyProof.Rows RZ DL
theorem inD_three (x a b c : Int) : inD (.int x) [.int a, .int b, .int c] = decide (x = a ∨ x = b ∨ x = c) := by
  unfold inD
  show (List.any [PyData.int a, PyData.int b, PyData.int c] fun _ => _) = _
  simp only [List.any_cons, List.any_nil, Bool.or_false]
  rw [eqv_int, eqv_int, eqv_int]
  rw [decide_eq_decide.mpr (eq_comm : a = x ↔ x = a), decide_eq_decide.mpr (eq_comm : b = x ↔ x = b), decide_eq_decide.mpr (eq_comm : c = x ↔ x = c), ← Bool.decide_or, ← Bool.decide_or]
theorem mlen__law_fits : ∀ xs Q, m__law_fits xs Q → xs.length = ps__law_fits.length := fun _ _ ⟨_, _, _, _, ⟨e, _⟩, _⟩ => by rw [e]; rfl
theorem math__law_fits : ∀ xs Q, m__law_fits xs Q → bd__law_fits { nx := fun _ => Q .none, rt := fun _ d _ => Q d } (startR nm__law_fits xs) := fun xs Q ⟨c, rows, g, ⟨p, q, r⟩, ⟨e, wf⟩, hg, ⟨h1, h2, h3⟩, h⟩ => by
  subst e
  replace h1 : p < q := h1
  replace h2 : q < r := h2
  replace h3 : r < rows.length := h3
  have ef : fits rows g (p, q, r) = (decide (g = p ∨ g = q ∨ g = r) || (decide (pc rows g p = pc rows g q) && decide (pc rows g q = pc rows g r))) := rfl
  rw [ef] at h
  refine ⟨⟨rfl, rfl⟩, ?_⟩
  show (match (inD (.int (g : Int)) [.int (p : Int), .int (q : Int), .int (r : Int)]) with | true => _ | false => _)
  rw [inD_three]
  by_cases z : g = p ∨ g = q ∨ g = r
  · rw [decide_eq_true (show (g : Int) = p ∨ (g : Int) = q ∨ (g : Int) = r by omega)]
    rw [decide_eq_true z] at h
    exact h
  · rw [decide_eq_false (show ¬ ((g : Int) = p ∨ (g : Int) = q ∨ (g : Int) = r) by omega)]
    rw [decide_eq_false z, Bool.false_or] at h
    refine ⟨fun i ρ acc => ρ = [.val (pD c rows), .val (.int (g : Int)), .val (t3D (p, q, r)), .no, .no] ∧ acc = ([p, q, r].take i).map fun l => PyData.int (pc rows g l), ⟨rfl, rfl⟩, ?_, ?_⟩
    · rintro i x ρ acc hi ⟨rfl, rfl⟩
      have hi' : ([p, q, r].map natD)[i]? = some x := hi
      obtain ⟨l, hl, rfl⟩ := map_at hi'
      have hm := List.mem_of_getElem? hl
      have hl2 : l < rows.length ∧ g ≠ l := by
        simp only [List.mem_cons, List.not_mem_nil, or_false] at hm
        omega
      refine ⟨c, rows, g, l, ⟨rfl, wf⟩, hg, hl2.1, hl2.2, ?_⟩
      refine ⟨?_, rfl, ?_⟩
      · rw [List.length_map]
        have := List.length_take_le' i [p, q, r]
        exact Nat.lt_of_le_of_lt this (by show 3 < 100000; decide)
      · rw [take_at hl, List.map_append]
        rfl
    · rintro ρ acc ⟨rfl, rfl⟩
      refine ⟨_, rfl, _, rfl, ⟨rfl, rfl⟩, ?_⟩
      rw [eqv_int]
      by_cases y : pc rows g p = pc rows g q
      · rw [decide_eq_true y]
        rw [decide_eq_true y, Bool.true_and] at h
        refine ⟨_, rfl, _, rfl, ⟨rfl, rfl⟩, ?_⟩
        rw [eqv_int]
        exact h
      · rw [decide_eq_false y]
        rw [decide_eq_false y, Bool.false_and] at h
        exact h
theorem cut_to (l : List Nat) (k : Nat) (h : k ≤ l.length) : cutD (l.map natD) none (some (k : Int)) = (l.take k).map natD := by
  unfold DL.cutD
  rw [HT.sIx_nat, HT.sIx_none, List.drop_zero, List.length_map, Nat.sub_zero, ← List.map_take, Nat.min_eq_left h]
theorem named_len (rows : List (List Int)) (nm : List Nat) : (named rows nm).length = nm.length := by
  unfold named
  rw [List.length_map, List.length_range]
theorem mlen__law_named : ∀ xs Q, m__law_named xs Q → xs.length = ps__law_named.length := fun _ _ ⟨_, _, _, ⟨e, _⟩, _⟩ => by rw [e]; rfl
theorem math__law_named : ∀ xs Q, m__law_named xs Q → bd__law_named { nx := fun _ => Q .none, rt := fun _ d _ => Q d } (startR nm__law_named xs) := fun xs Q ⟨c, rows, nm, ⟨e, wf⟩, hp, h⟩ => by
  subst e
  have wl := wf.len
  have hl : nm.length = rows.length := by rw [hp.length_eq, List.length_range]
  have hm : ∀ x ∈ nm, x < rows.length := fun x hx => List.mem_range.mp (hp.mem_iff.mp hx)
  have nd : nm.Nodup := hp.nodup_iff.mpr List.nodup_range
  refine ⟨by decide, ?_⟩
  refine ⟨fun i ρ => ∃ x y, ρ = [.val (pD c rows), .val (natsD nm), .own (((List.range i).map fun i => (List.range i).map fun j => pc rows (nm.getD i 0) (nm.getD j 0)).map dints), x, y, .no], ⟨.no, .no, rfl⟩, ?_, ?_⟩
  · rintro i x ρ hi ⟨s3, s4, rfl⟩
    obtain ⟨d, hd, rfl⟩ := enumD_at _ _ _ _ hi
    obtain ⟨g, hgi, rfl⟩ := map_at hd
    have hi2 : i < nm.length := (List.getElem?_eq_some_iff.mp hgi).1
    have hg := hm g (List.mem_of_getElem? hgi)
    have hgd : nm.getD i 0 = g := by rw [List.getD_eq_getElem?_getD, hgi]; rfl
    have ec : cutD (nm.map natD) none (some (((0 + i : Nat) : Int))) = (nm.take i).map natD := by
      rw [Nat.zero_add]
      exact cut_to nm i (by omega)
    refine ⟨fun k ρ acc => ρ = [.val (pD c rows), .val (natsD nm), .own (((List.range i).map fun i => (List.range i).map fun j => pc rows (nm.getD i 0) (nm.getD j 0)).map dints), .val (.int ((0 + i : Nat) : Int)), .val (.int (g : Int)), .no] ∧ acc = ((List.range k).map fun j => pc rows g (nm.getD j 0)).map PyData.int, ⟨rfl, rfl⟩, ?_, ?_⟩
    · rintro k x ρ acc hk ⟨rfl, rfl⟩
      have hk' : (cutD (nm.map natD) none (some (((0 + i : Nat) : Int))))[k]? = some x := hk
      rw [ec] at hk'
      obtain ⟨l, hl2, rfl⟩ := map_at hk'
      have hki : k < (nm.take i).length := (List.getElem?_eq_some_iff.mp hl2).1
      rw [List.length_take] at hki
      rw [List.getElem?_take_of_lt (by omega)] at hl2
      have hlm := hm l (List.mem_of_getElem? hl2)
      have hgl : g ≠ l := by
        intro z
        subst z
        obtain ⟨a1, a2⟩ := List.getElem?_eq_some_iff.mp hl2
        obtain ⟨b1, b2⟩ := List.getElem?_eq_some_iff.mp hgi
        exact List.pairwise_iff_getElem.mp nd k i a1 b1 (by omega) (by rw [a2, b2])
      have hld : nm.getD k 0 = l := by rw [List.getD_eq_getElem?_getD, hl2]; rfl
      refine ⟨c, rows, g, l, ⟨rfl, wf⟩, hg, hlm, hgl, ?_⟩
      refine ⟨by rw [List.length_map, List.length_map, List.length_range]; omega, rfl, ?_⟩
      rw [List.range_succ, List.map_append, List.map_append]
      show _ = _ ++ [PyData.int (pc rows g (nm.getD k 0))]
      rw [hld]
    · rintro ρ acc ⟨rfl, rfl⟩
      have hk' : (cutD (nm.map natD) none (some (((0 + i : Nat) : Int)))).length = i := by
        rw [ec, List.length_map, List.length_take]
        omega
      refine ⟨?_, ?_⟩
      · rw [List.length_map, List.length_map, List.length_range]
        omega
      · refine ⟨.val (.int ((0 + i : Nat) : Int)), .val (.int (g : Int)), ?_⟩
        show [_, _, Sl.own _, _, _, _] = _
        rw [List.range_succ, List.map_append, List.map_append]
        rw [show (([i].map fun i => (List.range i).map fun j => pc rows (nm.getD i 0) (nm.getD j 0)).map dints) = [dints ((List.range i).map fun j => pc rows (nm.getD i 0) (nm.getD j 0))] from rfl, hgd]
        have : (List.range (cutD (nm.map natD) none (some (((0 + i : Nat) : Int)))).length) = List.range i := by rw [hk']
        exact congrArg (fun z => [Sl.val (pD c rows), .val (natsD nm), .own (_ ++ [PyData.list ((z.map fun j => pc rows g (nm.getD j 0)).map PyData.int)]), _, _, .no]) this
  · rintro ρ ⟨s3, s4, rfl⟩
    rw [enumD_len, List.length_map]
    refine ⟨_, rfl, ?_⟩
    refine ⟨(by decide : 2 ≤ 100000), ?_⟩
    exact h
end K18

set_option Elab.async false
set_option linter.all false
set_option maxRecDepth 100000
set_option maxHeartbeats 1000000
namespace K18
open PySem L2 Evl PyProof.Rows RZ DL
theorem kind_one (rows : List (List Int)) (p q r : Nat) : kind rows (p, q, r) = 1 ↔ (pc rows p r = pc rows p q ∧ pc rows q r = pc rows p q) := by
  have ek : kind rows (p, q, r) = if pc rows p q = pc rows p r then (if pc rows q r = pc rows p q then 1 else 2) else (if pc rows q r = pc rows p q ∨ pc rows q r = pc rows p r then 2 else 3) := rfl
  rw [ek]
  by_cases z : pc rows p q = pc rows p r
  · rw [if_pos z]
    by_cases y : pc rows q r = pc rows p q
    · rw [if_pos y]
      exact ⟨fun _ => ⟨z.symm, y⟩, fun _ => rfl⟩
    · rw [if_neg y]
      exact ⟨fun h => by omega, fun h => absurd h.2 y⟩
  · rw [if_neg z]
    refine ⟨fun h => ?_, fun h => absurd h.1.symm z⟩
    split at h <;> omega
def on1 (rows : List (List Int)) (t : Nat × Nat × Nat) : Bool := decide (kind rows t = 1)
/-- what is found before the pair (a, a + 1 + j) and its k first thirds -/
def pre3 (rows : List (List Int)) (n a j k : Nat) : List (Nat × Nat × Nat) := ((List.range a).flatMap (rowT n) ++ (List.range j).flatMap (cellT n a) ++ (List.range k).map fun l => (a, a + 1 + j, a + 1 + j + 1 + l)).filter (on1 rows)
theorem mlen__law_ones : ∀ xs Q, m__law_ones xs Q → xs.length = ps__law_ones.length := fun _ _ ⟨_, _, ⟨e, _⟩, _⟩ => by rw [e]; rfl
theorem math__law_ones : ∀ xs Q, m__law_ones xs Q → bd__law_ones { nx := fun _ => Q .none, rt := fun _ d _ => Q d } (startR nm__law_ones xs) := fun xs Q ⟨c, rows, ⟨e, wf⟩, h⟩ => by
  subst e
  have wl := wf.len
  have hn : (rows.map dints).length = rows.length := List.length_map _
  refine ⟨by decide, _, rfl, ?_⟩
  refine ⟨by omega, by omega, fun i ρ => ∃ x y z u, ρ = [.val (pD c rows), .own ((pre3 rows rows.length i 0 0).map t3D), .val (.int ((rows.map dints).length : Int)), x, y, z, u], ⟨.no, .no, .no, .no, rfl⟩, ?_, ?_⟩
  · rintro i x ρ hi ⟨s3, s4, s5, s6, rfl⟩
    obtain ⟨hi1, rfl⟩ := rngD_at hi
    have hi2 : i < rows.length := by omega
    rw [show (0 + (i : Int)) = (i : Int) by omega]
    refine ⟨⟨by omega, by omega, by omega, by omega⟩, fun j ρ => ∃ y z u, ρ = [.val (pD c rows), .own ((pre3 rows rows.length i j 0).map t3D), .val (.int ((rows.map dints).length : Int)), .val (.int (i : Int)), y, z, u], ⟨s4, s5, s6, rfl⟩, ?_, ?_⟩
    · rintro j x ρ hj ⟨s4, s5, s6, rfl⟩
      obtain ⟨hj1, rfl⟩ := rngD_at hj
      have hj2 : i + 1 + j < rows.length := by omega
      rw [show ((i : Int) + 1 + (j : Int)) = ((i + 1 + j : Nat) : Int) by omega]
      refine ⟨c, rows, i, i + 1 + j, ⟨rfl, wf⟩, hi2, hj2, by omega, ?_⟩
      refine ⟨⟨by omega, by omega, by omega, by omega⟩, fun k ρ => ∃ u, ρ = [.val (pD c rows), .own ((pre3 rows rows.length i j k).map t3D), .val (.int ((rows.map dints).length : Int)), .val (.int (i : Int)), .val (.int ((i + 1 + j : Nat) : Int)), .val (.int (pc rows i (i + 1 + j))), u], ⟨s6, rfl⟩, ?_, ?_⟩
      · rintro k x ρ hk ⟨s6, rfl⟩
        obtain ⟨hk1, rfl⟩ := rngD_at hk
        have hk2 : i + 1 + j + 1 + k < rows.length := by omega
        rw [show (((i + 1 + j : Nat) : Int) + 1 + (k : Int)) = ((i + 1 + j + 1 + k : Nat) : Int) by omega]
        have step : pre3 rows rows.length i j (k + 1) = pre3 rows rows.length i j k ++ (if on1 rows (i, i + 1 + j, i + 1 + j + 1 + k) = true then [(i, i + 1 + j, i + 1 + j + 1 + k)] else []) := by
          unfold pre3
          rw [List.range_succ, List.map_append, ← List.append_assoc, List.filter_append (l₁ := _ ++ _ ++ _)]
          congr 1
          exact List.filter_cons
        have ko := kind_one rows i (i + 1 + j) (i + 1 + j + 1 + k)
        have fls : ¬ (pc rows i (i + 1 + j + 1 + k) = pc rows i (i + 1 + j) ∧ pc rows (i + 1 + j) (i + 1 + j + 1 + k) = pc rows i (i + 1 + j)) → pre3 rows rows.length i j (k + 1) = pre3 rows rows.length i j k := fun z => by
          rw [step, if_neg (by unfold on1; rw [decide_eq_true_eq, ko]; exact z), List.append_nil]
        refine ⟨c, rows, i, i + 1 + j + 1 + k, ⟨rfl, wf⟩, hi2, hk2, by omega, ?_⟩
        refine ⟨⟨rfl, rfl⟩, ?_⟩
        rw [eqv_int]
        by_cases z : pc rows i (i + 1 + j + 1 + k) = pc rows i (i + 1 + j)
        · rw [decide_eq_true z]
          refine ⟨c, rows, i + 1 + j, i + 1 + j + 1 + k, ⟨rfl, wf⟩, hj2, hk2, by omega, ?_⟩
          refine ⟨⟨rfl, rfl⟩, ?_⟩
          rw [eqv_int]
          by_cases y : pc rows (i + 1 + j) (i + 1 + j + 1 + k) = pc rows i (i + 1 + j)
          · rw [decide_eq_true y]
            refine ⟨(by decide : 3 ≤ 100000), ?_⟩
            refine ⟨?_, ?_⟩
            · have l1 := rows_len rows.length i
              have l2 := cells_len rows.length i j
              have l3 : i * (rows.length * rows.length) ≤ 24 * (24 * 24) := Nat.mul_le_mul (by omega) (Nat.mul_le_mul wl wl)
              have l4 : j * rows.length ≤ 24 * 24 := Nat.mul_le_mul (by omega) wl
              rw [List.length_map]
              unfold pre3
              refine Nat.lt_of_le_of_lt (List.length_filter_le _ _) ?_
              rw [List.length_append, List.length_append, List.length_map, List.length_range]
              omega
            · refine ⟨.val (.int ((i + 1 + j + 1 + k : Nat) : Int)), ?_⟩
              rw [step, if_pos (by unfold on1; rw [decide_eq_true_eq, ko]; exact ⟨z, y⟩), List.map_append]
              rfl
          · rw [decide_eq_false y]
            refine ⟨.val (.int ((i + 1 + j + 1 + k : Nat) : Int)), ?_⟩
            rw [fls fun w => y w.2]
            rfl
        · rw [decide_eq_false z]
          refine ⟨.val (.int ((i + 1 + j + 1 + k : Nat) : Int)), ?_⟩
          rw [fls fun w => z w.1]
          rfl
      · rintro ρ ⟨s6, rfl⟩
        refine ⟨.val (.int ((i + 1 + j : Nat) : Int)), .val (.int (pc rows i (i + 1 + j))), s6, ?_⟩
        rw [rngD_len]
        have en : (((rows.map dints).length : Int) - (((i + 1 + j : Nat) : Int) + 1)).toNat = rows.length - (i + 1 + j + 1) := by omega
        rw [en]
        unfold pre3
        rw [flatMap_succ, List.range_zero, List.map_nil, List.append_nil, ← List.append_assoc]
        rfl
    · rintro ρ ⟨s4, s5, s6, rfl⟩
      refine ⟨.val (.int (i : Int)), s4, s5, s6, ?_⟩
      rw [rngD_len]
      have en : (((rows.map dints).length : Int) - ((i : Int) + 1)).toNat = rows.length - (i + 1) := by omega
      rw [en]
      unfold pre3
      rw [flatMap_succ, List.range_zero, List.map_nil, List.flatMap_nil, List.append_nil, List.append_nil, List.map_nil, List.append_nil]
      rfl
  · rintro ρ ⟨s3, s4, s5, s6, rfl⟩
    rw [rngD_len]
    have en : (((rows.map dints).length : Int)).toNat = rows.length := by omega
    have e2 : pre3 rows rows.length rows.length 0 0 = onesL rows := by
      unfold pre3
      rw [List.range_zero, List.map_nil, List.flatMap_nil, List.append_nil, List.append_nil, ← trips_eq]
      rfl
    rw [en, e2]
    exact h
end K18

set_option Elab.async false
set_option linter.all false
set_option maxRecDepth 100000
set_option maxHeartbeats 1000000
set_option exponentiation.threshold 5000
namespace K18
open PySem L2 Evl PyProof.Rows RZ DL
theorem pu_mono {m n : Nat} {ns : List Int} (h : PuOk m ns) (l : m ≤ n) : PuOk n ns := by
  obtain ⟨a, b, c, t, e, h1, h2, ⟨c0, c1⟩, h4⟩ := h
  exact ⟨a, b, c, t, e, h1, h2, ⟨c0, by omega⟩, h4⟩
theorem small {x : Int} (h : x < 2 ^ 31) : x < 2 ^ 2000 := Int.lt_of_lt_of_le h (pw_le (by decide))
theorem gt_mem {cs : List Int} {i : Nat} (h : i < cs.length) : gt cs i ∈ cs := by
  unfold gt
  rw [List.getD_eq_getElem?_getD, List.getElem?_eq_getElem h]
  exact List.getElem_mem _
theorem mlen__law_one_of : ∀ qs xs Q, m__law_one_of qs xs Q → xs.length + 1 = ps__law_one_of.length := fun _ _ _ ⟨_, _, _, _, e, _⟩ => by rw [e]; rfl
theorem math__law_one_of : ∀ qs xs Q, m__law_one_of qs xs Q → bd__law_one_of { nx := fun ρ => pur0 ρ (Q .none), rt := fun _ d ρ => pur0 ρ (Q d) } (startP nm__law_one_of qs xs) := fun qs xs Q ⟨n, ns, ks, e1, e2, pu, hn, hk, hl, h⟩ => by
  subst e1 e2
  have h0 : 0 < ks.length := List.length_pos_iff.mpr hk
  have hm : (ks.map PyData.int).length = ks.length := List.length_map _
  refine ⟨n, ns, ((ks.map PyData.int).length : Int), rfl, rfl, pu, hn, ⟨by omega, small (by omega)⟩, fun d ms d0 d1 pu1 => ?_⟩
  refine ⟨_, at_gt ks (k := d.toNat) (by omega) (by omega), ?_⟩
  exact h _ ms (gt_mem (by omega)) pu1
theorem mlen__law_shuffled : ∀ qs xs Q, m__law_shuffled qs xs Q → xs.length + 1 = ps__law_shuffled.length := fun _ _ _ ⟨_, _, _, _, e, _⟩ => by rw [e]; rfl
theorem math__law_shuffled : ∀ qs xs Q, m__law_shuffled qs xs Q → bd__law_shuffled { nx := fun ρ => pur0 ρ (Q .none), rt := fun _ d ρ => pur0 ρ (Q d) } (startP nm__law_shuffled qs xs) := fun qs xs Q ⟨n, ns, ks, e1, e2, pu, hn, hl, h⟩ => by
  subst e1 e2
  refine ⟨by decide, ?_⟩
  refine ⟨fun i ρ => ∃ (ms : List Int) (l : List Nat) (x : Sl), ρ = [.pur (ms.map .int), .val (natsD ks), .own (l.map natD), x] ∧ l.Perm (ks.take i) ∧ PuOk (n + 100 * i) ms, ⟨ns, [], .no, rfl, List.Perm.refl _, pu⟩, ?_, ?_⟩
  · rintro i x ρ hi ⟨ms, l, s3, rfl, pe, pu1⟩
    obtain ⟨y, hy, rfl⟩ := map_at hi
    have hi2 : i < ks.length := (List.getElem?_eq_some_iff.mp hy).1
    have ll : l.length = i := by rw [pe.length_eq, List.length_take]; omega
    have lm : (l.map natD).length = i := by rw [List.length_map, ll]
    refine ⟨_, ms, ((l.map natD).length : Int) + 1, rfl, rfl, pu1, by omega, ⟨by omega, small (by omega)⟩, fun d ms2 d0 d1 pu2 => ?_⟩
    refine ⟨d, rfl, by omega, d0, by omega, ?_⟩
    refine ⟨ms2, l.take d.toNat ++ [y] ++ l.drop d.toNat, .val (natD y), ?_, ?_, pu_mono pu2 (by omega)⟩
    · rw [List.map_append, List.map_append, List.map_take, List.map_drop]
      rfl
    · rw [take_at hy, List.append_assoc]
      refine List.Perm.trans List.perm_middle ?_
      show (y :: (l.take d.toNat ++ l.drop d.toNat)).Perm _
      rw [List.take_append_drop]
      exact (List.Perm.cons y pe).trans (List.perm_append_singleton y _).symm
  · rintro ρ ⟨ms, l, s3, rfl, pe, pu1⟩
    rw [List.length_map] at pe pu1
    rw [List.take_length] at pe
    exact h l ms pe (pu_mono pu1 (by omega))
theorem mlen_closers : ∀ xs Q, m_closers xs Q → xs.length = ps_closers.length := fun _ _ ⟨_, _, _, _, ⟨e, _⟩, _⟩ => by rw [e]; rfl
theorem math_closers : ∀ xs Q, m_closers xs Q → bd_closers { nx := fun _ => Q .none, rt := fun _ d _ => Q d } (startR nm_closers xs) := fun xs Q ⟨c, rows, a, b, ⟨e, wf⟩, ha, hb, hab, h⟩ => by
  subst e
  have wl := wf.len
  refine ⟨c, rows, a, b, ⟨rfl, wf⟩, ha, hb, hab, ?_⟩
  refine ⟨c, rows, a, b, ⟨rfl, wf⟩, ha, hb, hab, ?_⟩
  refine ⟨c, rows, a, pc rows a b, ⟨rfl, wf⟩, ha, ?_⟩
  generalize eM : ((List.range rows.length).filter fun l => decide (l ≠ a) && decide (pc rows a l = pc rows a b)) = M
  have lM : M.length ≤ 24 := by
    have := filt_len (fun l => decide (l ≠ a) && decide (pc rows a l = pc rows a b)) rows.length
    rw [eM] at this
    omega
  have mM : ∀ l ∈ M, l < rows.length := fun l hl => by
    rw [← eM] at hl
    exact List.mem_range.mp (List.mem_filter.mp hl).1
  refine ⟨fun i ρ acc => ρ = [.val (pD c rows), .val (.int (a : Int)), .val (.int (b : Int)), .val (.int (pc rows a b)), .val (natsD M), .no] ∧ acc = ((M.take i).filter fun l => decide (l ≠ b) && decide (pc rows b l = pc rows a b)).map natD, ⟨rfl, rfl⟩, ?_, ?_⟩
  · rintro i x ρ acc hi ⟨rfl, rfl⟩
    obtain ⟨l, hl, rfl⟩ := map_at hi
    have hl2 := mM l (List.mem_of_getElem? hl)
    have fl := tf_len (fun l => decide (l ≠ b) && decide (pc rows b l = pc rows a b)) M i
    refine ⟨⟨rfl, rfl⟩, ?_⟩
    rw [eqv_int]
    by_cases z : l = b
    · rw [decide_eq_true (by omega)]
      refine ⟨rfl, ?_⟩
      rw [take_at hl, List.filter_append, List.filter_cons, if_neg (by simp [z]), List.filter_nil, List.append_nil]
    · rw [decide_eq_false (by omega)]
      refine ⟨c, rows, b, l, ⟨rfl, wf⟩, hb, hl2, by omega, ?_⟩
      refine ⟨⟨rfl, rfl⟩, ?_⟩
      rw [eqv_int]
      by_cases y : pc rows b l = pc rows a b
      · rw [decide_eq_true y]
        refine ⟨by rw [List.length_map]; omega, rfl, ?_⟩
        rw [take_at hl, List.filter_append, List.filter_cons, if_pos (by simp [z, y]), List.map_append]
        rfl
      · rw [decide_eq_false y]
        refine ⟨rfl, ?_⟩
        rw [take_at hl, List.filter_append, List.filter_cons, if_neg (by simp [z, y]), List.filter_nil, List.append_nil]
  · rintro ρ acc ⟨rfl, rfl⟩
    rw [List.length_map, List.take_length]
    have ee : (M.filter fun l => decide (l ≠ b) && decide (pc rows b l = pc rows a b)) = ((List.range rows.length).filter fun l => decide (l ≠ a ∧ l ≠ b) && (decide (pc rows a l = pc rows a b) && decide (pc rows b l = pc rows a b))) := by
      rw [← eM, List.filter_filter]
      congr 1
      funext l
      rw [Bool.decide_and]
      cases decide (l ≠ a) <;> cases decide (l ≠ b) <;> cases decide (pc rows a l = pc rows a b) <;> cases decide (pc rows b l = pc rows a b) <;> rfl
    rw [ee]
    exact h
end K18

set_option Elab.async false
set_option linter.all false
set_option maxRecDepth 100000
set_option maxHeartbeats 1000000
set_option exponentiation.threshold 5000
namespace K18
open PySem L2 Evl PyProof.Rows RZ DL
def Bld (p : Int → Prop) (i : Nat) (acc : List PyData) : Prop := ∃ cs : List Int, acc = cs.map .int ∧ cs.length = i ∧ ∀ c ∈ cs, p c
theorem Bld.nil (p : Int → Prop) : Bld p 0 [] := ⟨[], rfl, rfl, fun _ h => nomatch h⟩
theorem Bld.snoc {p : Int → Prop} {i : Nat} {acc : List PyData} {c : Int} (h : Bld p i acc) (hc : p c) : Bld p (i + 1) (acc ++ [.int c]) := by
  obtain ⟨cs, rfl, rfl, q⟩ := h
  refine ⟨cs ++ [c], by rw [List.map_append]; rfl, by rw [List.length_append]; rfl, fun x hx => ?_⟩
  rcases List.mem_append.mp hx with hx | hx
  · exact q x hx
  · rw [List.mem_singleton.mp hx]
    exact hc
theorem Bld.len {p : Int → Prop} {i : Nat} {acc : List PyData} (h : Bld p i acc) : acc.length = i := by
  obtain ⟨cs, rfl, rfl, q⟩ := h
  exact List.length_map _
theorem rng_nats (n : Nat) : rngD 0 n = (List.range n).map natD := by
  unfold rngD natD
  refine List.map_congr_left fun i _ => ?_
  rw [Int.zero_add]
theorem named_wf {c : Int} {rows : List (List Int)} {nm : List Nat} (w : WF c rows) (hp : nm.Perm (List.range rows.length)) : WF c (named rows nm) := by
  have hl : nm.length = rows.length := by rw [hp.length_eq, List.length_range]
  have hm : ∀ x ∈ nm, x < rows.length := fun x hx => List.mem_range.mp (hp.mem_iff.mp hx)
  have nd : nm.Nodup := hp.nodup_iff.mpr List.nodup_range
  refine ⟨w.pos, w.few, by rw [named_len, hl]; exact w.len, fun i r h => ?_⟩
  unfold named at h
  rw [List.getElem?_map] at h
  cases q : (List.range nm.length)[i]? with
  | none => rw [q] at h; cases h
  | some j =>
    have hi := (List.getElem?_eq_some_iff.mp q).1
    rw [List.length_range] at hi
    rw [List.getElem?_range hi] at q
    cases q
    rw [List.getElem?_range hi] at h
    cases h
    refine ⟨by rw [List.length_map, List.length_range], fun x hx => ?_⟩
    obtain ⟨j, hj, rfl⟩ := List.mem_map.mp hx
    have hj := List.mem_range.mp hj
    have g : ∀ {k : Nat} (hk : k < nm.length), nm.getD k 0 = nm[k] := fun hk => by rw [List.getD_eq_getElem?_getD, List.getElem?_eq_getElem hk]; rfl
    rw [g hi, g (by omega : j < nm.length)]
    refine w.pc (hm _ (List.getElem_mem _)) (hm _ (List.getElem_mem _)) ?_
    exact fun z => List.pairwise_iff_getElem.mp nd j i (by omega) hi hj z.symm
def RowsOk (c : Int) (i : Nat) (rows : List (List Int)) : Prop := rows.length = i ∧ ∀ (k : Nat) (r : List Int), rows[k]? = some r → r.length = k ∧ ∀ x ∈ r, 0 ≤ x ∧ x < c
theorem RowsOk.snoc {c : Int} {i : Nat} {rows : List (List Int)} {r : List Int} (h : RowsOk c i rows) (hl : r.length = i) (hr : ∀ x ∈ r, 0 ≤ x ∧ x < c) : RowsOk c (i + 1) (rows ++ [r]) := by
  obtain ⟨h1, h2⟩ := h
  refine ⟨by rw [List.length_append, h1]; rfl, fun k s hs => ?_⟩
  by_cases z : k < rows.length
  · rw [List.getElem?_append_left z] at hs
    exact h2 k s hs
  · rw [List.getElem?_append_right (by omega)] at hs
    have hk := (List.getElem?_eq_some_iff.mp hs).1
    have hk2 : k - rows.length < 1 := hk
    have e : k - rows.length = 0 := by omega
    rw [e] at hs
    cases hs
    exact ⟨by omega, hr⟩
def IP (n m : Nat) (c w : Int) (lots : List Int) (i : Nat) (ρ : Rho) : Prop := ∃ (ms : List Int) (rows : List (List Int)) (s6 s7 : Sl), ρ = [.pur (ms.map .int), .val (.int (m : Int)), .val (.int c), .val (.int w), .val (dints lots), .own (rows.map dints), s6, s7, .no] ∧ PuOk (n + 3000 + i * 2500) ms ∧ RowsOk c i rows
theorem mlen__law_party : ∀ qs xs Q, m__law_party qs xs Q → xs.length + 1 = ps__law_party.length := fun _ _ _ ⟨_, _, _, e, _⟩ => by rw [e]; rfl
theorem math__law_party : ∀ qs xs Q, m__law_party qs xs Q → bd__law_party { nx := fun ρ => pur0 ρ (Q .none), rt := fun _ d ρ => pur0 ρ (Q d) } (startP nm__law_party qs xs) := fun qs xs Q ⟨n, ns, e1, e2, pu, hn, h⟩ => by
  subst e1 e2
  refine ⟨n, ns, 25, rfl, rfl, pu, by omega, ⟨by decide, small (by decide)⟩, fun d ms1 d0 d1 pu1 => ?_⟩
  obtain ⟨m, rfl⟩ := Int.eq_ofNat_of_zero_le d0
  refine ⟨_, ms1, 5, rfl, rfl, pu1, by omega, ⟨by decide, small (by decide)⟩, fun c0 ms2 c1 c2 pu2 => ?_⟩
  refine ⟨_, ms2, 4, rfl, rfl, pu2, by omega, ⟨by decide, small (by decide)⟩, fun w ms3 w1 w2 pu3 => ?_⟩
  generalize ec : 1 + c0 = c
  have hc1 : 0 < c := by omega
  have hc2 : c ≤ 5 := by omega
  refine ⟨(by decide : 3 ≤ 100000), ?_⟩
  refine ⟨by omega, by omega, fun i ρ acc => ∃ ms : List Int, ρ = [.pur (ms.map .int), .val (.int (m : Int)), .val (.int c), .val (.int w), .no, .no, .no, .no, .no] ∧ PuOk (n + 300 + i * 100) ms ∧ Bld (fun x => 0 ≤ x ∧ x < 5) i acc, ⟨ms3, rfl, pu3, Bld.nil _⟩, ?_, ?_⟩
  · rintro i x ρ acc hi ⟨ms, rfl, pu4, bl⟩
    obtain ⟨hi1, rfl⟩ := rngD_at hi
    refine ⟨_, ms, 5, rfl, rfl, pu4, by omega, ⟨by decide, small (by decide)⟩, fun z ms5 z0 z1 pu5 => ?_⟩
    exact ⟨by rw [bl.len]; omega, ms5, rfl, pu_mono pu5 (by omega), bl.snoc ⟨z0, z1⟩⟩
  · rintro ρ acc ⟨ms, rfl, pu4, lots, rfl, ll, hl⟩
    rw [rngD_len] at pu4 ll
    have em : ((m : Int)).toNat = m := Int.toNat_natCast m
    rw [em] at pu4 ll
    refine ⟨by decide, ?_⟩
    refine ⟨by omega, by omega, IP n m c w lots, ⟨ms, [], .no, .no, rfl, pu_mono pu4 (by omega), rfl, fun k r hk => nomatch hk⟩, ?_, ?_⟩
    · rintro i x ρ hi ⟨ms, rows, s6, s7, rfl, pu5, ro⟩
      obtain ⟨hi1, rfl⟩ := rngD_at hi
      have hi2 : i < m := by omega
      rw [show (0 + (i : Int)) = (i : Int) by omega]
      have app : ∀ (row ms : List Int), row.length = i → (∀ x ∈ row, 0 ≤ x ∧ x < c) → PuOk (n + 3000 + (i + 1) * 2500) ms → (rows.map dints).length < 100000 ∧ IP n m c w lots (i + 1) [.pur (ms.map .int), .val (.int (m : Int)), .val (.int c), .val (.int w), .val (dints lots), .own (rows.map dints ++ [dints row]), .val (.int (i : Int)), .val (dints row), .no] := by
        intro row ms h1 h2 h3
        refine ⟨by rw [List.length_map, ro.1]; omega, ms, rows ++ [row], .val (.int (i : Int)), .val (dints row), ?_, h3, ro.snoc h1 h2⟩
        rw [List.map_append]
        rfl
      refine ⟨by omega, by omega, fun k ρ acc => ∃ ms : List Int, ρ = [.pur (ms.map .int), .val (.int (m : Int)), .val (.int c), .val (.int w), .val (dints lots), .own (rows.map dints), .val (.int (i : Int)), s7, .no] ∧ PuOk (n + 3000 + i * 2500 + k * 100) ms ∧ Bld (fun x => 0 ≤ x ∧ x < c) k acc, ⟨ms, rfl, pu5, Bld.nil _⟩, ?_, ?_⟩
      · rintro k x ρ acc hk ⟨ms, rfl, pu6, bl⟩
        obtain ⟨hk1, rfl⟩ := rngD_at hk
        refine ⟨_, ms, c, rfl, rfl, pu6, by omega, ⟨hc1, small (by omega)⟩, fun z ms5 z0 z1 pu5 => ?_⟩
        exact ⟨by rw [bl.len]; omega, ms5, rfl, pu_mono pu5 (by omega), bl.snoc ⟨z0, z1⟩⟩
      · rintro ρ acc ⟨ms, rfl, pu6, row, rfl, lr, hr⟩
        rw [rngD_len, Int.toNat_natCast] at pu6 lr
        have pu7 := pu_mono pu6 (show _ ≤ n + 3000 + (i + 1) * 2500 by omega)
        refine ⟨⟨rfl, rfl⟩, ?_⟩
        rw [eqv_int]
        by_cases w1 : w = 1
        · rw [decide_eq_true w1]
          refine ⟨by omega, by omega, fun k ρ acc => ρ = [.pur (ms.map .int), .val (.int (m : Int)), .val (.int c), .val (.int w), .val (dints lots), .own (rows.map dints), .val (.int (i : Int)), .val (dints row), .no] ∧ Bld (fun x => 0 ≤ x ∧ x < c) k acc, ⟨rfl, Bld.nil _⟩, ?_, ?_⟩
          · rintro k x ρ acc hk ⟨rfl, bl⟩
            obtain ⟨hk1, rfl⟩ := rngD_at hk
            refine ⟨_, at_gt lots (k := i) (by omega) rfl, _, at_gt lots (k := k) (by omega) (by omega), ⟨rfl, rfl⟩, ?_⟩
            refine ⟨hc1, ?_⟩
            exact ⟨by rw [bl.len]; omega, rfl, bl.snoc (emod_b _ c hc1)⟩
          · rintro ρ acc ⟨rfl, row2, rfl, lr2, hr2⟩
            rw [rngD_len, Int.toNat_natCast] at lr2
            refine ⟨⟨rfl, rfl⟩, ?_⟩
            rw [eqv_int, decide_eq_false (by omega)]
            exact app row2 ms lr2 hr2 pu7
        · rw [decide_eq_false w1]
          refine ⟨⟨rfl, rfl⟩, ?_⟩
          rw [eqv_int]
          by_cases w2 : w = 2
          · rw [decide_eq_true w2]
            refine ⟨by omega, by omega, fun k ρ acc => ρ = [.pur (ms.map .int), .val (.int (m : Int)), .val (.int c), .val (.int w), .val (dints lots), .own (rows.map dints), .val (.int (i : Int)), .val (dints row), .no] ∧ Bld (fun x => 0 ≤ x ∧ x < c) k acc, ⟨rfl, Bld.nil _⟩, ?_, ?_⟩
            · rintro k x ρ acc hk ⟨rfl, bl⟩
              obtain ⟨hk1, rfl⟩ := rngD_at hk
              refine ⟨_, at_gt lots (k := i) (by omega) rfl, _, at_gt lots (k := k) (by omega) (by omega), ?_⟩
              refine ⟨hc1, ?_⟩
              exact ⟨by rw [bl.len]; omega, rfl, bl.snoc (emod_b _ c hc1)⟩
            · rintro ρ acc ⟨rfl, row2, rfl, lr2, hr2⟩
              rw [rngD_len, Int.toNat_natCast] at lr2
              exact app row2 ms lr2 hr2 pu7
          · rw [decide_eq_false w2]
            exact app row ms lr hr pu7
    · rintro ρ ⟨ms, rows, s6, s7, rfl, pu5, ro⟩
      rw [rngD_len, em] at pu5 ro
      have wf : WF c rows := ⟨hc1, by omega, by rw [ro.1]; omega, ro.2⟩
      refine ⟨(by decide : 2 ≤ 100000), ?_⟩
      refine ⟨(m : Int), rfl, by omega, by omega, ?_⟩
      refine ⟨_, ms, List.range m, rfl, ?_, pu5, by omega, by rw [List.length_range]; omega, fun js ms2 pe pu6 => ?_⟩
      · rw [em, rng_nats]
        rfl
      · rw [← ro.1] at pe
        refine ⟨c, rows, js, ⟨rfl, wf⟩, pe, ?_⟩
        exact h c _ ms2 (named_wf wf pe) (pu_mono pu6 (by omega))
end K18

set_option Elab.async false
set_option linter.all false
set_option maxRecDepth 100000
set_option maxHeartbeats 1000000
set_option exponentiation.threshold 5000
namespace K18
open PySem L2 Evl PyProof.Rows RZ DL
def wt (ws : List Int) (t : Nat × Nat × Nat) : Int := gt ws t.1 * gt ws t.2.1 * gt ws t.2.2
theorem gt_ones {n k : Nat} (h : k < n) : gt (List.replicate n 1) k = 1 := by
  unfold gt
  rw [List.getD_eq_getElem?_getD, List.getElem?_replicate, if_pos h]
  rfl
theorem sum_ones {α : Type} (f : α → Int) : ∀ l : List α, (∀ x ∈ l, f x = 1) → (l.map f).sum = (l.length : Int)
  | [], _ => rfl
  | x :: r, h => by
    rw [List.map_cons, List.sum_cons, sum_ones f r fun y hy => h y (List.mem_cons_of_mem _ hy), h x List.mem_cons_self, List.length_cons]
    omega
theorem wk_ones (rows : List (List Int)) (k : Nat) : wk rows (List.replicate rows.length 1) k = ((((trips rows.length).filter fun t => decide (kind rows t = k)).length : Nat) : Int) := by
  refine sum_ones _ _ fun t ht => ?_
  obtain ⟨h1, h2, h3⟩ := mem_trips.mp (List.mem_filter.mp ht).1
  rw [gt_ones (by omega), gt_ones (by omega), gt_ones h3]
  rfl
theorem wk_count (rows : List (List Int)) (k : Nat) : ((((trips rows.length).map fun t => (kind rows t : Int)).count (k : Int) : Nat) : Int) = wk rows (List.replicate rows.length 1) k := by
  rw [wk_ones, List.count_eq_countP, List.countP_map, List.countP_eq_length_filter]
  congr 3
  funext t
  show (((kind rows t : Nat) : Int) == (k : Int)) = decide (kind rows t = k)
  rw [show (((kind rows t : Nat) : Int) == (k : Int)) = decide ((kind rows t : Int) = (k : Int)) from rfl]
  exact decide_eq_decide.mpr (by omega)
theorem mlen_triple_counts : ∀ xs Q, m_triple_counts xs Q → xs.length = ps_triple_counts.length := fun _ _ ⟨_, _, ⟨e, _⟩, _⟩ => by rw [e]; rfl
theorem math_triple_counts : ∀ xs Q, m_triple_counts xs Q → bd_triple_counts { nx := fun _ => Q .none, rt := fun _ d _ => Q d } (startR nm_triple_counts xs) := fun xs Q ⟨c, rows, ⟨e, wf⟩, h⟩ => by
  subst e
  have wl := wf.len
  have hn : (rows.map dints).length = rows.length := List.length_map _
  have tl := trips_len rows.length wl
  refine ⟨c, rows, ⟨rfl, wf⟩, ?_⟩
  refine ⟨_, rfl, ?_⟩
  refine ⟨rows.length, by rw [hn]; rfl, wl, ?_⟩
  refine ⟨fun k ρ acc => ρ = [.val (pD c rows), .no, .no] ∧ acc = (((trips rows.length).take k).map fun t => (kind rows t : Int)).map PyData.int, ⟨rfl, rfl⟩, ?_, ?_⟩
  · rintro k x ρ acc hk ⟨rfl, rfl⟩
    obtain ⟨t, ht, rfl⟩ := map_at hk
    refine ⟨c, rows, t, ⟨rfl, wf⟩, mem_trips.mp (List.mem_of_getElem? ht), ?_⟩
    refine ⟨?_, rfl, ?_⟩
    · rw [List.length_map, List.length_map, List.length_take]
      omega
    · rw [take_at ht, List.map_append, List.map_append]
      rfl
  · rintro ρ acc ⟨rfl, rfl⟩
    rw [List.length_map, List.take_length]
    refine ⟨_, 1, rfl, rfl, _, 2, rfl, rfl, _, 3, rfl, rfl, ?_⟩
    refine ⟨(by decide : 3 ≤ 100000), ?_⟩
    have e1 := wk_count rows 1
    have e2 := wk_count rows 2
    have e3 := wk_count rows 3
    unfold wD at h
    rw [← e1, ← e2, ← e3] at h
    exact h
theorem wk_tot {rows : List (List Int)} {ws : List Int} (w : Ws rows ws) {t : Nat × Nat × Nat} (ht : Tr rows.length t) : 0 ≤ gt ws t.1 ∧ gt ws t.1 < 2 ^ 60 ∧ 0 ≤ gt ws t.2.1 ∧ gt ws t.2.1 < 2 ^ 60 ∧ 0 ≤ gt ws t.2.2 ∧ gt ws t.2.2 < 2 ^ 60 := by
  obtain ⟨h1, h2, h3⟩ := ht
  have hl := w.1
  have a := w.2 _ (gt_mem (cs := ws) (i := t.1) (by omega))
  have b := w.2 _ (gt_mem (cs := ws) (i := t.2.1) (by omega))
  have c := w.2 _ (gt_mem (cs := ws) (i := t.2.2) (by omega))
  exact ⟨a.1, a.2, b.1, b.2, c.1, c.2⟩
/-- the weights of one kind among the first i triples -/
def wi (rows : List (List Int)) (ws : List Int) (k i : Nat) : Int := ((((trips rows.length).take i).filter fun t => decide (kind rows t = k)).map (wt ws)).sum
theorem wi_succ {rows : List (List Int)} {ws : List Int} {i : Nat} {t : Nat × Nat × Nat} (k : Nat) (h : (trips rows.length)[i]? = some t) : wi rows ws k (i + 1) = wi rows ws k i + (if kind rows t = k then wt ws t else 0) := by
  unfold wi
  rw [take_at h, List.filter_append, List.map_append, List.sum_append, List.filter_cons]
  congr 1
  by_cases z : kind rows t = k
  · rw [if_pos (by simp [z]), if_pos z]
    show wt ws t + 0 = _
    omega
  · rw [if_neg (by simp [z]), if_neg z]
    rfl
theorem kind_123 (rows : List (List Int)) (t : Nat × Nat × Nat) : kind rows t = 1 ∨ kind rows t = 2 ∨ kind rows t = 3 := by
  unfold kind
  split <;> split <;> simp
theorem mlen_weighed_triples : ∀ xs Q, m_weighed_triples xs Q → xs.length = ps_weighed_triples.length := fun _ _ ⟨_, _, _, ⟨e, _⟩, _⟩ => by rw [e]; rfl
theorem math_weighed_triples : ∀ xs Q, m_weighed_triples xs Q → bd_weighed_triples { nx := fun _ => Q .none, rt := fun _ d _ => Q d } (startR nm_weighed_triples xs) := fun xs Q ⟨c, rows, ws, ⟨e, wf⟩, hw, h⟩ => by
  subst e
  have wl := wf.len
  have hn : (rows.map dints).length = rows.length := List.length_map _
  have hm : (ws.map PyData.int).length = ws.length := List.length_map _
  have hws := hw.1
  refine ⟨c, rows, ⟨rfl, wf⟩, ?_⟩
  refine ⟨_, rfl, ⟨rfl, rfl⟩, ?_⟩
  rw [eqv_int, decide_eq_true (by omega)]
  refine ⟨fun i ρ acc => ρ = [.val (pD c rows), .val (dints ws), .no, .no, .no, .no, .no] ∧ acc = List.replicate i (.bool true), ⟨rfl, rfl⟩, ?_, ?_⟩
  · rintro i x ρ acc hi ⟨rfl, rfl⟩
    obtain ⟨y, hy, rfl⟩ := map_at hi
    have hl2 : i < ws.length := (List.getElem?_eq_some_iff.mp hy).1
    have hy0 := (hw.2 y (List.mem_of_getElem? hy)).1
    refine ⟨_, 0, rfl, ?_⟩
    have e : cnt 0 (.int y) = true := by
      show decide (max (0 : Int) 0 ≤ y) = true
      exact decide_eq_true (by omega)
    rw [e]
    refine ⟨by rw [List.length_replicate]; omega, rfl, ?_⟩
    rw [List.replicate_succ']
  · rintro ρ acc ⟨rfl, rfl⟩
    refine ⟨List.replicate (ws.map PyData.int).length true, by rw [List.map_replicate], ?_⟩
    rw [all_true]
    refine ⟨by decide, ?_⟩
    refine ⟨_, rfl, rows.length, by rw [hn]; rfl, wl, ?_⟩
    refine ⟨fun i ρ => ∃ s3 s4 s5 s6, ρ = [.val (pD c rows), .val (dints ws), .own [.int (wi rows ws 1 i), .int (wi rows ws 2 i), .int (wi rows ws 3 i)], s3, s4, s5, s6], ⟨.no, .no, .no, .no, rfl⟩, ?_, ?_⟩
    · rintro i x ρ hi ⟨s3, s4, s5, s6, rfl⟩
      obtain ⟨⟨p, q, r⟩, ht, rfl⟩ := map_at hi
      have tr := mem_trips.mp (List.mem_of_getElem? ht)
      have b := wk_tot hw tr
      have tr' : p < q ∧ q < r ∧ r < rows.length := tr
      have b' : 0 ≤ gt ws p ∧ gt ws p < 2 ^ 60 ∧ 0 ≤ gt ws q ∧ gt ws q < 2 ^ 60 ∧ 0 ≤ gt ws r ∧ gt ws r < 2 ^ 60 := b
      clear b
      have hb : ∀ {x : Int}, 0 ≤ x → x < 2 ^ 60 → Sz x := fun h0 h1 => sz_of1 h0 (Int.lt_of_lt_of_le h1 (pw_le (by decide)))
      have pq := mul_lt b'.1 b'.2.2.1 b'.2.1 b'.2.2.2.1
      have hpq : Sz (gt ws p * gt ws q) := sz_of1 pq.1 (Int.lt_of_lt_of_le pq.2 (pw_le (by decide)))
      refine ⟨c, rows, (p, q, r), ⟨rfl, wf⟩, tr, ?_⟩
      have s1 := wi_succ (ws := ws) 1 ht
      have s2 := wi_succ (ws := ws) 2 ht
      have s3' := wi_succ (ws := ws) 3 ht
      have ew : wt ws (p, q, r) = gt ws p * gt ws q * gt ws r := rfl
      have fin : ∀ (k : Nat) (a : Int) (L : List PyData), kind rows (p, q, r) = k → L = [.int (wi rows ws 1 (i + 1)), .int (wi rows ws 2 (i + 1)), .int (wi rows ws 3 (i + 1))] → ∃ s3 s4 s5 s6, [Sl.val (pD c rows), .val (dints ws), .own L, .val (.int (p : Int)), .val (.int (q : Int)), .val (.int (r : Int)), .val (.int (k : Int))] = [Sl.val (pD c rows), .val (dints ws), .own [.int (wi rows ws 1 (i + 1)), .int (wi rows ws 2 (i + 1)), .int (wi rows ws 3 (i + 1))], s3, s4, s5, s6] := fun k a L _ e => by subst e; exact ⟨_, _, _, _, rfl⟩
      rcases kind_123 rows (p, q, r) with z | z | z
      · rw [z] at s1 s2 s3' ⊢
        refine ⟨_, rfl, _, at_gt ws (k := p) (by omega) rfl, _, at_gt ws (k := q) (by omega) rfl, ⟨hb b'.1 b'.2.1, hb b'.2.2.1 b'.2.2.2.1⟩, ?_⟩
        refine ⟨_, at_gt ws (k := r) (by omega) rfl, ⟨hpq, hb b'.2.2.2.2.1 b'.2.2.2.2.2⟩, ?_⟩
        refine ⟨0, rfl, ?_⟩
        refine fin 1 0 _ z ?_
        rw [s1, s2, s3', ← ew]
        simp
      · rw [z] at s1 s2 s3' ⊢
        refine ⟨_, rfl, _, at_gt ws (k := p) (by omega) rfl, _, at_gt ws (k := q) (by omega) rfl, ⟨hb b'.1 b'.2.1, hb b'.2.2.1 b'.2.2.2.1⟩, ?_⟩
        refine ⟨_, at_gt ws (k := r) (by omega) rfl, ⟨hpq, hb b'.2.2.2.2.1 b'.2.2.2.2.2⟩, ?_⟩
        refine ⟨1, rfl, ?_⟩
        refine fin 2 0 _ z ?_
        rw [s1, s2, s3', ← ew]
        simp
      · rw [z] at s1 s2 s3' ⊢
        refine ⟨_, rfl, _, at_gt ws (k := p) (by omega) rfl, _, at_gt ws (k := q) (by omega) rfl, ⟨hb b'.1 b'.2.1, hb b'.2.2.1 b'.2.2.2.1⟩, ?_⟩
        refine ⟨_, at_gt ws (k := r) (by omega) rfl, ⟨hpq, hb b'.2.2.2.2.1 b'.2.2.2.2.2⟩, ?_⟩
        refine ⟨2, rfl, ?_⟩
        refine fin 3 0 _ z ?_
        rw [s1, s2, s3', ← ew]
        simp
    · rintro ρ ⟨s3, s4, s5, s6, rfl⟩
      rw [List.length_map]
      have e : ∀ k, wi rows ws k (trips rows.length).length = wk rows ws k := fun k => by
        unfold wi wk
        rw [List.take_length]
        rfl
      rw [e, e, e]
      exact h
end K18

set_option Elab.async false
set_option linter.all false
set_option maxRecDepth 100000
set_option maxHeartbeats 1000000
set_option exponentiation.threshold 5000
namespace K18
open PySem L2 Evl PyProof.Rows RZ DL
theorem find_at {α : Type} {P : α → Bool} {l : List α} {i : Nat} {t : α} (h : l[i]? = some t) (n : (l.take i).find? P = none) (p : P t = true) : l.find? P = some t := by
  have e : l = l.take (i + 1) ++ l.drop (i + 1) := (List.take_append_drop _ _).symm
  rw [e, List.find?_append, take_at h, List.find?_append, n, List.find?_cons, p]
  rfl
theorem find_no {α : Type} {P : α → Bool} {l : List α} {i : Nat} {t : α} (h : l[i]? = some t) (n : (l.take i).find? P = none) (p : P t = false) : (l.take (i + 1)).find? P = none := by
  rw [take_at h, List.find?_append, n, List.find?_cons, p]
  rfl
theorem mlen_triple_at : ∀ xs Q, m_triple_at xs Q → xs.length = ps_triple_at.length := fun _ _ ⟨_, _, _, ⟨e, _⟩, _⟩ => by rw [e]; rfl
theorem math_triple_at : ∀ xs Q, m_triple_at xs Q → bd_triple_at { nx := fun _ => Q .none, rt := fun _ d _ => Q d } (startR nm_triple_at xs) := fun xs Q ⟨c, rows, g, ⟨e, wf⟩, hg, h⟩ => by
  subst e
  have wl := wf.len
  refine ⟨c, rows, ⟨rfl, wf⟩, ?_⟩
  refine ⟨c, rows, g, ⟨rfl, wf⟩, hg, ?_⟩
  refine ⟨c, rows, ⟨rfl, wf⟩, ?_⟩
  refine ⟨fun i ρ => ∃ s2 s3, ρ = [.val (pD c rows), .val (.int (g : Int)), s2, s3, .no, .no] ∧ ((onesL rows).take i).find? (fits rows g) = none, ⟨.no, .no, rfl, rfl⟩, ?_, ?_⟩
  · rintro i x ρ hi ⟨s2, s3, rfl, nf⟩
    obtain ⟨⟨p, q, r⟩, ht, rfl⟩ := map_at hi
    have tr := mem_trips.mp (List.mem_filter.mp (List.mem_of_getElem? ht)).1
    obtain ⟨h1, h2, h3⟩ := tr
    replace h1 : p < q := h1
    replace h2 : q < r := h2
    replace h3 : r < rows.length := h3
    have ef : fits rows g (p, q, r) = (decide (g = p ∨ g = q ∨ g = r) || (decide (pc rows g p = pc rows g q) && decide (pc rows g q = pc rows g r))) := rfl
    refine ⟨fun i ρ acc => ρ = [.val (pD c rows), .val (.int (g : Int)), .val (t3D (p, q, r)), s3, .no, .no] ∧ acc = (([p, q, r].take i).filter fun l => decide (l ≠ g)).map fun l => PyData.int (pc rows g l), ⟨rfl, rfl⟩, ?_, ?_⟩
    · rintro i x ρ acc hi ⟨rfl, rfl⟩
      have hi' : ([p, q, r].map natD)[i]? = some x := hi
      obtain ⟨l, hl, rfl⟩ := map_at hi'
      have hm := List.mem_of_getElem? hl
      have hl2 : l < rows.length := by
        simp only [List.mem_cons, List.not_mem_nil, or_false] at hm
        omega
      refine ⟨⟨rfl, rfl⟩, ?_⟩
      rw [show PyData.eqv (natD l) (.int (g : Int)) = decide ((l : Int) = (g : Int)) from eqv_int _ _]
      by_cases z : l = g
      · rw [decide_eq_true (by omega)]
        refine ⟨rfl, ?_⟩
        rw [take_at hl, List.filter_append, List.filter_cons, if_neg (by simp [z]), List.filter_nil, List.append_nil]
      · rw [decide_eq_false (by omega)]
        refine ⟨c, rows, g, l, ⟨rfl, wf⟩, hg, hl2, fun y => z y.symm, ?_⟩
        refine ⟨?_, rfl, ?_⟩
        · rw [List.length_map]
          have := tf_len (fun l => decide (l ≠ g)) [p, q, r] i
          exact Nat.lt_of_le_of_lt this (by show 3 < 100000; decide)
        · rw [take_at hl, List.filter_append, List.map_append, List.filter_cons, if_pos (by simp [z])]
          rfl
    · rintro ρ acc ⟨rfl, rfl⟩
      refine ⟨⟨rfl, rfl⟩, ?_⟩
      show (match (inD (.int (g : Int)) [.int (p : Int), .int (q : Int), .int (r : Int)]) with | true => _ | false => _)
      rw [inD_three]
      by_cases z : g = p ∨ g = q ∨ g = r
      · rw [decide_eq_true (show (g : Int) = p ∨ (g : Int) = q ∨ (g : Int) = r by omega)]
        have hf : firstF rows g = t3D (p, q, r) := by
          unfold firstF
          rw [find_at ht nf (by rw [ef, decide_eq_true z]; rfl)]
        rw [hf] at h
        exact h
      · rw [decide_eq_false (show ¬ ((g : Int) = p ∨ (g : Int) = q ∨ (g : Int) = r) by omega)]
        have em : ((([p, q, r].take ([p, q, r].map natD).length).filter fun l => decide (l ≠ g)).map fun l => PyData.int (pc rows g l)) = [pc rows g p, pc rows g q, pc rows g r].map PyData.int := by
          show (([p, q, r].filter fun l => decide (l ≠ g)).map fun l => PyData.int (pc rows g l)) = _
          rw [List.filter_cons, if_pos (by simp; omega), List.filter_cons, if_pos (by simp; omega), List.filter_cons, if_pos (by simp; omega)]
          rfl
        have em2 : ((([p, q, r].take ([PyData.int (p : Int), .int (q : Int), .int (r : Int)]).length).filter fun l => decide (l ≠ g)).map fun l => PyData.int (pc rows g l)) = [pc rows g p, pc rows g q, pc rows g r].map PyData.int := em
        rw [em2]
        refine ⟨fun i ρ acc => ρ = [.val (pD c rows), .val (.int (g : Int)), .val (t3D (p, q, r)), .val (dints [pc rows g p, pc rows g q, pc rows g r]), .no, .no] ∧ acc = ([pc rows g p, pc rows g q, pc rows g r].take i).map fun x => PyData.bool (decide (x = pc rows g p)), ⟨rfl, rfl⟩, ?_, ?_⟩
        · rintro i x ρ acc hi ⟨rfl, rfl⟩
          obtain ⟨l, hl, rfl⟩ := map_at hi
          refine ⟨_, rfl, ⟨rfl, rfl⟩, ?_⟩
          refine ⟨?_, rfl, ?_⟩
          · rw [List.length_map]
            have := List.length_take_le' i [pc rows g p, pc rows g q, pc rows g r]
            exact Nat.lt_of_le_of_lt this (by show 3 < 100000; decide)
          · rw [take_at hl, List.map_append, eqv_int]
            rfl
        · rintro ρ acc ⟨rfl, rfl⟩
          refine ⟨[decide (pc rows g p = pc rows g p), decide (pc rows g q = pc rows g p), decide (pc rows g r = pc rows g p)], rfl, ?_⟩
          have ea : [decide (pc rows g p = pc rows g p), decide (pc rows g q = pc rows g p), decide (pc rows g r = pc rows g p)].all id = fits rows g (p, q, r) := by
            rw [ef, decide_eq_false z, Bool.false_or, List.all_cons, List.all_cons, List.all_cons, List.all_nil]
            show (decide (pc rows g p = pc rows g p) && (decide (pc rows g q = pc rows g p) && (decide (pc rows g r = pc rows g p) && true))) = _
            rw [Bool.and_true, decide_eq_true rfl, Bool.true_and, ← Bool.decide_and, ← Bool.decide_and]
            exact decide_eq_decide.mpr ⟨fun ⟨a, b⟩ => ⟨a.symm, by rw [a, b]⟩, fun ⟨a, b⟩ => ⟨a.symm, by rw [← b, a]⟩⟩
          rw [ea]
          cases y : fits rows g (p, q, r) with
          | true =>
            have hf : firstF rows g = t3D (p, q, r) := by
              unfold firstF
              rw [find_at ht nf y]
            rw [hf] at h
            exact h
          | false => exact ⟨_, _, rfl, find_no ht nf y⟩
  · rintro ρ ⟨s2, s3, rfl, nf⟩
    rw [List.length_map, List.take_length] at nf
    have hf : firstF rows g = .none := by
      unfold firstF
      rw [nf]
    rw [hf] at h
    exact h
end K18

set_option Elab.async false
set_option linter.all false
set_option maxRecDepth 100000
set_option maxHeartbeats 1000000
namespace K18
open PySem L2 Evl PyProof.Rows RZ DL
theorem fit_lay : ∀ (n : Nat) (d : PyData), fitD n d = true → d.canLay0 = true ∧ d.depth ≤ n
  | 0, d, h => by unfold fitD at h; cases h
  | n + 1, d, h => by
    have all : ∀ ds : List PyData, fitAll n ds = true → PyData.canLayAll0 ds = true ∧ PyData.depthAll ds ≤ n := by
      intro ds
      induction ds with
      | nil => intro _; exact ⟨by simp only [PyData.canLayAll0], by simp only [PyData.depthAll]; omega⟩
      | cons e r ih =>
        intro h
        unfold fitAll at h
        rw [Bool.and_eq_true] at h
        have h1 := fit_lay n e h.1
        have h2 := ih h.2
        refine ⟨by simp only [PyData.canLayAll0, h1.1, h2.1, Bool.and_true], ?_⟩
        simp only [PyData.depthAll]
        omega
    cases d with
    | dict _ => unfold fitD at h; cases h
    | list ds =>
      have f : (decide (ds.length ≤ 100000) && fitAll n ds) = true := by unfold fitD at h; exact h
      rw [Bool.and_eq_true] at f
      have z := all ds f.2
      exact ⟨by simp only [PyData.canLay0]; exact z.1, by simp only [PyData.depth]; omega⟩
    | tuple ds =>
      have f : (decide (ds.length ≤ 100000) && fitAll n ds) = true := by unfold fitD at h; exact h
      rw [Bool.and_eq_true] at f
      have z := all ds f.2
      exact ⟨by simp only [PyData.canLay0]; exact z.1, by simp only [PyData.depth]; omega⟩
    | none => exact ⟨by simp only [PyData.canLay0], by simp only [PyData.depth]; omega⟩
    | bool b => exact ⟨by simp only [PyData.canLay0], by simp only [PyData.depth]; omega⟩
    | int i => exact ⟨by simp only [PyData.canLay0], by simp only [PyData.depth]; omega⟩
    | str x =>
      have f : SeqAt.shaped (.str x) = true := by unfold fitD at h; exact h
      exact ⟨SeqAt.canLay_of_shaped f, by simp only [PyData.depth]; omega⟩
theorem fit_shaped {n : Nat} {d : PyData} (h : fitD n d = true) (hn : n ≤ 64) : SeqAt.shaped d = true := by
  have z := fit_lay n d h
  unfold SeqAt.shaped
  rw [Bool.and_eq_true, decide_eq_true_eq]
  exact ⟨z.1, by omega⟩
theorem fit_list {n : Nat} {ds : List PyData} (hl : ds.length ≤ 100000) (h : ∀ d ∈ ds, fitD n d = true) : fitD (n + 1) (.list ds) = true := by
  unfold fitD
  rw [decide_eq_true hl, fitAll_of h]
  rfl
theorem fit_tuple {n : Nat} {ds : List PyData} (hl : ds.length ≤ 100000) (h : ∀ d ∈ ds, fitD n d = true) : fitD (n + 1) (.tuple ds) = true := by
  unfold fitD
  rw [decide_eq_true hl, fitAll_of h]
  rfl
theorem fit_int (n : Nat) (i : Int) : fitD (n + 1) (.int i) = true := by unfold fitD; rfl
theorem fit_dints (n : Nat) {cs : List Int} (h : cs.length ≤ 100000) : fitD (n + 2) (dints cs) = true := fit_list (by rw [List.length_map]; exact h) fun d hd => by
  obtain ⟨c, _, rfl⟩ := List.mem_map.mp hd
  exact fit_int n c
theorem fit_t3 (n : Nat) (t : Nat × Nat × Nat) : fitD (n + 2) (t3D t) = true := fit_tuple (by decide : 3 ≤ 100000) fun d hd => by
  rcases List.mem_cons.mp hd with rfl | hd
  · exact fit_int _ _
  · rcases List.mem_cons.mp hd with rfl | hd
    · exact fit_int _ _
    · rw [List.mem_singleton.mp hd]
      exact fit_int _ _
theorem fit_t3s (n : Nat) {l : List (Nat × Nat × Nat)} (h : l.length ≤ 100000) : fitD (n + 3) (.list (l.map t3D)) = true := fit_list (by rw [List.length_map]; exact h) fun d hd => by
  obtain ⟨t, _, rfl⟩ := List.mem_map.mp hd
  exact fit_t3 n t
theorem fit_ones (n : Nat) {rows : List (List Int)} (h : rows.length ≤ 24) : fitD (n + 3) (onesD rows) = true := fit_t3s n (by
  have h1 := List.length_filter_le (fun t => decide (kind rows t = 1)) (trips rows.length)
  have h2 := trips_len rows.length h
  unfold onesL
  omega)
theorem eqv_t3 (t : Nat × Nat × Nat) : PyData.eqv (t3D t) (t3D t) = true := by
  show ((PyData.eqv (.int (t.1 : Int)) (.int (t.1 : Int))) && ((PyData.eqv (.int (t.2.1 : Int)) (.int (t.2.1 : Int))) && ((PyData.eqv (.int (t.2.2 : Int)) (.int (t.2.2 : Int))) && true))) = true
  rw [eqv_int, eqv_int, eqv_int, decide_eq_true rfl, decide_eq_true rfl, decide_eq_true rfl]
  rfl
theorem eqv_emp (l : List (Nat × Nat × Nat)) : PyData.eqv (.list (l.map t3D)) (.list []) = decide (l = []) := by
  cases l with
  | nil => rfl
  | cons a r => rfl
/-- three of one colour, in order -/
theorem one_fits {rows : List (List Int)} {p q r g : Nat} (h1 : p < q) (h2 : q < r) (h3 : r < rows.length) (e1 : pc rows p r = pc rows p q) (e2 : pc rows q r = pc rows p q) (hg : fits rows g (p, q, r) = true) : (onesL rows).filter (fits rows g) ≠ [] := by
  refine List.ne_nil_of_mem (a := (p, q, r)) ?_
  refine List.mem_filter.mpr ⟨List.mem_filter.mpr ⟨mem_trips.mpr ⟨h1, h2, h3⟩, ?_⟩, hg⟩
  exact decide_eq_true ((kind_one rows p q r).mpr ⟨e1, e2⟩)
theorem with_g {rows : List (List Int)} {g x y : Nat} (hg : g < rows.length) (hx : x < y) (hy : y < rows.length) (gx : g ≠ x) (gy : g ≠ y) (e1 : pc rows g y = pc rows g x) (e2 : pc rows x y = pc rows g x) : (onesL rows).filter (fits rows g) ≠ [] := by
  have fg : ∀ p q r, (g = p ∨ g = q ∨ g = r) → fits rows g (p, q, r) = true := fun p q r h => by
    show (decide (g = p ∨ g = q ∨ g = r) || _) = true
    rw [decide_eq_true h]
    rfl
  by_cases a : g < x
  · exact one_fits a hx hy e1 e2 (fg _ _ _ (.inl rfl))
  · by_cases b : g < y
    · refine one_fits (p := x) (q := g) (r := y) (by omega) b hy ?_ ?_ (fg _ _ _ (.inr (.inl rfl)))
      · rw [e2, pc_comm rows x g]
      · rw [e1, pc_comm rows x g]
    · refine one_fits (p := x) (q := y) (r := g) hx (by omega) hg ?_ ?_ (fg _ _ _ (.inr (.inr rfl)))
      · rw [pc_comm rows x g, e2]
      · rw [pc_comm rows y g, e1, e2]
theorem three_like {c : Int} {rows : List (List Int)} (w : WF c rows) (hc : c < 3) {g x y z : Nat} (hg : g < rows.length) (hx : x < y) (hy : y < z) (hz : z < rows.length) (gx : g ≠ x) (gy : g ≠ y) (gz : g ≠ z) (e1 : pc rows g y = pc rows g x) (e2 : pc rows g z = pc rows g x) : (onesL rows).filter (fits rows g) ≠ [] := by
  have p1 := w.pc (a := x) (b := y) (by omega) (by omega) (by omega)
  have p2 := w.pc (a := x) (b := z) (by omega) (by omega) (by omega)
  have p3 := w.pc (a := y) (b := z) (by omega) (by omega) (by omega)
  have p4 := w.pc (a := g) (b := x) hg (by omega) gx
  by_cases a : pc rows x y = pc rows g x
  · exact with_g hg hx (by omega) gx gy e1 a
  · by_cases b : pc rows x z = pc rows g x
    · exact with_g hg (by omega : x < z) hz gx gz e2 b
    · by_cases d : pc rows y z = pc rows g x
      · exact with_g hg hy hz gy gz (by rw [e2, e1]) (by rw [e1]; exact d)
      · refine one_fits hx hy hz (by omega) (by omega) ?_
        show (_ || (decide (pc rows g x = pc rows g y) && decide (pc rows g y = pc rows g z))) = true
        rw [decide_eq_true e1.symm, decide_eq_true (show pc rows g y = pc rows g z by rw [e1, e2])]
        exact Bool.or_true _
theorem six_fit {c : Int} {rows : List (List Int)} (w : WF c rows) (hc : c < 3) (hn : 5 < rows.length) {g : Nat} (hg : g < rows.length) : (onesL rows).filter (fits rows g) ≠ [] := by
  let o : Nat → Nat := fun k => if k < g then k else k + 1
  have oo : ∀ k, o k = if k < g then k else k + 1 := fun k => rfl
  have ho : ∀ i, i < 5 → o i < rows.length ∧ g ≠ o i := fun i hi => by
    rw [oo]
    split <;> omega
  have lt : ∀ i j, i < j → o i < o j := fun i j h => by
    rw [oo, oo]
    split <;> split <;> omega
  have b : ∀ i, i < 5 → pc rows g (o i) = 0 ∨ pc rows g (o i) = 1 := fun i hi => by
    have := w.pc hg (ho i hi).1 (ho i hi).2
    omega
  have go : ∀ i j k, i < j → j < k → k < 5 → pc rows g (o j) = pc rows g (o i) → pc rows g (o k) = pc rows g (o i) → (onesL rows).filter (fits rows g) ≠ [] := fun i j k h1 h2 h3 e1 e2 =>
    three_like w hc hg (lt i j h1) (lt j k h2) (ho k h3).1 (ho i (by omega)).2 (ho j (by omega)).2 (ho k h3).2 e1 e2
  have b0 := b 0 (by decide)
  have b1 := b 1 (by decide)
  have b2 := b 2 (by decide)
  have b3 := b 3 (by decide)
  have b4 := b 4 (by decide)
  rcases b0 with b0 | b0 <;> rcases b1 with b1 | b1 <;> rcases b2 with b2 | b2 <;> rcases b3 with b3 | b3 <;> rcases b4 with b4 | b4 <;> first
    | exact go 0 1 2 (by decide) (by decide) (by decide) (b1.trans b0.symm) (b2.trans b0.symm)
    | exact go 0 1 3 (by decide) (by decide) (by decide) (b1.trans b0.symm) (b3.trans b0.symm)
    | exact go 0 1 4 (by decide) (by decide) (by decide) (b1.trans b0.symm) (b4.trans b0.symm)
    | exact go 0 2 3 (by decide) (by decide) (by decide) (b2.trans b0.symm) (b3.trans b0.symm)
    | exact go 0 2 4 (by decide) (by decide) (by decide) (b2.trans b0.symm) (b4.trans b0.symm)
    | exact go 0 3 4 (by decide) (by decide) (by decide) (b3.trans b0.symm) (b4.trans b0.symm)
    | exact go 1 2 3 (by decide) (by decide) (by decide) (b2.trans b1.symm) (b3.trans b1.symm)
    | exact go 1 2 4 (by decide) (by decide) (by decide) (b2.trans b1.symm) (b4.trans b1.symm)
    | exact go 1 3 4 (by decide) (by decide) (by decide) (b3.trans b1.symm) (b4.trans b1.symm)
    | exact go 2 3 4 (by decide) (by decide) (by decide) (b3.trans b2.symm) (b4.trans b2.symm)
end K18

set_option Elab.async false
set_option linter.all false
set_option maxRecDepth 100000
set_option maxHeartbeats 1000000
namespace K18
open PySem L2 Evl PyProof.Rows RZ DL
theorem find_none {α : Type} {P : α → Bool} : ∀ {l : List α}, l.filter P = [] → l.find? P = none
  | [], _ => rfl
  | a :: r, h => by
    rw [List.filter_cons] at h
    cases p : P a with
    | true => rw [p] at h; cases h
    | false =>
      rw [p] at h
      rw [List.find?_cons, p]
      exact find_none h
theorem find_some {α : Type} {P : α → Bool} : ∀ {l : List α}, l.filter P ≠ [] → ∃ t, l.find? P = some t ∧ t ∈ l.filter P
  | [], h => absurd rfl h
  | a :: r, h => by
    cases p : P a with
    | true => exact ⟨a, by rw [List.find?_cons, p], by rw [List.filter_cons, if_pos p]; exact List.mem_cons_self⟩
    | false =>
      rw [List.filter_cons, if_neg (by rw [p]; exact Bool.false_ne_true)] at h ⊢
      obtain ⟨t, h1, h2⟩ := find_some h
      exact ⟨t, by rw [List.find?_cons, p]; exact h1, h2⟩
theorem mlen__law_triple_right : ∀ xs Q, m__law_triple_right xs Q → xs.length = ps__law_triple_right.length := fun _ _ ⟨_, _, _, ⟨e, _⟩, _⟩ => by rw [e]; rfl
theorem math__law_triple_right : ∀ xs Q, m__law_triple_right xs Q → bd__law_triple_right { nx := fun _ => Q .none, rt := fun _ d _ => Q d } (startR nm__law_triple_right xs) := fun xs Q ⟨c, rows, g, ⟨e, wf⟩, hg, h⟩ => by
  subst e
  have wl := wf.len
  have hn : (rows.map dints).length = rows.length := List.length_map _
  have ol : (onesL rows).length ≤ 13824 := by
    have h1 := List.length_filter_le (fun t => decide (kind rows t = 1)) (trips rows.length)
    have h2 := trips_len rows.length wl
    unfold onesL
    omega
  refine ⟨fun i ρ acc => ρ = [.val (pD c rows), .val (.int (g : Int)), .val (onesD rows), .val (firstF rows g), .no, .no] ∧ acc = (((onesL rows).take i).filter (fits rows g)).map t3D, ⟨rfl, rfl⟩, ?_, ?_⟩
  · rintro i x ρ acc hi ⟨rfl, rfl⟩
    obtain ⟨t, ht, rfl⟩ := map_at hi
    have tr := mem_trips.mp (List.mem_filter.mp (List.mem_of_getElem? ht)).1
    have fl := tf_len (fits rows g) (onesL rows) i
    refine ⟨c, rows, g, t, ⟨rfl, wf⟩, hg, tr, ?_⟩
    cases y : fits rows g t with
    | true =>
      refine ⟨by rw [List.length_map]; omega, rfl, ?_⟩
      rw [take_at ht, List.filter_append, List.map_append, List.filter_cons, if_pos y]
      rfl
    | false =>
      refine ⟨rfl, ?_⟩
      rw [take_at ht, List.filter_append, List.filter_cons, if_neg (by rw [y]; exact Bool.false_ne_true), List.filter_nil, List.append_nil]
  · rintro ρ acc ⟨rfl, rfl⟩
    rw [List.length_map, List.take_length]
    generalize eL : (onesL rows).filter (fits rows g) = L
    have lL : L.length ≤ 100000 := by
      have := List.length_filter_le (fits rows g) (onesL rows)
      rw [eL] at this
      omega
    have sh := fit_shaped (fit_t3s 0 lL) (by decide)
    have tail : (dRet (dIf (dB (dBinV fEq 4 (asD (dLst daNil)))) (dBinV fIs 3 (dC .none)) (dBinV fInDeep 3 (dRd 4)))) { nx := fun _ => Q .none, rt := fun _ d _ => Q d } [.val (pD c rows), .val (.int (g : Int)), .val (onesD rows), .val (firstF rows g), .val (.list (L.map t3D)), .no] := by
      refine ⟨by decide, ⟨sh, rfl⟩, ?_⟩
      rw [eqv_emp]
      by_cases z : L = []
      · rw [decide_eq_true z]
        have hf : firstF rows g = .none := by
          unfold firstF
          rw [find_none (by rw [eL, z])]
        rw [hf]
        exact h
      · rw [decide_eq_false z]
        obtain ⟨t, h1, h2⟩ := find_some (P := fits rows g) (l := onesL rows) (by rw [eL]; exact z)
        rw [eL] at h2
        have hf : firstF rows g = t3D t := by
          unfold firstF
          rw [h1]
        rw [hf]
        refine ⟨fit_shaped (fit_t3 0 t) (by decide), sh, ?_⟩
        have ea : ((L.map t3D).any fun z => PyData.eqv z (t3D t)) = true := List.any_eq_true.mpr ⟨t3D t, List.mem_map.mpr ⟨t, h2, rfl⟩, eqv_t3 t⟩
        rw [ea]
        exact h
    refine ⟨_, rfl, ?_⟩
    show (match (decide (c < 3)) with | true => _ | false => _)
    by_cases c3 : c < 3
    · rw [decide_eq_true c3]
      refine ⟨_, rfl, ?_⟩
      show (match (decide ((5 : Int) < ((rows.map dints).length : Int))) with | true => _ | false => _)
      by_cases n5 : 5 < rows.length
      · rw [decide_eq_true (by omega)]
        refine ⟨by decide, ⟨sh, rfl⟩, ?_⟩
        rw [eqv_emp]
        have ne := six_fit wf c3 n5 hg
        rw [eL] at ne
        rw [decide_eq_false ne]
        exact tail
      · rw [decide_eq_false (by omega)]
        exact tail
    · rw [decide_eq_false c3]
      exact tail
end K18

set_option Elab.async false
set_option linter.all false
set_option maxRecDepth 100000
set_option maxHeartbeats 1000000
namespace K18
open PySem L2 Evl PyProof.Rows RZ DL
def sm (n : Nat) (f : Nat → Int) : Int := ((List.range n).map f).sum
theorem sm_zero (f : Nat → Int) : sm 0 f = 0 := rfl
theorem sm_succ (n : Nat) (f : Nat → Int) : sm (n + 1) f = sm n f + f n := by
  unfold sm
  rw [List.range_succ, List.map_append, List.sum_append]
  show _ + (f n + 0) = _
  omega
theorem sm_congr {f g : Nat → Int} : ∀ {n : Nat}, (∀ i, i < n → f i = g i) → sm n f = sm n g
  | 0, _ => rfl
  | n + 1, h => by rw [sm_succ, sm_succ, sm_congr fun i hi => h i (by omega), h n (by omega)]
theorem sm_add (f g : Nat → Int) : ∀ n : Nat, sm n (fun i => f i + g i) = sm n f + sm n g
  | 0 => rfl
  | n + 1 => by
    rw [sm_succ, sm_succ, sm_succ, sm_add f g n]
    omega
theorem sm_mul (f : Nat → Int) (k : Int) : ∀ n : Nat, sm n (fun i => f i * k) = sm n f * k
  | 0 => by rw [sm_zero, sm_zero, Int.zero_mul]
  | n + 1 => by rw [sm_succ, sm_succ, sm_mul f k n, Int.add_mul]
theorem sm_all0 {f : Nat → Int} : ∀ {n : Nat}, (∀ i, i < n → f i = 0) → sm n f = 0
  | 0, _ => rfl
  | n + 1, h => by rw [sm_succ, sm_all0 fun i hi => h i (by omega), h n (by omega)]; rfl
/-- over the pairs below n -/
def p2 (n : Nat) (F : Nat → Nat → Int) : Int := sm n fun a => sm (n - (a + 1)) fun i => F a (a + 1 + i)
theorem p2_succ (n : Nat) (F : Nat → Nat → Int) : p2 (n + 1) F = p2 n F + sm n fun a => F a n := by
  unfold p2
  rw [sm_succ, show n + 1 - (n + 1) = 0 by omega, sm_zero, Int.add_zero, ← sm_add]
  refine sm_congr fun a ha => ?_
  rw [show n + 1 - (a + 1) = (n - (a + 1)) + 1 by omega, sm_succ, show a + 1 + (n - (a + 1)) = n by omega]
theorem p2_congr {n : Nat} {F G : Nat → Nat → Int} (h : ∀ a b, a < b → b < n → F a b = G a b) : p2 n F = p2 n G := by
  unfold p2
  exact sm_congr fun a ha => sm_congr fun i hi => h _ _ (by omega) (by omega)
theorem p2_add (n : Nat) (F G : Nat → Nat → Int) : p2 n (fun a b => F a b + G a b) = p2 n F + p2 n G := by
  unfold p2
  rw [← sm_add]
  exact sm_congr fun a _ => sm_add _ _ _
theorem p2_mul (n : Nat) (F : Nat → Nat → Int) (k : Int) : p2 n (fun a b => F a b * k) = p2 n F * k := by
  unfold p2
  rw [← sm_mul]
  exact sm_congr fun a _ => sm_mul _ _ _
/-- over the triples below n -/
def p3 (n : Nat) (F : Nat → Nat → Nat → Int) : Int := p2 n fun a b => sm (n - (b + 1)) fun j => F a b (b + 1 + j)
theorem p3_succ (n : Nat) (F : Nat → Nat → Nat → Int) : p3 (n + 1) F = p3 n F + p2 n fun a b => F a b n := by
  unfold p3
  rw [p2_succ, sm_all0 (f := fun a => sm (n + 1 - (n + 1)) fun j => F a n (n + 1 + j)) fun a _ => by rw [show n + 1 - (n + 1) = 0 by omega]; rfl, Int.add_zero, ← p2_add]
  refine p2_congr fun a b h1 h2 => ?_
  rw [show n + 1 - (b + 1) = (n - (b + 1)) + 1 by omega, sm_succ, show b + 1 + (n - (b + 1)) = n by omega]
theorem sum_flat {α : Type} (f : α → Int) (g : Nat → List α) (n : Nat) : (((List.range n).flatMap g).map f).sum = sm n fun i => ((g i).map f).sum := by
  induction n with
  | zero => rfl
  | succ n ih => rw [flatMap_succ, List.map_append, List.sum_append, ih, sm_succ]
theorem sum_trips (n : Nat) (F : Nat × Nat × Nat → Int) : ((trips n).map F).sum = p3 n fun a b c => F (a, b, c) := by
  rw [trips_eq, sum_flat]
  unfold p3 p2 rowT
  refine sm_congr fun a _ => ?_
  rw [sum_flat]
  refine sm_congr fun i _ => ?_
  unfold cellT sm
  rw [List.map_map]
  rfl
end K18

set_option Elab.async false
set_option linter.all false
set_option maxRecDepth 100000
set_option maxHeartbeats 1000000
set_option exponentiation.threshold 5000
namespace K18
open PySem L2 Evl PyProof.Rows RZ DL
theorem kinds_tot (rows : List (List Int)) (f : Nat × Nat × Nat → Int) : ∀ l : List (Nat × Nat × Nat), ((l.filter fun t => decide (kind rows t = 1)).map f).sum + ((l.filter fun t => decide (kind rows t = 2)).map f).sum + ((l.filter fun t => decide (kind rows t = 3)).map f).sum = (l.map f).sum
  | [] => rfl
  | t :: r => by
    have ih := kinds_tot rows f r
    rw [List.filter_cons, List.filter_cons, List.filter_cons, List.map_cons, List.sum_cons]
    rcases kind_123 rows t with z | z | z
    · rw [if_pos (by simp [z]), if_neg (by simp [z]), if_neg (by simp [z]), List.map_cons, List.sum_cons]
      omega
    · rw [if_neg (by simp [z]), if_pos (by simp [z]), if_neg (by simp [z]), List.map_cons, List.sum_cons]
      omega
    · rw [if_neg (by simp [z]), if_neg (by simp [z]), if_pos (by simp [z]), List.map_cons, List.sum_cons]
      omega
def e1 (ws : List Int) (n : Nat) : Int := sm n (gt ws)
def e2 (ws : List Int) (n : Nat) : Int := p2 n fun a b => gt ws a * gt ws b
def e3 (ws : List Int) (n : Nat) : Int := p3 n fun a b c => gt ws a * gt ws b * gt ws c
theorem e1_succ (ws : List Int) (n : Nat) : e1 ws (n + 1) = e1 ws n + gt ws n := sm_succ _ _
theorem e2_succ (ws : List Int) (n : Nat) : e2 ws (n + 1) = e2 ws n + e1 ws n * gt ws n := by
  unfold e2 e1
  rw [p2_succ, sm_mul]
theorem e3_succ (ws : List Int) (n : Nat) : e3 ws (n + 1) = e3 ws n + e2 ws n * gt ws n := by
  unfold e3 e2
  rw [p3_succ, p2_mul]
/-- all three kinds together: the third elementary sum of the weights -/
theorem wk_e3 (rows : List (List Int)) (ws : List Int) : wk rows ws 1 + wk rows ws 2 + wk rows ws 3 = e3 ws rows.length := by
  unfold wk
  rw [kinds_tot, sum_trips]
  rfl
/-- what `_law_weighed` makes of the corners -/
theorem weighed_of (rows : List (List Int)) (ws : List Int) : cornersI rows ws - 2 * (e3 ws rows.length - wk rows ws 1) = wk rows ws 3 ∧ e3 ws rows.length - wk rows ws 1 - wk rows ws 3 = wk rows ws 2 := by
  have h := wk_e3 rows ws
  unfold cornersI
  omega
end K18

set_option Elab.async false
set_option linter.all false
set_option maxRecDepth 100000
set_option maxHeartbeats 1000000
set_option exponentiation.threshold 5000
namespace K18
open PySem L2 Evl PyProof.Rows RZ DL
theorem mlen__law_weighed : ∀ xs Q, m__law_weighed xs Q → xs.length = ps__law_weighed.length := fun _ _ ⟨_, _, _, ⟨e, _⟩, _⟩ => by rw [e]; rfl
theorem w_b {rows : List (List Int)} {ws : List Int} (w : Ws rows ws) {i : Nat} (h : i < ws.length) : 0 ≤ gt ws i ∧ gt ws i < 2 ^ 60 := w.2 _ (gt_mem h)
theorem e1_b {rows : List (List Int)} {ws : List Int} (w : Ws rows ws) : ∀ i : Nat, i ≤ ws.length → 0 ≤ e1 ws i ∧ e1 ws i ≤ (i : Int) * 2 ^ 60
  | 0, _ => ⟨Int.le_refl 0, by simp [e1, sm_zero]⟩
  | i + 1, h => by
    have ih := e1_b w i (by omega)
    have b := w_b w (i := i) (by omega)
    rw [e1_succ]
    refine ⟨by omega, ?_⟩
    rw [show ((i + 1 : Nat) : Int) = (i : Int) + 1 from rfl, Int.add_mul]
    omega
theorem e2_b {rows : List (List Int)} {ws : List Int} (w : Ws rows ws) (hl : ws.length ≤ 24) : ∀ i : Nat, i ≤ ws.length → 0 ≤ e2 ws i ∧ e2 ws i ≤ (i : Int) * 2 ^ 125
  | 0, _ => ⟨Int.le_refl 0, by simp [e2, p2, sm_zero]⟩
  | i + 1, h => by
    have ih := e2_b w hl i (by omega)
    have a := e1_b w i (by omega)
    have b := w_b w (i := i) (by omega)
    have a2 : e1 ws i < 2 ^ 65 := Int.lt_of_le_of_lt (Int.le_trans a.2 (Int.mul_le_mul_of_nonneg_right (show (i : Int) ≤ 24 by omega) (by decide))) (by decide)
    have m := mul_lt a.1 b.1 a2 b.2
    rw [e2_succ]
    refine ⟨by omega, ?_⟩
    rw [show ((i + 1 : Nat) : Int) = (i : Int) + 1 from rfl, Int.add_mul]
    have m2 : e1 ws i * gt ws i < 2 ^ 125 := m.2
    omega
theorem e3_b {rows : List (List Int)} {ws : List Int} (w : Ws rows ws) (hl : ws.length ≤ 24) : ∀ i : Nat, i ≤ ws.length → 0 ≤ e3 ws i ∧ e3 ws i ≤ (i : Int) * 2 ^ 190
  | 0, _ => ⟨Int.le_refl 0, by simp [e3, p3, p2, sm_zero]⟩
  | i + 1, h => by
    have ih := e3_b w hl i (by omega)
    have a := e2_b w hl i (by omega)
    have b := w_b w (i := i) (by omega)
    have a2 : e2 ws i < 2 ^ 130 := Int.lt_of_le_of_lt (Int.le_trans a.2 (Int.mul_le_mul_of_nonneg_right (show (i : Int) ≤ 24 by omega) (by decide))) (by decide)
    have m := mul_lt a.1 b.1 a2 b.2
    rw [e3_succ]
    refine ⟨by omega, ?_⟩
    rw [show ((i + 1 : Nat) : Int) = (i : Int) + 1 from rfl, Int.add_mul]
    have m2 : e2 ws i * gt ws i < 2 ^ 190 := m.2
    omega
theorem sum_nn {α : Type} (f : α → Int) : ∀ l : List α, (∀ x ∈ l, 0 ≤ f x) → 0 ≤ (l.map f).sum
  | [], _ => Int.le_refl 0
  | x :: r, h => by
    rw [List.map_cons, List.sum_cons]
    have := sum_nn f r fun y hy => h y (List.mem_cons_of_mem _ hy)
    have := h x List.mem_cons_self
    omega
theorem wk_nn {rows : List (List Int)} {ws : List Int} (w : Ws rows ws) (k : Nat) : 0 ≤ wk rows ws k := sum_nn _ _ fun t ht => by
  have b := wk_tot w (mem_trips.mp (List.mem_filter.mp ht).1)
  exact Int.mul_nonneg (Int.mul_nonneg b.1 b.2.2.1) b.2.2.2.2.1
/-- found among the first i ones -/
def wf1 (rows : List (List Int)) (ws : List Int) (i : Nat) : Int := (((onesL rows).take i).map (wt ws)).sum
theorem math__law_weighed : ∀ xs Q, m__law_weighed xs Q → bd__law_weighed { nx := fun _ => Q .none, rt := fun _ d _ => Q d } (startR nm__law_weighed xs) := fun xs Q ⟨c, rows, ws, ⟨e, wf⟩, hw, h⟩ => by
  subst e
  have wl := wf.len
  have hws := hw.1
  have hm : (ws.map PyData.int).length = ws.length := List.length_map _
  have hb : ∀ {x : Int}, 0 ≤ x → x < 2 ^ 60 → Sz x := fun h0 h1 => sz_of1 h0 (Int.lt_of_lt_of_le h1 (pw_le (by decide)))
  refine ⟨(by decide : 4 ≤ 100000), ?_⟩
  refine ⟨fun i ρ => ∃ s7 s8 s9, ρ = [.val (pD c rows), .val (dints ws), .val (onesD rows), .val (.int (wf1 rows ws i)), .val (.int 0), .val (.int 0), .val (.int 0), s7, s8, s9, .no, .no], ⟨.no, .no, .no, rfl⟩, ?_, ?_⟩
  · rintro i x ρ hi ⟨s7, s8, s9, rfl⟩
    obtain ⟨⟨p, q, r⟩, ht, rfl⟩ := map_at hi
    have tr := mem_trips.mp (List.mem_filter.mp (List.mem_of_getElem? ht)).1
    have b' : 0 ≤ gt ws p ∧ gt ws p < 2 ^ 60 ∧ 0 ≤ gt ws q ∧ gt ws q < 2 ^ 60 ∧ 0 ≤ gt ws r ∧ gt ws r < 2 ^ 60 := wk_tot hw tr
    have tr' : p < q ∧ q < r ∧ r < rows.length := tr
    have pq := mul_lt b'.1 b'.2.2.1 b'.2.1 b'.2.2.2.1
    have hpq : Sz (gt ws p * gt ws q) := sz_of1 pq.1 (Int.lt_of_lt_of_le pq.2 (pw_le (by decide)))
    refine ⟨_, at_gt ws (k := p) (by omega) rfl, _, at_gt ws (k := q) (by omega) rfl, ⟨hb b'.1 b'.2.1, hb b'.2.2.1 b'.2.2.2.1⟩, ?_⟩
    refine ⟨_, at_gt ws (k := r) (by omega) rfl, ⟨hpq, hb b'.2.2.2.2.1 b'.2.2.2.2.2⟩, ?_⟩
    refine ⟨.val (.int (p : Int)), .val (.int (q : Int)), .val (.int (r : Int)), ?_⟩
    have ew : wf1 rows ws (i + 1) = wf1 rows ws i + gt ws p * gt ws q * gt ws r := by
      unfold wf1
      rw [take_at ht, List.map_append, List.sum_append]
      show _ + (gt ws p * gt ws q * gt ws r + 0) = _
      omega
    rw [ew]
    rfl
  · rintro ρ ⟨s7, s8, s9, rfl⟩
    rw [List.length_map]
    have e1' : wf1 rows ws (onesL rows).length = wk rows ws 1 := by
      unfold wf1 wk
      rw [List.take_length]
      rfl
    rw [e1']
    refine ⟨fun i ρ => ∃ s10, ρ = [.val (pD c rows), .val (dints ws), .val (onesD rows), .val (.int (wk rows ws 1)), .val (.int (e1 ws i)), .val (.int (e2 ws i)), .val (.int (e3 ws i)), s7, s8, s9, s10, .no], ⟨.no, rfl⟩, ?_, ?_⟩
    · rintro i x ρ hi ⟨s10, rfl⟩
      obtain ⟨y, hy, rfl⟩ := map_at hi
      have hl2 : i < ws.length := (List.getElem?_eq_some_iff.mp hy).1
      have hyg : gt ws i = y := by
        unfold gt
        rw [List.getD_eq_getElem?_getD, hy]
        rfl
      have b := w_b hw hl2
      rw [hyg] at b
      have a := e1_b hw i (by omega)
      have d := e2_b hw (by omega) i (by omega)
      have a2 : e1 ws i < 2 ^ 65 := Int.lt_of_le_of_lt (Int.le_trans a.2 (Int.mul_le_mul_of_nonneg_right (show (i : Int) ≤ 24 by omega) (by decide))) (by decide)
      have d2 : e2 ws i < 2 ^ 130 := Int.lt_of_le_of_lt (Int.le_trans d.2 (Int.mul_le_mul_of_nonneg_right (show (i : Int) ≤ 24 by omega) (by decide))) (by decide)
      refine ⟨⟨sz_of1 d.1 (Int.lt_of_lt_of_le d2 (pw_le (by decide))), hb b.1 b.2⟩, ?_⟩
      refine ⟨⟨sz_of1 a.1 (Int.lt_of_lt_of_le a2 (pw_le (by decide))), hb b.1 b.2⟩, ?_⟩
      refine ⟨.val (.int y), ?_⟩
      rw [e1_succ, e2_succ, e3_succ, hyg]
      rfl
    · rintro ρ ⟨s10, rfl⟩
      rw [hm, hws]
      refine ⟨c, rows, ws, ⟨rfl, wf⟩, hw, ?_⟩
      have z := weighed_of rows ws
      have t := wk_e3 rows ws
      have n1 := wk_nn hw 1
      have n2 := wk_nn hw 2
      have n3 := wk_nn hw 3
      have b := e3_b hw (by omega) rows.length (by omega)
      have b2 : e3 ws rows.length < 2 ^ 200 := Int.lt_of_le_of_lt (Int.le_trans b.2 (Int.mul_le_mul_of_nonneg_right (show (rows.length : Int) ≤ 24 by omega) (by decide))) (by decide)
      refine ⟨⟨sz_of1 (by decide) (Int.lt_of_lt_of_le (by decide : (2 : Int) < 2 ^ 20) (pw_le (by decide))), sz_of1 (by omega) (Int.lt_of_lt_of_le (by omega : e3 ws rows.length - wk rows ws 1 < 2 ^ 200) (pw_le (by decide)))⟩, ?_⟩
      refine ⟨(by decide : 3 ≤ 100000), ?_⟩
      show Q (.tuple [.int (wk rows ws 1), .int (e3 ws rows.length - wk rows ws 1 - (cornersI rows ws - 2 * (e3 ws rows.length - wk rows ws 1))), .int (cornersI rows ws - 2 * (e3 ws rows.length - wk rows ws 1))])
      rw [z.1, z.2]
      exact h
end K18

set_option Elab.async false
set_option linter.all false
set_option maxRecDepth 100000
set_option maxHeartbeats 1000000
namespace K18
open PySem L2 Evl PyProof.Rows RZ DL
theorem sq_pairs (G : Nat → Nat → Int) : ∀ n : Nat, sm n (fun g => sm n fun a => if g ≠ a then G g a else 0) = p2 n (fun a b => G a b + G b a)
  | 0 => rfl
  | n + 1 => by
    have h1 : sm n (fun g => sm (n + 1) fun a => if g ≠ a then G g a else 0) = sm n (fun g => sm n fun a => if g ≠ a then G g a else 0) + sm n (fun g => G g n) := by
      rw [← sm_add]
      refine sm_congr fun g hg => ?_
      rw [sm_succ, if_pos (by omega)]
    have h2 : sm (n + 1) (fun a => if n ≠ a then G n a else 0) = sm n (fun a => G n a) := by
      rw [sm_succ, if_neg (by omega), Int.add_zero]
      exact sm_congr fun a ha => if_pos (by omega)
    rw [sm_succ, h1, h2, sq_pairs G n, p2_succ, sm_add]
    have e : sm n (fun a => G n a) = sm n (G n) := rfl
    omega
/-- a guest and a pair without it: the triples, each with its three choices -/
theorem guest_pairs (F : Nat → Nat → Nat → Int) : ∀ n : Nat, sm n (fun g => p2 n fun a b => if g ≠ a ∧ g ≠ b then F g a b else 0) = p3 n (fun a b c => F a b c + F b a c + F c a b)
  | 0 => rfl
  | n + 1 => by
    have h1 : sm n (fun g => p2 (n + 1) fun a b => if g ≠ a ∧ g ≠ b then F g a b else 0) = sm n (fun g => p2 n fun a b => if g ≠ a ∧ g ≠ b then F g a b else 0) + sm n (fun g => sm n fun a => if g ≠ a then F g a n else 0) := by
      rw [← sm_add]
      refine sm_congr fun g hg => ?_
      rw [p2_succ]
      congr 1
      refine sm_congr fun a ha => ?_
      by_cases z : g = a
      · rw [if_neg (by omega), if_neg (by omega)]
      · rw [if_pos (by omega), if_pos z]
    have h2 : p2 (n + 1) (fun a b => if n ≠ a ∧ n ≠ b then F n a b else 0) = p2 n (fun a b => F n a b) := by
      rw [p2_succ, sm_all0 (f := fun a => if n ≠ a ∧ n ≠ n then F n a n else 0) fun a _ => if_neg (by omega), Int.add_zero]
      exact p2_congr fun a b h1 h2 => if_pos (by omega)
    have h3 : p2 n (fun a b => F a b n + F b a n + F n a b) = p2 n (fun a b => F a b n + F b a n) + p2 n (fun a b => F n a b) := p2_add n (fun a b => F a b n + F b a n) (fun a b => F n a b)
    rw [sm_succ, h1, h2, guest_pairs F n, sq_pairs (fun g a => F g a n) n, p3_succ, h3]
    omega
end K18

set_option Elab.async false
set_option linter.all false
set_option maxRecDepth 100000
set_option maxHeartbeats 1000000
namespace K18
open PySem L2 Evl PyProof.Rows RZ DL
/-- an unlike corner at g, over the pair a, b -/
def uc (rows : List (List Int)) (ws : List Int) (g a b : Nat) : Int := if pc rows g a = pc rows g b then 0 else gt ws g * gt ws a * gt ws b
theorem corners_sum (rows : List (List Int)) (ws : List Int) : ∀ l : List (Nat × Nat × Nat), 2 * ((l.filter fun t => decide (kind rows t = 2)).map (wt ws)).sum + 3 * ((l.filter fun t => decide (kind rows t = 3)).map (wt ws)).sum = (l.map fun t => uc rows ws t.1 t.2.1 t.2.2 + uc rows ws t.2.1 t.1 t.2.2 + uc rows ws t.2.2 t.1 t.2.1).sum
  | [] => rfl
  | (p, q, r) :: l => by
    have ih := corners_sum rows ws l
    have ek : kind rows (p, q, r) = if pc rows p q = pc rows p r then (if pc rows q r = pc rows p q then 1 else 2) else (if pc rows q r = pc rows p q ∨ pc rows q r = pc rows p r then 2 else 3) := rfl
    have c1 : pc rows q p = pc rows p q := pc_comm rows q p
    have c2 : pc rows r p = pc rows p r := pc_comm rows r p
    have c3 : pc rows r q = pc rows q r := pc_comm rows r q
    have w1 : gt ws q * gt ws p * gt ws r = gt ws p * gt ws q * gt ws r := by rw [Int.mul_comm (gt ws q)]
    have w2 : gt ws r * gt ws p * gt ws q = gt ws p * gt ws q * gt ws r := by rw [Int.mul_assoc, Int.mul_comm]
    have eu : uc rows ws p q r + uc rows ws q p r + uc rows ws r p q = (if kind rows (p, q, r) = 2 then 2 * wt ws (p, q, r) else if kind rows (p, q, r) = 3 then 3 * wt ws (p, q, r) else 0) := by
      show _ = (if kind rows (p, q, r) = 2 then 2 * (gt ws p * gt ws q * gt ws r) else if kind rows (p, q, r) = 3 then 3 * (gt ws p * gt ws q * gt ws r) else 0)
      unfold uc
      rw [c1, c2, c3, w1, w2, ek]
      generalize gt ws p * gt ws q * gt ws r = W
      clear ih ek c1 c2 c3 w1 w2
      generalize pc rows p q = A
      generalize pc rows p r = B
      generalize pc rows q r = C
      by_cases x : A = B <;> by_cases y : C = A <;> by_cases z : C = B <;> simp [x, y, z] <;> omega
    rw [List.map_cons, List.sum_cons, ← ih, List.filter_cons, List.filter_cons]
    show _ = uc rows ws p q r + uc rows ws q p r + uc rows ws r p q + _
    rw [eu]
    rcases kind_123 rows (p, q, r) with z | z | z
    · rw [if_neg (by simp [z]), if_neg (by simp [z]), if_neg (by omega), if_neg (by omega)]
      omega
    · rw [if_pos (by simp [z]), if_neg (by simp [z]), if_pos z, List.map_cons, List.sum_cons]
      omega
    · rw [if_neg (by simp [z]), if_pos (by simp [z]), if_neg (by omega), if_pos z, List.map_cons, List.sum_cons]
      omega
/-- the corners, guest by guest -/
theorem corners_eq (rows : List (List Int)) (ws : List Int) : cornersI rows ws = sm rows.length fun g => p2 rows.length fun a b => if g ≠ a ∧ g ≠ b then uc rows ws g a b else 0 := by
  rw [guest_pairs]
  have h := corners_sum rows ws (trips rows.length)
  rw [sum_trips] at h
  exact h
end K18

set_option Elab.async false
set_option linter.all false
set_option maxRecDepth 100000
set_option maxHeartbeats 1000000
namespace K18
open PySem L2 Evl PyProof.Rows RZ DL
theorem perm_sum {l m : List Int} (h : l.Perm m) : l.sum = m.sum := by
  induction h with
  | nil => rfl
  | cons x _ ih => rw [List.sum_cons, List.sum_cons, ih]
  | swap x y l =>
    rw [List.sum_cons, List.sum_cons, List.sum_cons, List.sum_cons]
    omega
  | trans _ _ a b => rw [a, b]
theorem by_getD (nm : List Nat) (f : Nat → Int) : ((List.range nm.length).map fun i => f (nm.getD i 0)) = nm.map f := by
  refine List.ext_getElem (by rw [List.length_map, List.length_map, List.length_range]) fun i h1 h2 => ?_
  rw [List.length_map] at h2
  rw [List.getElem_map, List.getElem_map, List.getElem_range, List.getD_eq_getElem?_getD, List.getElem?_eq_getElem h2]
  rfl
/-- a sum over all guests does not see how they are named -/
theorem sm_perm {nm : List Nat} {n : Nat} (hp : nm.Perm (List.range n)) (f : Nat → Int) : sm n (fun i => f (nm.getD i 0)) = sm n f := by
  have hl : nm.length = n := by rw [hp.length_eq, List.length_range]
  unfold sm
  have b := by_getD nm f
  rw [hl] at b
  rw [b, perm_sum (hp.map f)]
end K18

set_option Elab.async false
set_option linter.all false
set_option maxRecDepth 100000
set_option maxHeartbeats 1000000
namespace K18
open PySem L2 Evl PyProof.Rows RZ DL
theorem p3_congr {n : Nat} {F G : Nat → Nat → Nat → Int} (h : ∀ a b c, a < b → b < c → c < n → F a b c = G a b c) : p3 n F = p3 n G := by
  unfold p3
  exact p2_congr fun a b h1 h2 => sm_congr fun j hj => h _ _ _ h1 (by omega) (by omega)
theorem p3_mul (n : Nat) (F : Nat → Nat → Nat → Int) (k : Int) : p3 n (fun a b c => F a b c * k) = p3 n F * k := by
  unfold p3
  rw [← p2_mul]
  exact p2_congr fun a b _ _ => sm_mul _ _ _
/-- of a sum that does not see the order: all orders of all triples -/
theorem tri6 (F : Nat → Nat → Nat → Int) (s1 : ∀ a b c, F a b c = F a c b) (s2 : ∀ a b c, F a b c = F b a c) (n : Nat) : sm n (fun g => sm n fun a => sm n fun b => if a ≠ b then (if g ≠ a ∧ g ≠ b then F g a b else 0) else 0) = p3 n F * 6 := by
  have h : ∀ g, (sm n fun a => sm n fun b => if a ≠ b then (if g ≠ a ∧ g ≠ b then F g a b else 0) else 0) = p2 n fun a b => if g ≠ a ∧ g ≠ b then F g a b * 2 else 0 := fun g => by
    rw [sq_pairs (fun a b => if g ≠ a ∧ g ≠ b then F g a b else 0) n]
    refine p2_congr fun a b _ _ => ?_
    have e := s1 g a b
    by_cases z : g ≠ a ∧ g ≠ b
    · rw [if_pos z, if_pos ⟨z.2, z.1⟩, if_pos z]
      omega
    · rw [if_neg z, if_neg (fun y => z ⟨y.2, y.1⟩), if_neg z]
      rfl
  rw [sm_congr fun g _ => h g, guest_pairs (fun g a b => F g a b * 2) n, ← p3_mul]
  refine p3_congr fun a b c _ _ _ => ?_
  have e1 := s2 a b c
  have e2 := s2 c a b
  have e3 := s1 a c b
  omega
end K18

set_option Elab.async false
set_option linter.all false
set_option maxRecDepth 100000
set_option maxHeartbeats 1000000
namespace K18
open PySem L2 Evl PyProof.Rows RZ DL
def kF (rows : List (List Int)) (ws : List Int) (k a b c : Nat) : Int := if kind rows (a, b, c) = k then gt ws a * gt ws b * gt ws c else 0
theorem filt_sum {α : Type} (P : α → Prop) [DecidablePred P] (f : α → Int) : ∀ l : List α, ((l.filter fun t => decide (P t)).map f).sum = (l.map fun t => if P t then f t else 0).sum
  | [] => rfl
  | t :: r => by
    rw [List.filter_cons, List.map_cons, List.sum_cons, ← filt_sum P f r]
    by_cases z : P t
    · rw [if_pos (by simp [z]), if_pos z, List.map_cons, List.sum_cons]
    · rw [if_neg (by simp [z]), if_neg z, Int.zero_add]
theorem wk_p3 (rows : List (List Int)) (ws : List Int) (k : Nat) : wk rows ws k = p3 rows.length (kF rows ws k) := by
  unfold wk
  rw [filt_sum (fun t => kind rows t = k), sum_trips]
  rfl
theorem kind_eq (rows : List (List Int)) (a b c : Nat) : kind rows (a, b, c) = if pc rows a b = pc rows a c then (if pc rows b c = pc rows a b then 1 else 2) else (if pc rows b c = pc rows a b ∨ pc rows b c = pc rows a c then 2 else 3) := rfl
theorem kind_s1 (rows : List (List Int)) (a b c : Nat) : kind rows (a, b, c) = kind rows (a, c, b) := by
  rw [kind_eq, kind_eq, pc_comm rows c b]
  generalize pc rows a b = A
  generalize pc rows a c = B
  generalize pc rows b c = C
  (repeat' split) <;> omega
theorem kind_s2 (rows : List (List Int)) (a b c : Nat) : kind rows (a, b, c) = kind rows (b, a, c) := by
  rw [kind_eq, kind_eq, pc_comm rows b a]
  generalize pc rows a b = A
  generalize pc rows a c = B
  generalize pc rows b c = C
  (repeat' split) <;> omega
theorem kF_s1 (rows : List (List Int)) (ws : List Int) (k a b c : Nat) : kF rows ws k a b c = kF rows ws k a c b := by
  unfold kF
  rw [kind_s1, Int.mul_assoc, Int.mul_comm (gt ws b), ← Int.mul_assoc]
theorem kF_s2 (rows : List (List Int)) (ws : List Int) (k a b c : Nat) : kF rows ws k a b c = kF rows ws k b a c := by
  unfold kF
  rw [kind_s2, Int.mul_comm (gt ws a)]
end K18

set_option Elab.async false
set_option linter.all false
set_option maxRecDepth 100000
set_option maxHeartbeats 1000000
namespace K18
open PySem L2 Evl PyProof.Rows RZ DL
theorem pc_named (rows : List (List Int)) (nm : List Nat) {i j : Nat} (hi : i < nm.length) (hj : j < nm.length) (h : i ≠ j) : pc (named rows nm) i j = pc rows (nm.getD i 0) (nm.getD j 0) := by
  have main : ∀ a b, b < a → a < nm.length → gt ((named rows nm).getD a []) b = pc rows (nm.getD a 0) (nm.getD b 0) := fun a b h1 h2 => by
    unfold named gt
    rw [List.getD_eq_getElem?_getD, List.getD_eq_getElem?_getD, List.getElem?_map, List.getElem?_range h2]
    show (((List.range a).map fun j => pc rows (nm.getD a 0) (nm.getD j 0))[b]?).getD 0 = _
    rw [List.getElem?_map, List.getElem?_range h1]
    rfl
  show gt ((named rows nm).getD (max i j) []) (min i j) = _
  by_cases z : j < i
  · rw [Nat.max_eq_left (by omega), Nat.min_eq_right (by omega)]
    exact main i j z hi
  · rw [Nat.max_eq_right (by omega), Nat.min_eq_left (by omega), main j i (by omega) hj]
    exact pc_comm _ _ _
theorem kF_named (rows : List (List Int)) (ws vs : List Int) (nm : List Nat) (k : Nat) (hv : ∀ i, i < nm.length → gt vs i = gt ws (nm.getD i 0)) {a b c : Nat} (ha : a < nm.length) (hb : b < nm.length) (hc : c < nm.length) (ab : a ≠ b) (ac : a ≠ c) (bc : b ≠ c) :
    kF (named rows nm) vs k a b c = kF rows ws k (nm.getD a 0) (nm.getD b 0) (nm.getD c 0) := by
  unfold kF
  rw [kind_eq, kind_eq, pc_named rows nm ha hb ab, pc_named rows nm ha hc ac, pc_named rows nm hb hc bc, hv a ha, hv b hb, hv c hc]
theorem nm_inj {nm : List Nat} (nd : nm.Nodup) {i j : Nat} (hi : i < nm.length) (hj : j < nm.length) (h : i ≠ j) : nm.getD i 0 ≠ nm.getD j 0 := by
  have g : ∀ {k : Nat} (hk : k < nm.length), nm.getD k 0 = nm[k] := fun hk => by rw [List.getD_eq_getElem?_getD, List.getElem?_eq_getElem hk]; rfl
  rw [g hi, g hj]
  by_cases z : i < j
  · exact List.pairwise_iff_getElem.mp nd i j hi hj z
  · exact fun e => List.pairwise_iff_getElem.mp nd j i hj hi (by omega) e.symm
/-- the sums of the kinds do not see how the guests are named -/
theorem wk_named (rows : List (List Int)) (ws vs : List Int) (nm : List Nat) (k : Nat) (hp : nm.Perm (List.range rows.length)) (hv : ∀ i, i < nm.length → gt vs i = gt ws (nm.getD i 0)) : wk (named rows nm) vs k = wk rows ws k := by
  have hl : nm.length = rows.length := by rw [hp.length_eq, List.length_range]
  have nd : nm.Nodup := hp.nodup_iff.mpr List.nodup_range
  have A := tri6 (kF (named rows nm) vs k) (kF_s1 _ _ _) (kF_s2 _ _ _) rows.length
  have B := tri6 (kF rows ws k) (kF_s1 _ _ _) (kF_s2 _ _ _) rows.length
  rw [wk_p3, wk_p3, named_len, hl]
  rw [← sm_perm hp] at B
  have e : (sm rows.length fun g => sm rows.length fun a => sm rows.length fun b => if a ≠ b then (if g ≠ a ∧ g ≠ b then kF (named rows nm) vs k g a b else 0) else 0) = sm rows.length fun i => sm rows.length fun a => sm rows.length fun b => if a ≠ b then (if nm.getD i 0 ≠ a ∧ nm.getD i 0 ≠ b then kF rows ws k (nm.getD i 0) a b else 0) else 0 := by
    refine sm_congr fun g hg => ?_
    rw [← sm_perm hp (fun a => sm rows.length fun b => if a ≠ b then (if nm.getD g 0 ≠ a ∧ nm.getD g 0 ≠ b then kF rows ws k (nm.getD g 0) a b else 0) else 0)]
    refine sm_congr fun a ha => ?_
    rw [← sm_perm hp (fun b => if nm.getD a 0 ≠ b then (if nm.getD g 0 ≠ nm.getD a 0 ∧ nm.getD g 0 ≠ b then kF rows ws k (nm.getD g 0) (nm.getD a 0) b else 0) else 0)]
    refine sm_congr fun b hb => ?_
    by_cases ab : a = b
    · subst ab
      rw [if_neg (fun z => z rfl), if_neg (fun z => z rfl)]
    · rw [if_pos ab, if_pos (nm_inj nd (by omega) (by omega) ab)]
      by_cases ga : g = a
      · subst ga
        rw [if_neg (fun z => z.1 rfl), if_neg (fun z => z.1 rfl)]
      · by_cases gb : g = b
        · subst gb
          rw [if_neg (fun z => z.2 rfl), if_neg (fun z => z.2 rfl)]
        · rw [if_pos ⟨ga, gb⟩, if_pos ⟨nm_inj nd (by omega) (by omega) ga, nm_inj nd (by omega) (by omega) gb⟩]
          exact kF_named rows ws vs nm k hv (by omega) (by omega) (by omega) ga gb ab
  omega
end K18

set_option Elab.async false
set_option linter.all false
set_option maxRecDepth 100000
set_option maxHeartbeats 1000000
set_option exponentiation.threshold 5000
namespace K18
open PySem L2 Evl PyProof.Rows RZ DL
/-- the weights of the guests before j, other than g, whose pair with g has the colour k -/
def cs (rows : List (List Int)) (ws : List Int) (g j : Nat) (k : Int) : Int := sm j fun a => if a ≠ g ∧ pc rows g a = k then gt ws a else 0
/-- .. another colour than k -/
def cu (rows : List (List Int)) (ws : List Int) (g j : Nat) (k : Int) : Int := sm j fun a => if a ≠ g ∧ pc rows g a ≠ k then gt ws a else 0
theorem sm_pick (w : Int) : ∀ (C : Nat) {v : Int}, 0 ≤ v → v < (C : Int) → sm C (fun (k : Nat) => if v = (k : Int) then w else 0) = w
  | 0, v, h0, h1 => by omega
  | C + 1, v, h0, h1 => by
    rw [sm_succ]
    by_cases z : v = (C : Int)
    · rw [if_pos z, sm_all0 fun i hi => if_neg (by omega), Int.zero_add]
    · rw [if_neg z, sm_pick w C h0 (by omega), Int.add_zero]
theorem cs_all {c : Int} {rows : List (List Int)} (wf : WF c rows) (ws : List Int) {g : Nat} (hg : g < rows.length) : ∀ j, j ≤ rows.length → sm c.toNat (fun (k : Nat) => cs rows ws g j (k : Int)) = sm j fun a => if a ≠ g then gt ws a else 0
  | 0, _ => sm_all0 fun _ _ => rfl
  | j + 1, h => by
    have e : sm c.toNat (fun (k : Nat) => cs rows ws g (j + 1) (k : Int)) = sm c.toNat (fun (k : Nat) => cs rows ws g j (k : Int)) + sm c.toNat (fun (k : Nat) => if j ≠ g ∧ pc rows g j = (k : Int) then gt ws j else 0) := by
      rw [← sm_add]
      exact sm_congr fun k _ => sm_succ _ _
    rw [e, cs_all wf ws hg j (by omega), sm_succ]
    congr 1
    by_cases z : j = g
    · rw [if_neg (by omega), sm_all0 fun k _ => if_neg (by omega)]
    · rw [if_pos z]
      have p := wf.pc hg (show j < rows.length by omega) (by omega)
      refine Eq.trans (sm_congr fun k _ => ?_) (sm_pick (gt ws j) c.toNat p.1 (by omega))
      by_cases y : pc rows g j = (k : Int)
      · rw [if_pos ⟨z, y⟩, if_pos y]
      · rw [if_neg (fun q => y q.2), if_neg y]
theorem cs_cu (rows : List (List Int)) (ws : List Int) (g j : Nat) (k : Int) : cs rows ws g j k + cu rows ws g j k = sm j fun a => if a ≠ g then gt ws a else 0 := by
  unfold cs cu
  rw [← sm_add]
  refine sm_congr fun a _ => ?_
  by_cases z : a = g
  · rw [if_neg (fun q => q.1 z), if_neg (fun q => q.1 z), if_neg (fun q => q z)]
    rfl
  · rw [if_pos z]
    by_cases y : pc rows g a = k
    · rw [if_pos ⟨z, y⟩, if_neg (fun q => q.2 y), Int.add_zero]
    · rw [if_neg (fun q => y q.2), if_pos ⟨z, y⟩, Int.zero_add]
/-- the corners at g over the pairs before j -/
def cf (rows : List (List Int)) (ws : List Int) (g a b : Nat) : Int := if g ≠ a ∧ g ≠ b then uc rows ws g a b else 0
theorem cf_self (rows : List (List Int)) (ws : List Int) (g : Nat) : p2 (g + 1) (cf rows ws g) = p2 g (cf rows ws g) := by
  have z : sm g (fun a => cf rows ws g a g) = 0 := sm_all0 fun a _ => if_neg (fun q => q.2 rfl)
  rw [p2_succ, z, Int.add_zero]
theorem cf_step (rows : List (List Int)) (ws : List Int) {g j : Nat} (z : j ≠ g) : p2 (j + 1) (cf rows ws g) = p2 j (cf rows ws g) + gt ws g * gt ws j * cu rows ws g j (pc rows g j) := by
  rw [p2_succ]
  congr 1
  unfold cu
  rw [Int.mul_comm, ← sm_mul]
  refine sm_congr fun a _ => ?_
  unfold cf uc
  by_cases y : a = g
  · rw [if_neg (by omega), if_neg (fun q => q.1 y), Int.zero_mul]
  · rw [if_pos (by omega)]
    by_cases x : pc rows g a = pc rows g j
    · rw [if_pos x, if_neg (fun q => q.2 x), Int.zero_mul]
    · rw [if_neg x, if_pos ⟨y, x⟩, Int.mul_comm (gt ws a), Int.mul_assoc, Int.mul_assoc, Int.mul_comm (gt ws a)]
/-- the sums of _law_corners -/
def csL (c : Int) (rows : List (List Int)) (ws : List Int) (g j : Nat) : List Int := (List.range c.toNat).map fun (k : Nat) => cs rows ws g j (k : Int)
theorem csL_len (c : Int) (rows : List (List Int)) (ws : List Int) (g j : Nat) : (csL c rows ws g j).length = c.toNat := by unfold csL; rw [List.length_map, List.length_range]
theorem csL_gt (c : Int) (rows : List (List Int)) (ws : List Int) (g j : Nat) {k : Nat} (h : k < c.toNat) : gt (csL c rows ws g j) k = cs rows ws g j (k : Int) := by
  unfold gt csL
  rw [List.getD_eq_getElem?_getD, List.getElem?_map, List.getElem?_range h]
  rfl
theorem csL_at (c : Int) (rows : List (List Int)) (ws : List Int) (g j : Nat) {i : Nat} (h : i < (csL c rows ws g j).length) : (csL c rows ws g j)[i] = cs rows ws g j (i : Int) := by simp [csL]
theorem csL_zero (c : Int) (rows : List (List Int)) (ws : List Int) (g : Nat) : csL c rows ws g 0 = List.replicate c.toNat 0 := by
  refine List.ext_getElem (by rw [csL_len, List.length_replicate]) fun i h1 h2 => ?_
  rw [csL_at, List.getElem_replicate]
  rfl
theorem csL_same (c : Int) (rows : List (List Int)) (ws : List Int) (g : Nat) : csL c rows ws g (g + 1) = csL c rows ws g g := by
  unfold csL
  refine List.map_congr_left fun k _ => ?_
  unfold cs
  rw [sm_succ, if_neg (fun q => q.1 rfl), Int.add_zero]
theorem csL_set (c : Int) (rows : List (List Int)) (ws : List Int) {g j v : Nat} (z : j ≠ g) (e : pc rows g j = (v : Int)) : csL c rows ws g (j + 1) = (csL c rows ws g j).set v (cs rows ws g j (v : Int) + gt ws j) := by
  refine List.ext_getElem (by rw [List.length_set, csL_len, csL_len]) fun i h1 h2 => ?_
  have e1 : cs rows ws g (j + 1) (i : Int) = cs rows ws g j (i : Int) + if j ≠ g ∧ pc rows g j = (i : Int) then gt ws j else 0 := sm_succ _ _
  rw [List.getElem_set, csL_at, e1]
  by_cases y : v = i
  · subst y
    rw [if_pos rfl, if_pos ⟨z, e⟩]
  · rw [if_neg y, csL_at, if_neg (fun q => y (by omega)), Int.add_zero]
theorem map_int_set (ns : List Int) (k : Nat) (v : Int) : (ns.map PyData.int).set k (.int v) = (ns.set k v).map PyData.int := by rw [List.map_set]
theorem rep_int (n : Nat) (v : Int) : repD n [.int v] = (List.replicate n v).map PyData.int := by
  unfold repD
  induction n with
  | zero => rfl
  | succ n ih =>
    rw [List.replicate_succ, List.flatten_cons, ih, List.replicate_succ]
    rfl
theorem cu_b {rows : List (List Int)} {ws : List Int} (w : Ws rows ws) (g : Nat) (k : Int) : ∀ j : Nat, j ≤ ws.length → 0 ≤ cu rows ws g j k ∧ cu rows ws g j k ≤ (j : Int) * 2 ^ 60
  | 0, _ => ⟨Int.le_refl 0, by simp [cu, sm_zero]⟩
  | j + 1, h => by
    have ih := cu_b w g k j (by omega)
    have b := w_b w (i := j) (by omega)
    have e : cu rows ws g (j + 1) k = cu rows ws g j k + if j ≠ g ∧ pc rows g j ≠ k then gt ws j else 0 := sm_succ _ _
    rw [e, show ((j + 1 : Nat) : Int) = (j : Int) + 1 from rfl, Int.add_mul]
    by_cases y : j ≠ g ∧ pc rows g j ≠ k
    · rw [if_pos y]; omega
    · rw [if_neg y]; omega
end K18

set_option Elab.async false
set_option linter.all false
set_option maxRecDepth 100000
set_option maxHeartbeats 1000000
set_option exponentiation.threshold 5000
namespace K18
open PySem L2 Evl PyProof.Rows RZ DL
theorem mlen__law_corners : ∀ xs Q, m__law_corners xs Q → xs.length = ps__law_corners.length := fun _ _ ⟨_, _, _, ⟨e, _⟩, _⟩ => by rw [e]; rfl
theorem math__law_corners : ∀ xs Q, m__law_corners xs Q → bd__law_corners { nx := fun _ => Q .none, rt := fun _ d _ => Q d } (startR nm__law_corners xs) := fun xs Q ⟨c, rows, ws, ⟨e, wf⟩, hw, h⟩ => by
  subst e
  have wl := wf.len
  have wp := wf.pos
  have wq := wf.few
  have hn : (rows.map dints).length = rows.length := List.length_map _
  have hws := hw.1
  have hb : ∀ {x : Int}, 0 ≤ x → x < 2 ^ 60 → Sz x := fun h0 h1 => sz_of1 h0 (Int.lt_of_lt_of_le h1 (pw_le (by decide)))
  refine ⟨_, rfl, ?_⟩
  refine ⟨by omega, by omega, fun i ρ => ∃ s3 s4 s5 s6, ρ = [.val (pD c rows), .val (dints ws), .val (.int (sm i fun g => p2 rows.length (cf rows ws g))), s3, s4, s5, s6], ⟨.no, .no, .no, .no, rfl⟩, ?_, ?_⟩
  · rintro i x ρ hi ⟨s3, s4, s5, s6, rfl⟩
    obtain ⟨hi1, rfl⟩ := rngD_at hi
    have hi2 : i < rows.length := by omega
    rw [Int.zero_add]
    refine ⟨by decide, ?_⟩
    refine ⟨_, rfl, ⟨by omega, by omega, ?_⟩, ?_⟩
    · show 1 * c.toNat ≤ 100000
      omega
    refine ⟨_, rfl, ?_⟩
    refine ⟨by omega, by omega, fun j ρ => ∃ s5 s6, ρ = [.val (pD c rows), .val (dints ws), .val (.int ((sm i fun g => p2 rows.length (cf rows ws g)) + p2 j (cf rows ws i))), .val (.int (i : Int)), .own ((csL c rows ws i j).map .int), s5, s6], ⟨s5, s6, ?_⟩, ?_, ?_⟩
    · rw [csL_zero, ← rep_int, show p2 0 (cf rows ws i) = 0 from rfl, Int.add_zero]
      rfl
    · rintro j x ρ hj ⟨s5, s6, rfl⟩
      obtain ⟨hj1, rfl⟩ := rngD_at hj
      have hj2 : j < rows.length := by omega
      rw [Int.zero_add]
      refine ⟨⟨rfl, rfl⟩, ?_⟩
      rw [eqv_int]
      by_cases z : j = i
      · subst z
        rw [decide_eq_true rfl]
        refine ⟨?s5, s6, ?eq1⟩
        case eq1 =>
          rw [cf_self, csL_same]
          rfl
      · rw [decide_eq_false (by omega)]
        have p := wf.pc hi2 hj2 (fun q => z q.symm)
        refine ⟨c, rows, i, j, ⟨rfl, wf⟩, hi2, hj2, fun q => z q.symm, ?_⟩
        have st := cf_step rows ws z
        obtain ⟨v, hv⟩ : ∃ v : Nat, pc rows i j = (v : Int) := ⟨_, (Int.toNat_of_nonneg p.1).symm⟩
        have lst := csL_set c rows ws z hv
        rw [hv] at p st ⊢
        have hvc : v < c.toNat := by omega
        have bi := w_b hw (i := i) (by omega)
        have bj := w_b hw (i := j) (by omega)
        have ml := mul_lt bi.1 bj.1 bi.2 bj.2
        have hs : (csL c rows ws i j).sum - cs rows ws i j (v : Int) = cu rows ws i j (v : Int) := by
          have a1 := cs_all wf ws hi2 j (by omega)
          have a2 := cs_cu rows ws i j (v : Int)
          have a3 : (csL c rows ws i j).sum = sm c.toNat (fun (k : Nat) => cs rows ws i j (k : Int)) := rfl
          omega
        have cb := cu_b hw i (v : Int) j (by omega)
        have cb2 : cu rows ws i j (v : Int) < 2 ^ 70 := Int.lt_of_le_of_lt (Int.le_trans cb.2 (Int.mul_le_mul_of_nonneg_right (show (j : Int) ≤ 24 by omega) (by decide))) (by decide)
        have ag := at_gt (csL c rows ws i j) (k := v) (by rw [csL_len]; exact hvc) rfl
        rw [csL_gt c rows ws i j hvc] at ag
        refine ⟨_, at_gt ws (k := i) (by omega) rfl, _, at_gt ws (k := j) (by omega) rfl, ⟨hb bi.1 bi.2, hb bj.1 bj.2⟩, ?_⟩
        refine ⟨csL c rows ws i j, rfl, _, ag, ?_⟩
        have zs : Sz ((csL c rows ws i j).sum - cs rows ws i j (v : Int)) := by
          rw [hs]
          exact sz_of1 cb.1 (Int.lt_of_lt_of_le cb2 (pw_le (by decide)))
        refine ⟨⟨sz_of1 ml.1 (Int.lt_of_lt_of_le ml.2 (pw_le (by decide))), zs⟩, ?_⟩
        refine ⟨_, ag, _, at_gt ws (k := j) (by omega) rfl, ?_⟩
        refine ⟨v, ?_, ?_⟩
        · unfold ixN
          rw [List.length_map, csL_len, if_pos (by omega), if_pos (by omega)]
          rfl
        refine ⟨?u5, ?u6, ?eq2⟩
        case eq2 =>
          rw [st, lst, List.map_set, ← Int.add_assoc, ← hs]
          rfl
    · rintro ρ ⟨s5, s6, rfl⟩
      rw [rngD_len]
      have en : (((rows.map dints).length : Int)).toNat = rows.length := by omega
      rw [en]
      refine ⟨?t3, ?t4, ?t5, ?t6, ?eq3⟩
      case eq3 =>
        rw [sm_succ]
  · rintro ρ ⟨s3, s4, s5, s6, rfl⟩
    rw [rngD_len]
    have en : (((rows.map dints).length : Int)).toNat = rows.length := by omega
    rw [en]
    rw [corners_eq] at h
    exact h
end K18

set_option Elab.async false
set_option linter.all false
set_option maxRecDepth 100000
set_option maxHeartbeats 1000000
set_option exponentiation.threshold 5000
namespace K18
open PySem L2 Evl PyProof.Rows RZ DL
/-! ### a dict of numbers -/
def kv (ks : List (Int × Int)) : List (Key × PyData) := ks.map fun p => (.inl p.1, .int p.2)
def lko : List (Int × Int) → Int → Option Int
  | [], _ => none
  | (j, v) :: r, k => if j = k then some v else lko r k
def lk (ks : List (Int × Int)) (k : Int) : Int := (lko ks k).getD 0
def rpl (k v : Int) (p : Int × Int) : Int × Int := if p.1 = k then (p.1, v) else p
def pt (ks : List (Int × Int)) (k v : Int) : List (Int × Int) := if (lko ks k).isSome then ks.map (rpl k v) else ks ++ [(k, v)]
theorem atD_kv (k : Int) : ∀ ks : List (Int × Int), atD (kv ks) (.inl k) = (lko ks k).map PyData.int
  | [] => rfl
  | (j, e) :: r => by
    show (if (.inl j : Key) = .inl k then some (PyData.int e) else atD (kv r) (.inl k)) = (if j = k then some e else lko r k).map PyData.int
    by_cases z : j = k
    · rw [if_pos (by rw [z]), if_pos z]
      rfl
    · rw [if_neg (fun q => z (Sum.inl.inj q)), if_neg z, atD_kv k r]
theorem putD_kv (ks : List (Int × Int)) (k v : Int) : putD (kv ks) (.inl k) (.int v) = kv (pt ks k v) := by
  unfold putD pt
  rw [atD_kv, Option.isSome_map]
  cases (lko ks k).isSome with
  | true =>
    rw [if_pos rfl, if_pos rfl]
    unfold kv
    rw [List.map_map, List.map_map]
    refine List.map_congr_left fun p _ => ?_
    show (if (.inl p.1 : Key) = .inl k then ((.inl p.1 : Key), PyData.int v) else (.inl p.1, .int p.2)) = (.inl (rpl k v p).1, .int (rpl k v p).2)
    unfold rpl
    by_cases z : p.1 = k
    · rw [if_pos (by rw [z]), if_pos z]
    · rw [if_neg (fun q => z (Sum.inl.inj q)), if_neg z]
  | false =>
    rw [if_neg (by decide), if_neg (by decide)]
    unfold kv
    rw [List.map_append]
    rfl
theorem lko_app {k v : Int} (k' : Int) : ∀ {ks : List (Int × Int)}, lko ks k = none → lko (ks ++ [(k, v)]) k' = if k' = k then some v else lko ks k'
  | [], _ => by
    show (if k = k' then some v else none) = _
    by_cases z : k' = k
    · rw [if_pos z.symm, if_pos z]
    · rw [if_neg (fun q => z q.symm), if_neg z]
      rfl
  | (j, e) :: r, q => by
    have q : (if j = k then some e else lko r k) = none := q
    have hj : j ≠ k := fun z => by rw [if_pos z] at q; cases q
    rw [if_neg hj] at q
    show (if j = k' then some e else lko (r ++ [(k, v)]) k') = if k' = k then some v else (if j = k' then some e else lko r k')
    rw [lko_app k' q]
    by_cases y : j = k'
    · rw [if_pos y, if_pos y, if_neg (by omega)]
    · rw [if_neg y, if_neg y]
theorem lko_rpl (k v k' : Int) : ∀ ks : List (Int × Int), lko (ks.map (rpl k v)) k' = if k' = k then (lko ks k').map (fun _ => v) else lko ks k'
  | [] => by
    show none = if k' = k then none else none
    rw [ite_self]
  | (j, e) :: r => by
    have e1 : (rpl k v (j, e)).1 = j := by unfold rpl; split <;> rfl
    have e2 : j = k → (rpl k v (j, e)).2 = v := fun z => by unfold rpl; rw [if_pos z]
    have e3 : j ≠ k → (rpl k v (j, e)).2 = e := fun z => by unfold rpl; rw [if_neg z]
    show (if (rpl k v (j, e)).1 = k' then some (rpl k v (j, e)).2 else lko (r.map (rpl k v)) k') = if k' = k then (if j = k' then some e else lko r k').map (fun _ => v) else (if j = k' then some e else lko r k')
    rw [lko_rpl k v k' r, e1]
    by_cases z : j = k'
    · rw [if_pos z, if_pos z]
      by_cases y : k' = k
      · rw [if_pos y, e2 (by omega)]
        rfl
      · rw [if_neg y, e3 (by omega)]
    · rw [if_neg z, if_neg z]
theorem lk_pt (ks : List (Int × Int)) (k v k' : Int) : lk (pt ks k v) k' = if k' = k then v else lk ks k' := by
  unfold lk pt
  cases q : lko ks k with
  | none =>
    rw [if_neg (by decide), lko_app k' q]
    split <;> rfl
  | some w =>
    rw [Option.isSome_some, if_pos rfl, lko_rpl]
    by_cases y : k' = k
    · rw [if_pos y, if_pos y, y, q]
      rfl
    · rw [if_neg y, if_neg y]
def keys (ks : List (Int × Int)) : List Int := ks.map Prod.fst
theorem lko_keys {k : Int} : ∀ {ks : List (Int × Int)}, lko ks k = none ↔ k ∉ keys ks
  | [] => ⟨fun _ h => (nomatch h), fun _ => rfl⟩
  | (j, e) :: r => by
    show (if j = k then some e else lko r k) = none ↔ k ∉ j :: keys r
    rw [List.mem_cons, not_or]
    by_cases z : j = k
    · rw [if_pos z]
      exact ⟨fun h => (nomatch h), fun h => absurd z.symm h.1⟩
    · rw [if_neg z, lko_keys (ks := r)]
      exact ⟨fun h => ⟨fun y => z y.symm, h⟩, fun h => h.2⟩
theorem rpl_keys (k v : Int) (ks : List (Int × Int)) : keys (ks.map (rpl k v)) = keys ks := by
  unfold keys
  rw [List.map_map]
  refine List.map_congr_left fun p _ => ?_
  show (rpl k v p).1 = p.1
  unfold rpl
  split <;> rfl
theorem pt_nodup {ks : List (Int × Int)} (nd : (keys ks).Nodup) (k v : Int) : (keys (pt ks k v)).Nodup := by
  unfold pt
  cases q : lko ks k with
  | none =>
    rw [if_neg (by decide)]
    unfold keys
    rw [List.map_append]
    refine List.nodup_append.mpr ⟨nd, List.pairwise_singleton _ _, fun a ha b hb => ?_⟩
    rw [List.mem_singleton.mp hb]
    exact fun z => lko_keys.mp q (by rw [← show a = k from z]; exact ha)
  | some w =>
    rw [Option.isSome_some, if_pos rfl, rpl_keys]
    exact nd
theorem pt_len (ks : List (Int × Int)) (k v : Int) : (pt ks k v).length ≤ ks.length + 1 := by
  unfold pt
  split
  · rw [List.length_map]; omega
  · rw [List.length_append]; exact Nat.le_refl _
theorem lko_mem {k v : Int} : ∀ {ks : List (Int × Int)}, (keys ks).Nodup → (k, v) ∈ ks → lko ks k = some v
  | [], _, h => nomatch h
  | (j, e) :: r, nd, h => by
    obtain ⟨n1, n2⟩ := List.nodup_cons.mp nd
    show (if j = k then some e else lko r k) = some v
    rcases List.mem_cons.mp h with h | h
    · cases h
      rw [if_pos rfl]
    · rw [if_neg (fun z => n1 (by rw [z]; exact List.mem_map.mpr ⟨_, h, rfl⟩))]
      exact lko_mem n2 h
def sq (ks : List (Int × Int)) : Int := (ks.map fun p => p.2 * p.2).sum
theorem rpl_id {k v : Int} : ∀ {ks : List (Int × Int)}, k ∉ keys ks → ks.map (rpl k v) = ks
  | [], _ => rfl
  | (j, e) :: r, h => by
    have h : k ∉ j :: keys r := h
    rw [List.mem_cons, not_or] at h
    rw [List.map_cons, rpl_id h.2]
    unfold rpl
    rw [if_neg (fun z => h.1 z.symm)]
theorem sq_rpl {k v w : Int} : ∀ {ks : List (Int × Int)}, (keys ks).Nodup → lko ks k = some w → sq (ks.map (rpl k v)) = sq ks - w * w + v * v
  | [], _, h => nomatch h
  | (j, e) :: r, nd, h => by
    obtain ⟨n1, n2⟩ := List.nodup_cons.mp nd
    have h : (if j = k then some e else lko r k) = some w := h
    have c : ∀ p l, sq (p :: l) = p.2 * p.2 + sq l := fun p l => by unfold sq; rw [List.map_cons, List.sum_cons]
    rw [List.map_cons, c, c]
    by_cases z : j = k
    · rw [if_pos z] at h
      have h := Option.some.inj h
      subst h
      rw [rpl_id (by rw [← z]; exact n1)]
      have e2 : (rpl k v (j, e)).2 = v := by unfold rpl; rw [if_pos z]
      rw [e2]
      show v * v + sq r = e * e + sq r - e * e + v * v
      omega
    · rw [if_neg z] at h
      have e2 : (rpl k v (j, e)).2 = e := by unfold rpl; rw [if_neg z]
      rw [sq_rpl n2 h, e2]
      show e * e + _ = e * e + _ - _ + _
      omega
theorem sq_pt {ks : List (Int × Int)} (nd : (keys ks).Nodup) (k v : Int) : sq (pt ks k v) = sq ks - lk ks k * lk ks k + v * v := by
  unfold lk pt
  cases q : lko ks k with
  | none =>
    rw [if_neg (by decide)]
    unfold sq
    rw [List.map_append, List.sum_append]
    show _ + (v * v + 0) = _ - 0 * 0 + _
    omega
  | some w =>
    rw [Option.isSome_some, if_pos rfl]
    exact sq_rpl nd q
/-! ### counts by colour -/
def cn (rows : List (List Int)) (g : Nat) (l : List Nat) (k : Int) : Int := ((l.filter fun x => decide (pc rows g x = k)).length : Nat)
theorem cn_snoc (rows : List (List Int)) (g : Nat) (l : List Nat) (x : Nat) (k : Int) : cn rows g (l ++ [x]) k = cn rows g l k + if pc rows g x = k then 1 else 0 := by
  unfold cn
  rw [List.filter_append, List.filter_cons, List.filter_nil]
  by_cases z : pc rows g x = k
  · rw [if_pos (by simp [z]), if_pos z, List.length_append]
    rfl
  · rw [if_neg (by simp [z]), if_neg z, List.length_append]
    rfl
theorem cn_b (rows : List (List Int)) (g : Nat) (l : List Nat) (k : Int) : 0 ≤ cn rows g l k ∧ cn rows g l k ≤ l.length := by
  unfold cn
  have := List.length_filter_le (fun x => decide (pc rows g x = k)) l
  omega
def oth (n g : Nat) : List Nat := (List.range n).filter fun l => decide (l ≠ g)
theorem oth_len (g : Nat) : ∀ n, g < n → (oth n g).length = n - 1 := by
  have h : ∀ n, (oth n g).length = if g < n then n - 1 else n := fun n => by
    induction n with
    | zero => rfl
    | succ n ih =>
      have e : oth (n + 1) g = oth n g ++ if decide (n ≠ g) = true then [n] else [] := filt_succ _ _
      rw [e, List.length_append, ih]
      by_cases z : n = g
      · rw [decide_eq_false (fun q => q z), if_neg Bool.false_ne_true]
        show (if g < n then n - 1 else n) + 0 = _
        split <;> split <;> omega
      · rw [decide_eq_true z, if_pos rfl]
        show (if g < n then n - 1 else n) + 1 = _
        split <;> split <;> omega
  exact fun n hn => by rw [h n, if_pos hn]
theorem countsL_cn (c : Int) (rows : List (List Int)) (g : Nat) : countsL c rows g = (List.range c.toNat).map fun (k : Nat) => cn rows g (oth rows.length g) (k : Int) := by
  unfold countsL cn oth
  refine List.map_congr_left fun k _ => ?_
  rw [List.filter_filter]
  congr 3
  funext l
  exact Bool.and_comm _ _
theorem sm_one {C : Nat} {f h : Nat → Int} {v d : Int} (h0 : 0 ≤ v) (h1 : v < (C : Int)) (e : ∀ k : Nat, f k = h k + if v = (k : Int) then d else 0) : sm C f = sm C h + d := by
  rw [sm_congr fun k _ => e k, sm_add, sm_pick d C h0 h1]
def In (c : Int) (rows : List (List Int)) (g : Nat) (l : List Nat) : Prop := ∀ x ∈ l, 0 ≤ pc rows g x ∧ pc rows g x < c
theorem cn_tot {c : Int} {rows : List (List Int)} {g : Nat} : ∀ {l : List Nat}, In c rows g l → sm c.toNat (fun (k : Nat) => cn rows g l (k : Int)) = (l.length : Nat)
  | [], _ => sm_all0 fun _ _ => rfl
  | x :: r, h => by
    have p := h x List.mem_cons_self
    have ih := cn_tot fun y hy => h y (List.mem_cons_of_mem _ hy)
    rw [sm_one (h := fun (k : Nat) => cn rows g r (k : Int)) (v := pc rows g x) (d := 1) p.1 (by omega), ih, List.length_cons]
    · omega
    · intro k
      unfold cn
      rw [List.filter_cons]
      by_cases z : pc rows g x = (k : Int)
      · rw [if_pos (by simp [z]), if_pos z, List.length_cons]
        rfl
      · rw [if_neg (by simp [z]), if_neg z, Int.add_zero]
def cq (c : Int) (rows : List (List Int)) (g : Nat) (l : List Nat) : Int := sm c.toNat fun (k : Nat) => cn rows g l (k : Int) * cn rows g l (k : Int)
theorem cq_snoc {c : Int} {rows : List (List Int)} {g x : Nat} (l : List Nat) (h0 : 0 ≤ pc rows g x) (h1 : pc rows g x < c) : cq c rows g (l ++ [x]) = cq c rows g l + (2 * cn rows g l (pc rows g x) + 1) := by
  unfold cq
  refine sm_one (v := pc rows g x) h0 (by omega) fun k => ?_
  rw [cn_snoc]
  by_cases z : pc rows g x = (k : Int)
  · rw [if_pos z, if_pos z, z, Int.add_mul, Int.mul_add, Int.mul_one, Int.one_mul]
    omega
  · rw [if_neg z, if_neg z, Int.add_zero, Int.add_zero]
theorem oth_in {c : Int} {rows : List (List Int)} (wf : WF c rows) {g : Nat} (hg : g < rows.length) : In c rows g (oth rows.length g) := fun x hx => by
  obtain ⟨h1, h2⟩ := List.mem_filter.mp hx
  exact wf.pc hg (List.mem_range.mp h1) (fun z => of_decide_eq_true h2 z.symm)
theorem unlike_eq {c : Int} {rows : List (List Int)} (wf : WF c rows) {g : Nat} (hg : g < rows.length) : unlike c rows g = (((rows.length : Int) - 1) * ((rows.length : Int) - 1) - cq c rows g (oth rows.length g)) / 2 := by
  unfold unlike
  have e1 : (countsL c rows g).sum = (rows.length : Int) - 1 := by
    rw [countsL_cn]
    have t := cn_tot (oth_in wf hg)
    rw [oth_len g _ hg] at t
    refine Eq.trans t ?_
    omega
  have e2 : ((countsL c rows g).map fun x => x * x).sum = cq c rows g (oth rows.length g) := by
    rw [countsL_cn, List.map_map]
    rfl
  rw [e1, e2]
structure Kc (c : Int) (rows : List (List Int)) (g : Nat) (l : List Nat) (ks : List (Int × Int)) : Prop where
  nd : (keys ks).Nodup
  len : ks.length ≤ l.length
  lk : ∀ k, lk ks k = cn rows g l k
  sq : sq ks = cq c rows g l
theorem Kc.nil (c : Int) (rows : List (List Int)) (g : Nat) : Kc c rows g [] [] := ⟨List.nodup_nil, Nat.le_refl _, fun _ => rfl, by
  have z : cq c rows g [] = 0 := sm_all0 fun _ _ => rfl
  rw [z]
  rfl⟩
theorem Kc.put {c : Int} {rows : List (List Int)} {g : Nat} {l : List Nat} {ks : List (Int × Int)} (h : Kc c rows g l ks) {x : Nat} (h0 : 0 ≤ pc rows g x) (h1 : pc rows g x < c) : Kc c rows g (l ++ [x]) (pt ks (pc rows g x) (K18.lk ks (pc rows g x) + 1)) where
  nd := pt_nodup h.nd _ _
  len := by
    have := pt_len ks (pc rows g x) (K18.lk ks (pc rows g x) + 1)
    have := h.len
    rw [List.length_append]
    show _ ≤ l.length + 1
    omega
  lk := fun k => by
    rw [lk_pt, cn_snoc, h.lk, h.lk]
    by_cases z : k = pc rows g x
    · rw [if_pos z, if_pos z.symm, z]
    · rw [if_neg z, if_neg (fun y => z y.symm), Int.add_zero]
  sq := by
    rw [sq_pt h.nd, cq_snoc l h0 h1, h.sq, h.lk, Int.add_mul, Int.mul_add, Int.mul_one, Int.one_mul]
    omega
end K18

set_option Elab.async false
set_option linter.all false
set_option maxRecDepth 100000
set_option maxHeartbeats 1000000
set_option exponentiation.threshold 5000
namespace K18
open PySem L2 Evl PyProof.Rows RZ DL
theorem getD_kv (ks : List (Int × Int)) (k : Int) : (atD (kv ks) (.inl k)).getD (.int 0) = .int (lk ks k) := by
  rw [atD_kv]
  unfold lk
  cases lko ks k <;> rfl
theorem kv_len (ks : List (Int × Int)) : (kv ks).length = ks.length := List.length_map _
theorem kv_snd (ks : List (Int × Int)) : (kv ks).map (·.2) = ks.map fun p => PyData.int p.2 := by
  unfold kv
  rw [List.map_map]
  rfl
theorem take_map_snoc {α β : Type} {l : List α} {i : Nat} {p : α} (f : α → β) (h : l[i]? = some p) : (l.take (i + 1)).map f = (l.take i).map f ++ [f p] := by
  rw [take_at h, List.map_append]
  rfl
theorem mlen_unlike_corners : ∀ xs Q, m_unlike_corners xs Q → xs.length = ps_unlike_corners.length := fun _ _ ⟨_, _, ⟨e, _⟩, _⟩ => by rw [e]; rfl
theorem math_unlike_corners : ∀ xs Q, m_unlike_corners xs Q → bd_unlike_corners { nx := fun _ => False, rt := fun n d _ => n = true ∧ Q d } (startR nm_unlike_corners xs) := fun xs Q ⟨c, rows, ⟨e, wf⟩, h⟩ => by
  subst e
  have wl := wf.len
  have hn : (rows.map dints).length = rows.length := List.length_map _
  have hz : ∀ {x : Int}, 0 ≤ x → x < 2 ^ 60 → Sz x := fun h0 h1 => sz_of1 h0 (Int.lt_of_lt_of_le h1 (pw_le (by decide)))
  refine ⟨c, rows, ⟨rfl, wf⟩, ?_⟩
  refine ⟨_, rfl, by decide, ?_⟩
  refine ⟨by omega, by omega, fun i ρ => ∃ s3 s4 s5 s6 s7, ρ = [.val (pD c rows), .val (.int ((rows.map dints).length : Int)), .own (((List.range i).map fun g => unlike c rows g).map .int), s3, s4, s5, s6, s7, .no], ⟨.no, .no, .no, .no, .no, rfl⟩, ?_, ?_⟩
  · rintro i x ρ hi ⟨s3, s4, s5, s6, s7, rfl⟩
    obtain ⟨hi1, rfl⟩ := rngD_at hi
    have hi2 : i < rows.length := by omega
    rw [Int.zero_add]
    refine ⟨by omega, by omega, fun k ρ acc => ρ = [.val (pD c rows), .val (.int ((rows.map dints).length : Int)), .own (((List.range i).map fun g => unlike c rows g).map .int), .val (.int (i : Int)), .dic (kv []), .no, s6, s7, .no] ∧ acc = (oth k i).map natD, ⟨rfl, rfl⟩, ?_, ?_⟩
    · rintro k x ρ acc hk ⟨rfl, rfl⟩
      obtain ⟨hk1, rfl⟩ := rngD_at hk
      refine ⟨⟨rfl, rfl⟩, ?_⟩
      rw [eqv_int, show (0 + (k : Int)) = (k : Int) by omega]
      have e : oth (k + 1) i = oth k i ++ if decide (k ≠ i) = true then [k] else [] := filt_succ _ _
      have fl : (oth k i).length ≤ k := filt_len _ _
      by_cases z : k = i
      · rw [decide_eq_true (by omega)]
        refine ⟨rfl, ?_⟩
        rw [e, if_neg (by simp [z]), List.append_nil]
      · rw [decide_eq_false (by omega)]
        refine ⟨by rw [List.length_map]; omega, rfl, ?_⟩
        rw [e, if_pos (by simp [z]), List.map_append]
        rfl
    · rintro ρ acc ⟨rfl, rfl⟩
      rw [rngD_len]
      have en : (((rows.map dints).length : Int)).toNat = rows.length := by omega
      rw [en]
      have ol := oth_len i rows.length hi2
      refine ⟨fun j ρ => ∃ ks s5 s6, ρ = [.val (pD c rows), .val (.int ((rows.map dints).length : Int)), .own (((List.range i).map fun g => unlike c rows g).map .int), .val (.int (i : Int)), .dic (kv ks), s5, s6, s7, .no] ∧ Kc c rows i ((oth rows.length i).take j) ks, ⟨[], .no, s6, rfl, Kc.nil _ _ _⟩, ?_, ?_⟩
      · rintro j x ρ hj ⟨ks, s5, s6, rfl, kc⟩
        obtain ⟨l, hl, rfl⟩ := map_at hj
        have ml := List.mem_of_getElem? hl
        obtain ⟨l1, l2⟩ := List.mem_filter.mp ml
        have l1 := List.mem_range.mp l1
        have l2 : i ≠ l := fun z => of_decide_eq_true l2 z.symm
        have p := wf.pc hi2 l1 l2
        have kl := kc.len
        have tl : ((oth rows.length i).take j).length ≤ (oth rows.length i).length := by rw [List.length_take]; omega
        refine ⟨c, rows, i, l, ⟨rfl, wf⟩, hi2, l1, l2, ?_⟩
        refine ⟨.inl (pc rows i l), rfl, ?_⟩
        rw [getD_kv]
        refine ⟨.inl (pc rows i l), rfl, by rw [kv_len]; omega, ?_⟩
        refine ⟨pt ks (pc rows i l) (lk ks (pc rows i l) + 1), .val (.int (l : Int)), .val (.int (pc rows i l)), ?_, ?_⟩
        · rw [← putD_kv]
          rfl
        · rw [take_at hl]
          exact kc.put p.1 p.2
      · rintro ρ ⟨ks, s5, s6, rfl, kc⟩
        rw [List.length_map, List.take_length] at kc
        have kl := kc.len
        have w0 : max (((rows.map dints).length : Int) - 1) 0 = (rows.length : Int) - 1 := by omega
        have wz : Sz (max (((rows.map dints).length : Int) - 1) 0) := by rw [w0]; exact hz (by omega) (by omega)
        refine ⟨⟨wz, wz⟩, ?_⟩
        refine ⟨fun k ρ acc => ρ = [.val (pD c rows), .val (.int ((rows.map dints).length : Int)), .own (((List.range i).map fun g => unlike c rows g).map .int), .val (.int (i : Int)), .no, s5, s6, .val (.int (max (((rows.map dints).length : Int) - 1) 0)), .no] ∧ acc = ((ks.take k).map fun p => p.2 * p.2).map .int, ⟨rfl, rfl⟩, ?_, ?_⟩
        · rintro k x ρ acc hk ⟨rfl, rfl⟩
          rw [kv_snd] at hk
          obtain ⟨⟨a, v⟩, ha, rfl⟩ := map_at hk
          have hv : v = cn rows i (oth rows.length i) a := by
            rw [← kc.lk]
            unfold lk
            rw [lko_mem kc.nd (List.mem_of_getElem? ha)]
            rfl
          have cb := cn_b rows i (oth rows.length i) a
          rw [← hv] at cb
          have vz : Sz v := hz cb.1 (by omega)
          refine ⟨⟨vz, vz⟩, ?_⟩
          refine ⟨by rw [List.length_map, List.length_map, List.length_take]; omega, rfl, ?_⟩
          rw [take_map_snoc _ ha, List.map_append]
          rfl
        · rintro ρ acc ⟨rfl, rfl⟩
          have e5 : ks.take ((kv ks).map (·.2)).length = ks := by rw [List.length_map, kv_len, List.take_length]
          rw [e5]
          refine ⟨rfl, _, rfl, ?_⟩
          refine ⟨⟨by decide, hz (by decide) (by decide)⟩, ?_⟩
          refine ⟨by rw [List.length_map, List.length_map, List.length_range]; omega, ?_⟩
          refine ⟨?t3, ?t4, ?t5, ?t6, ?t7, ?eq4⟩
          case eq4 =>
            have ue := unlike_eq wf hi2
            rw [← kc.sq, ← w0] at ue
            rw [List.range_succ, List.map_append, List.map_append]
            show (_ : List Sl) = [Sl.val (pD c rows), Sl.val (.int ((rows.map dints).length : Int)), Sl.own (((List.range i).map fun g => unlike c rows g).map .int ++ [.int (unlike c rows i)]), _, _, _, _, _, _]
            rw [ue]
            rfl
  · rintro ρ ⟨s3, s4, s5, s6, s7, rfl⟩
    rw [rngD_len]
    have en : (((rows.map dints).length : Int)).toNat = rows.length := by omega
    rw [en]
    unfold unlikeD at h
    rw [List.map_map]
    exact ⟨rfl, h⟩
end K18

set_option Elab.async false
set_option linter.all false
set_option maxRecDepth 100000
set_option maxHeartbeats 1000000
set_option exponentiation.threshold 5000
namespace K18
open PySem L2 Evl PyProof.Rows RZ DL
theorem cs_cn (rows : List (List Int)) (g : Nat) (k : Int) {n : Nat} : ∀ j, j ≤ n → cs rows (List.replicate n 1) g j k = cn rows g (oth j g) k
  | 0, _ => rfl
  | j + 1, h => by
    have e : oth (j + 1) g = oth j g ++ if decide (j ≠ g) = true then [j] else [] := filt_succ _ _
    have e2 : cs rows (List.replicate n 1) g (j + 1) k = cs rows (List.replicate n 1) g j k + if j ≠ g ∧ pc rows g j = k then gt (List.replicate n 1) j else 0 := sm_succ _ _
    rw [e2, cs_cn rows g k j (by omega), e, gt_ones (by omega)]
    by_cases z : j = g
    · rw [decide_eq_false (fun q => q z), if_neg Bool.false_ne_true, if_neg (fun q => q.1 z), List.append_nil, Int.add_zero]
    · rw [decide_eq_true z, if_pos rfl, cn_snoc]
      by_cases y : pc rows g j = k
      · rw [if_pos ⟨z, y⟩, if_pos y]
      · rw [if_neg (fun q => y q.2), if_neg y]
theorem sq_cf {c : Int} {rows : List (List Int)} (wf : WF c rows) {g : Nat} (hg : g < rows.length) : ∀ j, j ≤ rows.length → ((oth j g).length : Int) * ((oth j g).length : Int) - cq c rows g (oth j g) = 2 * p2 j (cf rows (List.replicate rows.length 1) g)
  | 0, _ => by
    have z : cq c rows g (oth 0 g) = 0 := sm_all0 fun _ _ => rfl
    rw [z]
    rfl
  | j + 1, h => by
    have ih := sq_cf wf hg j (by omega)
    have e : oth (j + 1) g = oth j g ++ if decide (j ≠ g) = true then [j] else [] := filt_succ _ _
    by_cases z : j = g
    · rw [decide_eq_false (fun q => q z), if_neg Bool.false_ne_true, List.append_nil] at e
      rw [e, ih, z, cf_self]
    · rw [decide_eq_true z, if_pos rfl] at e
      have p := wf.pc hg (show j < rows.length by omega) (fun q => z q.symm)
      have t1 := cs_all wf (List.replicate rows.length 1) hg j (by omega)
      have t2 := cs_cu rows (List.replicate rows.length 1) g j (pc rows g j)
      have t3 : sm c.toNat (fun (k : Nat) => cs rows (List.replicate rows.length 1) g j (k : Int)) = sm c.toNat (fun (k : Nat) => cn rows g (oth j g) (k : Int)) := sm_congr fun k _ => cs_cn rows g _ j (by omega)
      have t4 : In c rows g (oth j g) := fun x hx => by
        obtain ⟨h1, h2⟩ := List.mem_filter.mp hx
        have h1 := List.mem_range.mp h1
        exact wf.pc hg (by omega) (fun z => of_decide_eq_true h2 z.symm)
      have t5 := cn_tot t4
      have t6 := cs_cn rows g (pc rows g j) (n := rows.length) j (by omega)
      rw [e, List.length_append, cq_snoc _ p.1 p.2, cf_step rows _ z, gt_ones hg, gt_ones (by omega)]
      have u : cn rows g (oth j g) (pc rows g j) + cu rows (List.replicate rows.length 1) g j (pc rows g j) = ((oth j g).length : Int) := by omega
      have v : (((oth j g).length + 1 : Nat) : Int) * (((oth j g).length + 1 : Nat) : Int) = ((oth j g).length : Int) * ((oth j g).length : Int) + 2 * ((oth j g).length : Int) + 1 := by
        rw [Int.natCast_add, Int.add_mul, Int.mul_add, Int.mul_add]
        omega
      show (((oth j g).length + 1 : Nat) : Int) * (((oth j g).length + 1 : Nat) : Int) - _ = _
      rw [v]
      omega
theorem unlike_p2 {c : Int} {rows : List (List Int)} (wf : WF c rows) {g : Nat} (hg : g < rows.length) : unlike c rows g = p2 rows.length (cf rows (List.replicate rows.length 1) g) := by
  have h := sq_cf wf hg rows.length (Nat.le_refl _)
  rw [oth_len g _ hg] at h
  rw [unlike_eq wf hg]
  have e : ((rows.length - 1 : Nat) : Int) = (rows.length : Int) - 1 := by omega
  rw [e] at h
  omega
/-- what the law asks of the unlike corners together -/
theorem unlike_sum {c : Int} {rows : List (List Int)} (wf : WF c rows) : sm rows.length (unlike c rows) = 2 * wk rows (List.replicate rows.length 1) 2 + 3 * wk rows (List.replicate rows.length 1) 3 := by
  have h := corners_eq rows (List.replicate rows.length 1)
  rw [sm_congr fun g hg => unlike_p2 wf hg]
  exact h.symm
end K18

set_option Elab.async false
set_option linter.all false
set_option maxRecDepth 100000
set_option maxHeartbeats 1000000
set_option exponentiation.threshold 5000
namespace K18
open PySem L2 Evl PyProof.Rows RZ DL
theorem fit_party (n : Nat) {c : Int} {rows : List (List Int)} (wf : WF c rows) : fitD (n + 4) (pD c rows) = true := fit_tuple (by decide : 2 ≤ 100000) fun d hd => by
  have wl := wf.len
  rcases List.mem_cons.mp hd with rfl | hd
  · exact fit_int _ _
  · rw [List.mem_singleton.mp hd]
    refine fit_list (by rw [List.length_map]; omega) fun e he => ?_
    obtain ⟨r, hr, rfl⟩ := List.mem_map.mp he
    obtain ⟨i, hi⟩ := List.getElem?_of_mem hr
    have := (wf.row i r hi).1
    have := (List.getElem?_eq_some_iff.mp hi).1
    exact fit_dints n (by omega)
theorem rb_dints {cs : List Int} {k : Nat} (h : ∀ x ∈ cs, 0 ≤ x ∧ x < 2 ^ 60) (hl : cs.length ≤ k) : Rb (dints cs) (k * 42 + 3) := by
  have b : Rb (dints cs) ((cs.map PyData.int).length * 40 + 2 * (cs.map PyData.int).length + 3) := Rb.list fun d hd => by
    obtain ⟨x, hx, rfl⟩ := List.mem_map.mp hd
    have := h x hx
    exact Rb.int (by omega)
  rw [List.length_map] at b
  exact b.mono (by omega)
theorem rb_party {c : Int} {rows : List (List Int)} (wf : WF c rows) : Rb (pD c rows) 100000 := by
  have wl := wf.len
  have wp := wf.pos
  have wq := wf.few
  have b1 : Rb (.list (rows.map dints)) ((rows.map dints).length * 1011 + 2 * (rows.map dints).length + 3) := Rb.list fun d hd => by
    obtain ⟨r, hr, rfl⟩ := List.mem_map.mp hd
    obtain ⟨i, hi⟩ := List.getElem?_of_mem hr
    have h1 := wf.row i r hi
    have h2 := (List.getElem?_eq_some_iff.mp hi).1
    exact rb_dints (k := 24) (fun x hx => by have := h1.2 x hx; omega) (by omega)
  rw [List.length_map] at b1
  have b2 := b1.mono (show rows.length * 1011 + 2 * rows.length + 3 ≤ 30000 by omega)
  have b3 : Rb (pD c rows) ([PyData.int c, PyData.list (rows.map dints)].length * 30000 + 2 * [PyData.int c, PyData.list (rows.map dints)].length + 3) := Rb.tuple fun d hd => by
    rcases List.mem_cons.mp hd with rfl | hd
    · exact (Rb.int (by omega)).mono (by decide)
    · rw [List.mem_singleton.mp hd]
      exact b2
  exact b3.mono (by show 2 * 30000 + 2 * 2 + 3 ≤ 100000; decide)
theorem repr_party {c : Int} {rows : List (List Int)} (wf : WF c rows) : (pD c rows).showable = true ∧ (pD c rows).hasDict = false ∧ (pD c rows).depth ≤ 60 ∧ (pD c rows).shown.length ≤ sizeLine := by
  have f := fit_lay 4 (pD c rows) (fit_party 0 wf)
  have b := rb_party wf
  exact ⟨b.sh, PyData.hasDict_of_canLay _ f.1, by have := f.2; omega, by rw [size_line]; exact Nat.le_trans b.len (by decide)⟩
theorem inert_t3s : ∀ l : List (Nat × Nat × Nat), inertAll (l.map t3D) = true
  | [] => rfl
  | p :: r => by
    show (inert (t3D p) && inertAll (r.map t3D)) = true
    rw [inert_t3s r]
    rfl
theorem inert_ints : ∀ l : List Int, inertAll (l.map PyData.int) = true
  | [] => rfl
  | p :: r => by
    show (true && inertAll (r.map PyData.int)) = true
    rw [inert_ints r]
    rfl
theorem unlikeD_eq (c : Int) (rows : List (List Int)) : unlikeD c rows = dints ((List.range rows.length).map (unlike c rows)) := by
  unfold unlikeD dints
  rw [List.map_map]
  rfl
theorem countsL_sum {c : Int} {rows : List (List Int)} (wf : WF c rows) {g : Nat} (hg : g < rows.length) : (countsL c rows g).sum = (rows.length : Int) - 1 := by
  rw [countsL_cn]
  have t := cn_tot (oth_in wf hg)
  rw [oth_len g _ hg] at t
  refine Eq.trans t ?_
  omega
theorem countsL_b {c : Int} {rows : List (List Int)} {g : Nat} {x : Int} (h : x ∈ countsL c rows g) : 0 ≤ x ∧ x ≤ rows.length := by
  rw [countsL_cn] at h
  obtain ⟨k, _, rfl⟩ := List.mem_map.mp h
  have b := cn_b rows g (oth rows.length g) (k : Int)
  have l : (oth rows.length g).length ≤ rows.length := filt_len _ _
  omega
theorem countsL_len (c : Int) (rows : List (List Int)) (g : Nat) : (countsL c rows g).length = c.toNat := by unfold countsL; rw [List.length_map, List.length_range]
theorem rep1 (rows : List (List Int)) : PyData.list (repD ((rows.map dints).length : Int).toNat [.int 1]) = dints (List.replicate rows.length 1) := by
  rw [rep_int, List.length_map, Int.toNat_natCast]
  rfl
theorem at_nats (nm : List Nat) {z : Int} {k : Nat} (h : k < nm.length) (e : z = (k : Int)) : atI (nm.map natD) z = some (natD (nm.getD k 0)) := by
  subst e
  unfold atI ixN
  rw [List.length_map, if_pos (by omega), if_pos (by omega)]
  show (nm.map natD)[(k : Int).toNat]? = _
  rw [Int.toNat_natCast, List.getElem?_map]
  rw [List.getD_eq_getElem?_getD, List.getElem?_eq_getElem h]
  rfl
theorem ws_ones (rows : List (List Int)) : Ws rows (List.replicate rows.length 1) := ⟨List.length_replicate, fun x hx => by rw [(List.mem_replicate.mp hx).2]; decide⟩
theorem wD_named {rows : List (List Int)} {ws vs : List Int} {nm : List Nat} (hp : nm.Perm (List.range rows.length)) (hv : ∀ i, i < nm.length → gt vs i = gt ws (nm.getD i 0)) : wD (named rows nm) vs = wD rows ws := by
  unfold wD
  rw [wk_named rows ws vs nm 1 hp hv, wk_named rows ws vs nm 2 hp hv, wk_named rows ws vs nm 3 hp hv]
theorem nm_lt {n : Nat} {nm : List Nat} (hp : nm.Perm (List.range n)) {i : Nat} (h : i < nm.length) : nm.getD i 0 < n := by
  rw [List.getD_eq_getElem?_getD, List.getElem?_eq_getElem h]
  exact List.mem_range.mp (hp.mem_iff.mp (List.getElem_mem h))
/-- the weights in the order of the names -/
def late (ws : List Int) (nm : List Nat) : List Int := nm.map (gt ws)
theorem late_gt (ws : List Int) (nm : List Nat) {i : Nat} (h : i < nm.length) : gt (late ws nm) i = gt ws (nm.getD i 0) := by
  unfold late
  show ((nm.map (gt ws)).getD i 0) = _
  rw [List.getD_eq_getElem?_getD, List.getElem?_map, List.getElem?_eq_getElem h, List.getD_eq_getElem?_getD, List.getElem?_eq_getElem h]
  rfl
theorem late_ws {rows : List (List Int)} {ws : List Int} {nm : List Nat} (hw : Ws rows ws) (hp : nm.Perm (List.range rows.length)) : Ws (named rows nm) (late ws nm) := ⟨by unfold late; rw [List.length_map, named_len], fun x hx => by
  unfold late at hx
  obtain ⟨i, hi, rfl⟩ := List.mem_map.mp hx
  have := List.mem_range.mp (hp.mem_iff.mp hi)
  exact hw.2 _ (gt_mem (by rw [hw.1]; exact this))⟩
theorem ones_named {rows : List (List Int)} {nm : List Nat} (hp : nm.Perm (List.range rows.length)) : wD (named rows nm) (List.replicate (named rows nm).length 1) = wD rows (List.replicate rows.length 1) := wD_named hp fun i hi => by
  rw [gt_ones (by rw [named_len]; exact hi), gt_ones (nm_lt hp hi)]
theorem wk_sz {rows : List (List Int)} {ws : List Int} (hw : Ws rows ws) (hl : rows.length ≤ 24) {k : Nat} (hk : k = 1 ∨ k = 2 ∨ k = 3) : Sz (wk rows ws k) := by
  have t := wk_e3 rows ws
  have n1 := wk_nn hw 1
  have n2 := wk_nn hw 2
  have n3 := wk_nn hw 3
  have h1 := hw.1
  have b := e3_b hw (by omega) rows.length (by omega)
  have b2 : e3 ws rows.length < 2 ^ 200 := Int.lt_of_le_of_lt (Int.le_trans b.2 (Int.mul_le_mul_of_nonneg_right (show (rows.length : Int) ≤ 24 by omega) (by decide))) (by decide)
  have b3 : wk rows ws k < 2 ^ 200 := by rcases hk with rfl | rfl | rfl <;> omega
  exact sz_of1 (wk_nn hw k) (Int.lt_of_lt_of_le b3 (pw_le (by decide)))
theorem cut5 (l : List Nat) : cutD (l.map natD) none (some 5) = (l.take 5).map natD := by
  show cutD (l.map natD) none (some ((5 : Nat) : Int)) = _
  unfold DL.cutD
  rw [HT.sIx_nat, HT.sIx_none, List.drop_zero, List.length_map, Nat.sub_zero, ← List.map_take]
  congr 1
  by_cases h : l.length ≤ 5
  · rw [List.take_of_length_le h, List.take_of_length_le (by omega)]
  · rw [Nat.min_eq_left (by omega)]
theorem all_isI (ns : List Int) : (ns.map PyData.int).all isI = true := by
  rw [List.all_map, List.all_eq_true]
  exact fun _ _ => rfl
theorem unB_pur (ns : List Int) : unB (.pur (ns.map .int)) = .pur (ns.map .int) := by
  show (if (ns.map PyData.int).all isI = true then Sl.pur _ else .no) = _
  rw [all_isI, if_pos rfl]
theorem mapl_at {α β : Type} {f : α → β} {l : List α} {i : Nat} {x : β} (h : (l.map f)[i]? = some x) : ∃ a, l[i]? = some a ∧ x = f a := by
  rw [List.getElem?_map] at h
  cases q : l[i]? with
  | none => rw [q] at h; cases h
  | some a => rw [q] at h; cases h; exact ⟨a, rfl, rfl⟩
end K18

set_option Elab.async false
set_option linter.all false
set_option maxRecDepth 100000
set_option maxHeartbeats 1000000
set_option exponentiation.threshold 5000
namespace K18
open PySem L2 Evl PyProof.Rows RZ DL
def unlD (c : Int) (rows : List (List Int)) : PyData := dints ((List.range rows.length).map (unlike c rows))
def cntsD (c : Int) (rows : List (List Int)) : PyData := .list (((List.range rows.length).map (countsL c rows)).map dints)
theorem sz60 {x : Int} (h0 : 0 ≤ x) (h1 : x < 2 ^ 60) : Sz x := sz_of1 h0 (Int.lt_of_lt_of_le h1 (pw_le (by decide)))
theorem mlen__law_is_right : ∀ qs xs Q, m__law_is_right qs xs Q → xs.length + 1 = ps__law_is_right.length := fun _ _ _ ⟨_, _, _, _, _, ⟨e, _⟩, _⟩ => by rw [e]; rfl
theorem math__law_is_right : ∀ qs xs Q, m__law_is_right qs xs Q → bd__law_is_right { nx := fun ρ => pur0 ρ (Q .none), rt := fun _ d ρ => pur0 ρ (Q d) } (startP nm__law_is_right qs xs) := fun qs xs Q ⟨n, ns, c, rows, e1, ⟨e2, wf⟩, pu, hn, h⟩ => by
  subst e1 e2
  have wl := wf.len
  have wp := wf.pos
  have wq := wf.few
  have hN : (rows.map dints).length = rows.length := List.length_map _
  have hb : ∀ {x : Int}, 0 ≤ x → x < 2 ^ 60 → Sz x := sz60
  have rp := repr_party wf
  refine ⟨_, rfl, ?_⟩
  refine ⟨rp.1, rp.2.1, rp.2.2.1, rp.2.2.2, ?_⟩
  refine ⟨c, rows, ⟨rfl, wf⟩, ?_⟩
  refine ⟨by omega, by omega, fun i ρ acc => ρ = [.pur (ns.map .int), .val (pD c rows), .val (.int ((rows.map dints).length : Int)), .val (.str (pD c rows).shown), .val (onesD rows), .no, .no, .no, .no, .no, .no, .no, .no, .no, .no, .no, .no, .no, .no, .no, .no, .no] ∧ acc = ((List.range i).map (countsL c rows)).map dints, ⟨rfl, rfl⟩, ?_, ?_⟩
  · rintro i x ρ acc hi ⟨rfl, rfl⟩
    obtain ⟨hi1, rfl⟩ := rngD_at hi
    have hi2 : i < rows.length := by omega
    rw [Int.zero_add]
    refine ⟨c, rows, i, ⟨rfl, wf⟩, hi2, ?_⟩
    refine ⟨by rw [List.length_map, List.length_map, List.length_range]; omega, rfl, ?_⟩
    rw [List.range_succ, List.map_append, List.map_append]
    rfl
  rintro ρ acc ⟨rfl, rfl⟩
  rw [rngD_len]
  have en : (((rows.map dints).length : Int)).toNat = rows.length := by omega
  rw [en]
  refine ⟨fun i ρ acc => ρ = [.pur (ns.map .int), .val (pD c rows), .val (.int ((rows.map dints).length : Int)), .val (.str (pD c rows).shown), .val (onesD rows), .val (cntsD c rows), .no, .no, .no, .no, .no, .no, .no, .no, .no, .no, .no, .no, .no, .no, .no, .no] ∧ acc = ((List.range i).map (unlike c rows)).map .int, ⟨rfl, rfl⟩, ?_, ?_⟩
  · rintro i x ρ acc hi ⟨rfl, rfl⟩
    obtain ⟨l, hl, rfl⟩ := map_at hi
    obtain ⟨g, hg, rfl⟩ := mapl_at hl
    obtain ⟨hg1, hg2⟩ := List.getElem?_eq_some_iff.mp hg
    rw [List.getElem_range] at hg2
    rw [List.length_range] at hg1
    subst hg2
    have cs1 := countsL_sum wf hg1
    have zs : Sz (countsL c rows i).sum := by
      rw [cs1]
      exact hb (by omega) (by omega)
    refine ⟨countsL c rows i, rfl, countsL c rows i, rfl, ⟨zs, zs⟩, ?_⟩
    refine ⟨fun k ρ acc => ρ = [.pur (ns.map .int), .val (pD c rows), .val (.int ((rows.map dints).length : Int)), .val (.str (pD c rows).shown), .val (onesD rows), .val (cntsD c rows), .no, .no, .no, .no, .no, .no, .no, .no, .no, .no, .no, .no, .no, .val (dints (countsL c rows i)), .no, .no] ∧ acc = (((countsL c rows i).take k).map fun x => x * x).map .int, ⟨rfl, rfl⟩, ?_, ?_⟩
    · rintro k x ρ acc hk ⟨rfl, rfl⟩
      obtain ⟨y, hy, rfl⟩ := map_at hk
      have yb := countsL_b (List.mem_of_getElem? hy)
      have yz : Sz y := hb yb.1 (by omega)
      have ll := (List.getElem?_eq_some_iff.mp hy).1
      rw [countsL_len] at ll
      refine ⟨⟨yz, yz⟩, ?_⟩
      refine ⟨by rw [List.length_map, List.length_map, List.length_take, countsL_len]; omega, rfl, ?_⟩
      rw [take_map_snoc _ hy, List.map_append]
      rfl
    rintro ρ acc ⟨rfl, rfl⟩
    have e5 : (countsL c rows i).take ((countsL c rows i).map PyData.int).length = countsL c rows i := by rw [List.length_map, List.take_length]
    rw [e5]
    refine ⟨_, rfl, ⟨by decide, hb (by decide) (by decide)⟩, ?_⟩
    refine ⟨by rw [List.length_map, List.length_map, List.length_range]; omega, rfl, ?_⟩
    rw [List.range_succ, List.map_append, List.map_append]
    rfl
  rintro ρ acc ⟨rfl, rfl⟩
  have e6 : ((List.range (((List.range rows.length).map (countsL c rows)).map dints).length).map (unlike c rows)).map PyData.int = ((List.range rows.length).map (unlike c rows)).map PyData.int := by
    rw [List.length_map, List.length_map, List.length_range]
  rw [e6]
  refine ⟨c, rows, ⟨rfl, wf⟩, ⟨_, rfl, inert_t3s _⟩, ?_⟩
  refine ⟨rfl, rfl, c, rows, ⟨rfl, wf⟩, ?_⟩
  rw [unlikeD_eq]
  refine ⟨⟨_, rfl, inert_ints _⟩, ?_⟩
  refine ⟨c, rows, ⟨rfl, wf⟩, rfl, (by decide : 3 ≤ 100000), ?_⟩
  have w1 := ws_ones rows
  refine ⟨(by decide : 1 ≤ 100000), ⟨by omega, by omega, by show 1 * _ ≤ 100000; omega⟩, ?_⟩
  refine ⟨c, rows, List.replicate rows.length 1, ⟨congrArg (fun z => [pD c rows, z, onesD rows]) (rep1 rows), wf⟩, w1, ?_⟩
  refine ⟨(by decide : 3 ≤ 100000), ?_⟩
  have fo : ∀ n, fitD (n + 3) (onesD rows) = true := fun n => fit_ones n wl
  have fw : ∀ n (ws : List Int), fitD (n + 2) (wD rows ws) = true := fun n ws => fit_tuple (by decide : 3 ≤ 100000) fun d hd => by
    rcases List.mem_cons.mp hd with rfl | hd
    · exact fit_int _ _
    · rcases List.mem_cons.mp hd with rfl | hd
      · exact fit_int _ _
      · rw [List.mem_singleton.mp hd]
        exact fit_int _ _
  have fu : ∀ n, fitD (n + 2) (unlD c rows) = true := fun n => fit_dints n (by rw [List.length_map, List.length_range]; omega)
  refine ⟨.list [onesD rows, unlD c rows, wD rows (List.replicate rows.length 1)], rfl, fit_list (by decide : 3 ≤ 100000) fun d hd => ?_, ?_⟩
  · rcases List.mem_cons.mp hd with rfl | hd
    · exact fo 4
    · rcases List.mem_cons.mp hd with rfl | hd
      · exact fu 5
      · rw [List.mem_singleton.mp hd]
        exact fw 5 _
  refine ⟨(List.range rows.length).map (unlike c rows), rfl, ?_⟩
  refine ⟨_, rfl, _, rfl, ⟨hb (by decide) (by decide), wk_sz w1 wl (.inr (.inl rfl))⟩, ?_⟩
  refine ⟨_, rfl, _, rfl, ⟨hb (by decide) (by decide), wk_sz w1 wl (.inr (.inr rfl))⟩, ?_⟩
  refine ⟨⟨rfl, rfl⟩, ?_⟩
  rw [eqv_int, decide_eq_true (show ((List.range rows.length).map (unlike c rows)).sum = _ from unlike_sum wf)]
  refine ⟨⟨by decide, by decide⟩, ⟨by decide, by decide⟩, (by decide : 4 ≤ 100000), ?_⟩
  refine ⟨n, ns, [2, 100, 10 ^ (6 : Int).toNat, 10 ^ (12 : Int).toNat], rfl, rfl, pu, by omega, (fun z => nomatch z), by decide, fun top ms1 ht pu1 => ?_⟩
  have tb : 0 < top ∧ top < 2 ^ 50 := by
    rcases List.mem_cons.mp ht with rfl | ht
    · decide
    · rcases List.mem_cons.mp ht with rfl | ht
      · decide
      · rcases List.mem_cons.mp ht with rfl | ht
        · decide
        · rw [List.mem_singleton.mp ht]
          decide
  refine ⟨by omega, by omega, fun i ρ acc => ∃ ms, ρ = [.pur (ms.map .int), .bas (pD c rows), .bas (.int ((rows.map dints).length : Int)), .bas (.str (pD c rows).shown), .bas (onesD rows), .bas (cntsD c rows), .bas (unlD c rows), .tld (.list [onesD rows, unlD c rows, wD rows (List.replicate rows.length 1)]), .val (.int top), .no, .no, .no, .no, .no, .no, .no, .no, .no, .no, .no, .no, .no] ∧ PuOk (n + 100 + i * 200) ms ∧ Bld (fun x => 0 ≤ x ∧ x < 2 ^ 60) i acc, ⟨ms1, rfl, pu_mono pu1 (by omega), Bld.nil _⟩, ?_, ?_⟩
  · rintro i x ρ acc hi ⟨ms, rfl, pu2, bl⟩
    obtain ⟨hi1, rfl⟩ := rngD_at hi
    have hi2 : i < rows.length := by omega
    refine ⟨_, ms, top, rfl, rfl, pu2, by omega, ⟨tb.1, Int.lt_of_lt_of_le tb.2 (pw_le (by decide))⟩, fun d ms3 d0 d1 pu3 => ?_⟩
    refine ⟨_, ms3, 6, rfl, rfl, pu3, by omega, ⟨by decide, small (by decide)⟩, fun d2 ms4 d2a d2b pu4 => ?_⟩
    have bz : ∀ b : Bool, 0 ≤ (if b then (1 : Int) else 0) ∧ (if b then (1 : Int) else 0) ≤ 1 := fun b => by cases b <;> decide
    have b1 := bz (decide (0 < d2))
    refine ⟨⟨hb d0 (by omega), hb b1.1 (by omega)⟩, ?_⟩
    refine ⟨by rw [bl.len]; omega, ms4, rfl, pu_mono pu4 (by omega), bl.snoc ?_⟩
    cases decide (0 < d2) with
    | true =>
      show 0 ≤ d * 1 ∧ d * 1 < 2 ^ 60
      rw [Int.mul_one]
      omega
    | false =>
      show 0 ≤ d * 0 ∧ d * 0 < 2 ^ 60
      rw [Int.mul_zero]
      decide
  rintro ρ acc ⟨ms2, rfl, pu2, ws, rfl, wsl, wsb⟩
  rw [rngD_len, en] at wsl pu2
  have hw : Ws rows ws := ⟨wsl, wsb⟩
  refine ⟨rfl, rfl, c, rows, ws, ⟨rfl, wf⟩, hw, ?_⟩
  refine ⟨c, rows, ws, ⟨rfl, wf⟩, hw, ?_⟩
  refine ⟨wD rows ws, rfl, fw 6 ws, ?_⟩
  refine ⟨_, rfl, by omega, by omega, ?_⟩
  refine ⟨_, ms2, List.range rows.length, rfl, ?_, pu2, by omega, by rw [List.length_range]; omega, fun nm ms5 hp pu5 => ?_⟩
  · rw [en, rng_nats]
    rfl
  have hl : nm.length = rows.length := by rw [hp.length_eq, List.length_range]
  have nd : nm.Nodup := hp.nodup_iff.mpr List.nodup_range
  refine ⟨c, rows, nm, ⟨rfl, wf⟩, hp, ?_⟩
  refine ⟨fun i ρ acc => ρ = [.pur (ms5.map .int), .bas (pD c rows), .bas (.int ((rows.map dints).length : Int)), .bas (.str (pD c rows).shown), .bas (onesD rows), .bas (cntsD c rows), .bas (unlD c rows), .tld (.list [onesD rows, unlD c rows, wD rows (List.replicate rows.length 1)]), .val (.int top), .val (dints ws), .val (natsD nm), .no, .no, .no, .no, .no, .no, .no, .no, .no, .no, .no] ∧ acc = ((nm.take i).map (gt ws)).map .int, ⟨rfl, rfl⟩, ?_, ?_⟩
  · rintro i x ρ acc hi ⟨rfl, rfl⟩
    obtain ⟨g, hg, rfl⟩ := map_at hi
    have hg2 := List.mem_range.mp (hp.mem_iff.mp (List.mem_of_getElem? hg))
    refine ⟨_, at_gt ws (k := g) (by omega) rfl, ?_⟩
    refine ⟨by rw [List.length_map, List.length_map, List.length_take]; omega, rfl, ?_⟩
    rw [take_map_snoc _ hg, List.map_append]
    rfl
  rintro ρ acc ⟨rfl, rfl⟩
  have e7 : ((nm.take (nm.map fun (i : Nat) => PyData.int (i : Int)).length).map (gt ws)).map PyData.int = (late ws nm).map .int := by
    rw [List.length_map, List.take_length]
    rfl
  rw [e7]
  have wn := named_wf wf hp
  refine ⟨c, named rows nm, ⟨rfl, wn⟩, ?_⟩
  refine ⟨c, named rows nm, late ws nm, ⟨rfl, wn⟩, late_ws hw hp, ?_⟩
  rw [ones_named hp, wD_named hp (fun i hi => late_gt ws nm hi)]
  refine ⟨(by decide : 2 ≤ 100000), ?_⟩
  refine ⟨_, rfl, ?_⟩
  refine ⟨c, rows, ws, ⟨rfl, wf⟩, hw, (by decide : 2 ≤ 100000), ?_⟩
  refine ⟨.list [wD rows (List.replicate rows.length 1), wD rows ws], rfl, fit_list (by decide : 2 ≤ 100000) fun d hd => ?_, ?_⟩
  · rcases List.mem_cons.mp hd with rfl | hd
    · exact fw 5 _
    · rw [List.mem_singleton.mp hd]
      exact fw 5 _
  refine ⟨by decide, by decide, fun i ρ => ∃ s13 s14 s15 s16 s17, ρ = [.pur (ms5.map .int), .bas (pD c rows), .bas (.int ((rows.map dints).length : Int)), .bas (.str (pD c rows).shown), .bas (onesD rows), .bas (cntsD c rows), .bas (unlD c rows), .tld (.list [onesD rows, unlD c rows, wD rows (List.replicate rows.length 1)]), .val (.int top), .val (dints ws), .val (natsD nm), .val (pD c (named rows nm)), .val (dints (late ws nm)), s13, s14, s15, s16, s17, .no, .no, .no, .no], ⟨.no, .no, .no, .no, .no, rfl⟩, ?_, ?_⟩
  · rintro i x ρ hi ⟨s13, s14, s15, s16, s17, rfl⟩
    obtain ⟨hi1, rfl⟩ := rngD_at hi
    show (match (decide ((1 : Int) < ((rows.map dints).length : Int))) with | true => _ | false => _)
    by_cases m1 : 1 < rows.length
    · rw [decide_eq_true (by omega)]
      have h0 : 0 < rows.length := by omega
      have q1 := Nat.mod_lt i h0
      have q2 := Nat.mod_lt (i + 1) h0
      have q3 : i % rows.length ≠ (i + 1) % rows.length := fun e => by
        have z := Nat.sub_mod_eq_zero_of_mod_eq e.symm
        rw [Nat.add_sub_cancel_left, Nat.mod_eq_of_lt m1] at z
        cases z
      have hab := nm_inj nd (by omega) (by omega) q3
      have ha := nm_lt hp (i := i % rows.length) (by omega)
      have hb2 := nm_lt hp (i := (i + 1) % rows.length) (by omega)
      refine ⟨by omega, _, at_nats nm (k := i % rows.length) (by omega) (by rw [hN, Int.zero_add]; exact (Int.natCast_emod i rows.length).symm), by omega, _, at_nats nm (k := (i + 1) % rows.length) (by omega) (by rw [hN, Int.zero_add]; exact (Int.natCast_emod (i + 1) rows.length).symm), (by decide : 2 ≤ 100000), ?_⟩
      generalize nm.getD (i % rows.length) 0 = a at hab ha ⊢
      generalize nm.getD ((i + 1) % rows.length) 0 = b at hab hb2 ⊢
      refine ⟨c, rows, a, b, ⟨rfl, wf⟩, ha, hb2, hab, ?_⟩
      refine ⟨by omega, by omega, fun k ρ acc => ρ = [.pur (ms5.map .int), .bas (pD c rows), .bas (.int ((rows.map dints).length : Int)), .bas (.str (pD c rows).shown), .bas (onesD rows), .bas (cntsD c rows), .bas (unlD c rows), .tld (.list [onesD rows, unlD c rows, wD rows (List.replicate rows.length 1)]), .val (.int top), .val (dints ws), .val (natsD nm), .val (pD c (named rows nm)), .val (dints (late ws nm)), .val (.int (0 + (i : Int))), .val (.int (a : Int)), .val (.int (b : Int)), .val (.int (pc rows a b)), s17, .no, .no, .no, .no] ∧ acc = ((List.range k).filter fun l => decide (l ≠ a ∧ l ≠ b) && (decide (pc rows a l = pc rows a b) && decide (pc rows b l = pc rows a b))).map natD, ⟨rfl, rfl⟩, ?_, ?_⟩
      · rintro k x ρ acc hk ⟨rfl, rfl⟩
        obtain ⟨hk1, rfl⟩ := rngD_at hk
        have hk2 : k < rows.length := by omega
        have fl := filt_len (fun l => decide (l ≠ a ∧ l ≠ b) && (decide (pc rows a l = pc rows a b) && decide (pc rows b l = pc rows a b))) k
        have fs := filt_succ (fun l => decide (l ≠ a ∧ l ≠ b) && (decide (pc rows a l = pc rows a b) && decide (pc rows b l = pc rows a b))) k
        have yes : (decide (k ≠ a ∧ k ≠ b) && (decide (pc rows a k = pc rows a b) && decide (pc rows b k = pc rows a b))) = true → ((List.range (k + 1)).filter fun l => decide (l ≠ a ∧ l ≠ b) && (decide (pc rows a l = pc rows a b) && decide (pc rows b l = pc rows a b))).map natD = ((List.range k).filter fun l => decide (l ≠ a ∧ l ≠ b) && (decide (pc rows a l = pc rows a b) && decide (pc rows b l = pc rows a b))).map natD ++ [.int (k : Int)] := fun z => by
          rw [fs, if_pos z, List.map_append]
          rfl
        have no : (decide (k ≠ a ∧ k ≠ b) && (decide (pc rows a k = pc rows a b) && decide (pc rows b k = pc rows a b))) = false → ((List.range (k + 1)).filter fun l => decide (l ≠ a ∧ l ≠ b) && (decide (pc rows a l = pc rows a b) && decide (pc rows b l = pc rows a b))).map natD = ((List.range k).filter fun l => decide (l ≠ a ∧ l ≠ b) && (decide (pc rows a l = pc rows a b) && decide (pc rows b l = pc rows a b))).map natD := fun z => by
          rw [fs, if_neg (by rw [z]; exact Bool.false_ne_true), List.append_nil]
        rw [Int.zero_add]
        refine ⟨(by decide : 2 ≤ 100000), ⟨rfl, rfl⟩, ?_⟩
        show (match (!inD (.int (k : Int)) [.int (a : Int), .int (b : Int)]) with | true => _ | false => _)
        rw [inD_two]
        by_cases z : k = a ∨ k = b
        · rw [← Bool.decide_or, decide_eq_true (by omega)]
          refine ⟨rfl, ?_⟩
          exact (no (by rw [decide_eq_false (by omega)]; rfl)).symm
        · rw [← Bool.decide_or, decide_eq_false (by omega)]
          refine ⟨c, rows, a, k, ⟨rfl, wf⟩, ha, hk2, by omega, ?_⟩
          refine ⟨⟨rfl, rfl⟩, ?_⟩
          rw [eqv_int]
          by_cases y1 : pc rows a k = pc rows a b
          · rw [decide_eq_true y1]
            refine ⟨c, rows, b, k, ⟨rfl, wf⟩, hb2, hk2, by omega, ?_⟩
            refine ⟨⟨rfl, rfl⟩, ?_⟩
            rw [eqv_int]
            by_cases y2 : pc rows b k = pc rows a b
            · rw [decide_eq_true y2]
              refine ⟨by rw [List.length_map]; omega, rfl, ?_⟩
              exact (yes (by rw [decide_eq_true (by omega), decide_eq_true y1, decide_eq_true y2]; rfl)).symm
            · rw [decide_eq_false y2]
              refine ⟨rfl, ?_⟩
              exact (no (by rw [decide_eq_false y2, Bool.and_false, Bool.and_false])).symm
          · rw [decide_eq_false y1]
            refine ⟨rfl, ?_⟩
            exact (no (by rw [decide_eq_false y1, Bool.false_and, Bool.and_false])).symm
      · rintro ρ acc ⟨rfl, rfl⟩
        rw [rngD_len, en]
        have fl := filt_len (fun l => decide (l ≠ a ∧ l ≠ b) && (decide (pc rows a l = pc rows a b) && decide (pc rows b l = pc rows a b))) rows.length
        refine ⟨rfl, rfl, c, rows, a, b, ⟨rfl, wf⟩, ha, hb2, hab, ?_⟩
        refine ⟨_, rfl, fit_list (n := 7) (by rw [List.length_map]; omega) fun d hd => ?_, ?_⟩
        · obtain ⟨l, _, rfl⟩ := List.mem_map.mp hd
          exact fit_int _ _
        · exact ⟨_, _, _, _, _, rfl⟩
    · rw [decide_eq_false (by omega)]
      exact ⟨_, _, _, _, _, rfl⟩
  rintro ρ ⟨s13, s14, s15, s16, s17, rfl⟩
  refine ⟨fun i ρ => ∃ s18, ρ = [.pur (ms5.map .int), .bas (pD c rows), .bas (.int ((rows.map dints).length : Int)), .bas (.str (pD c rows).shown), .bas (onesD rows), .bas (cntsD c rows), .bas (unlD c rows), .tld (.list [onesD rows, unlD c rows, wD rows (List.replicate rows.length 1)]), .val (.int top), .val (dints ws), .val (natsD nm), .val (pD c (named rows nm)), .val (dints (late ws nm)), s13, s14, s15, s16, s17, s18, .no, .no, .no], ⟨.no, rfl⟩, ?_, ?_⟩
  · rintro i x ρ hi ⟨s18, rfl⟩
    have hi2 : (cutD (nm.map natD) none (some 5))[i]? = some x := hi
    rw [cut5] at hi2
    obtain ⟨g, hg, rfl⟩ := map_at hi2
    have hg2 : g < rows.length := List.mem_range.mp (hp.mem_iff.mp (List.mem_of_mem_take (List.mem_of_getElem? hg)))
    refine ⟨c, rows, g, ⟨rfl, wf⟩, hg2, ?_⟩
    refine ⟨c, rows, g, ⟨rfl, wf⟩, hg2, ?_⟩
    exact ⟨_, rfl⟩
  rintro ρ ⟨s18, rfl⟩
  refine ⟨_, _, rfl, ?_, ?_⟩
  · have h1 := List.length_filter_le (fun t => decide (kind rows t = 1)) (trips rows.length)
    have h2 := trips_len rows.length wl
    rw [List.length_map]
    unfold onesL
    omega
  have eB : ([.pur (ms5.map .int), .bas (pD c rows), .bas (.int ((rows.map dints).length : Int)), .bas (.str (pD c rows).shown), .bas (onesD rows), .bas (cntsD c rows), .bas (unlD c rows), .tld (.list [onesD rows, unlD c rows, wD rows (List.replicate rows.length 1)]), .val (.int top), .val (dints ws), .val (natsD nm), .val (pD c (named rows nm)), .val (dints (late ws nm)), s13, s14, s15, s16, s17, s18, .no, .no, .no] : List Sl).map unB = [.pur (ms5.map .int), .val (pD c rows), .val (.int ((rows.map dints).length : Int)), .val (.str (pD c rows).shown), .val (onesD rows), .val (cntsD c rows), .val (unlD c rows), .no, .no, .no, .no, .no, .no, unB s13, unB s14, unB s15, unB s16, unB s17, unB s18, .no, .no, .no] := by
    rw [List.map_cons, unB_pur]
    rfl
  rw [eB]
  have sb := (rb_party wf).shaped
  refine ⟨c, rows, ⟨rfl, wf⟩, ?_⟩
  refine ⟨onesD rows, rfl, fo 5, ?_⟩
  refine ⟨rp.1, rp.2.1, rp.2.2.1, rp.2.2.2, ⟨sb, sb⟩, ?_⟩
  have es : PyData.eqv (.str (pD c rows).shown) (.str (pD c rows).shown) = true := by simp [PyData.eqv]
  show Q (.bool (PyData.eqv (.str (pD c rows).shown) (.str (pD c rows).shown))) (ms5.map .int)
  rw [es]
  exact h ms5 (pu_mono pu5 (by omega))
end K18

set_option Elab.async false
set_option linter.all false
set_option maxRecDepth 100000
set_option maxHeartbeats 1000000
set_option exponentiation.threshold 5000
namespace K18
open PySem L2 Evl PyProof.Rows RZ DL
theorem math_law {K : PySem.W.Frag} : ∀ ns : List Int, ns.length ≤ 63 → (∀ z ∈ ns, Builtin.Int.intBits z ≤ 1048576) → sd_law K (startS K nm_law ns []) fun d _ => dLaw 2 1 (bd_law K) d := fun ns hl _ => by
  refine ⟨rfl, hl, 2, rfl, ⟨by decide, by decide⟩, fun pss hp lp => ?_⟩
  refine ⟨fun t ns => PuOk (t * 2000000) ns, pss, rfl, fun ms hms => pu_mono (hp ms hms) (Nat.zero_le _), fun t ms h => ⟨?_, pu_mono h (by omega)⟩, fun t ms ht h => ?_⟩
  · obtain ⟨a, b, c, d, rfl, _⟩ := h
    exact fun z => nomatch z
  · have h : PuOk (t * 2000000) ms := h
    refine ⟨t * 2000000, ms, rfl, rfl, h, by omega, fun c rows ms2 wf pu2 => ?_⟩
    refine ⟨t * 2000000 + 900000, ms2, c, rows, rfl, ⟨rfl, wf⟩, pu2, by omega, fun ms3 pu3 => ?_⟩
    exact ⟨rfl, ms3, rfl, pu_mono pu3 (by omega)⟩
end K18

set_option Elab.async false
set_option linter.all false
set_option maxRecDepth 100000
set_option maxHeartbeats 1000000
namespace K18
open PySem L2 Evl PyProof.Rows RZ DL
def topS (i : Nat) : Stmt := PySem.Challenge.pw_boundtobe_k18_whole_triples_of_twenty_fo.main.body.getD i (.Pass ⟨0, 0, 0, 0⟩)
abbrev s_is_whole : Stmt := topS 1
theorem sc_is_whole : FnScope nm_is_whole ps_is_whole (defScope s_is_whole) := ⟨rfl, rfl, rfl, by decide +kernel, rfl, by decide +kernel, by decide +kernel⟩
abbrev s_is_count : Stmt := topS 2
theorem sc_is_count : FnScope nm_is_count ps_is_count (defScope s_is_count) := ⟨rfl, rfl, rfl, by decide +kernel, rfl, by decide +kernel, by decide +kernel⟩
abbrev s_is_tuple_of : Stmt := topS 3
theorem sc_is_tuple_of : FnScope nm_is_tuple_of ps_is_tuple_of (defScope s_is_tuple_of) := ⟨rfl, rfl, rfl, by decide +kernel, rfl, by decide +kernel, by decide +kernel⟩
abbrev s_is_row : Stmt := topS 10
theorem sc_is_row : FnScope nm_is_row ps_is_row (defScope s_is_row) := ⟨rfl, rfl, rfl, by decide +kernel, rfl, by decide +kernel, by decide +kernel⟩
abbrev s_is_party : Stmt := topS 11
theorem sc_is_party : FnScope nm_is_party ps_is_party (defScope s_is_party) := ⟨rfl, rfl, rfl, by decide +kernel, rfl, by decide +kernel, by decide +kernel⟩
abbrev s_check_party : Stmt := topS 12
theorem sc_check_party : FnScope nm_check_party ps_check_party (defScope s_check_party) := ⟨rfl, rfl, rfl, by decide +kernel, rfl, by decide +kernel, by decide +kernel⟩
abbrev s_is_guest : Stmt := topS 13
theorem sc_is_guest : FnScope nm_is_guest ps_is_guest (defScope s_is_guest) := ⟨rfl, rfl, rfl, by decide +kernel, rfl, by decide +kernel, by decide +kernel⟩
abbrev s_check_guest : Stmt := topS 14
theorem sc_check_guest : FnScope nm_check_guest ps_check_guest (defScope s_check_guest) := ⟨rfl, rfl, rfl, by decide +kernel, rfl, by decide +kernel, by decide +kernel⟩
abbrev s_colour_there : Stmt := topS 15
theorem sc_colour_there : FnScope nm_colour_there ps_colour_there (defScope s_colour_there) := ⟨rfl, rfl, rfl, by decide +kernel, rfl, by decide +kernel, by decide +kernel⟩
abbrev s_check_pair : Stmt := topS 16
theorem sc_check_pair : FnScope nm_check_pair ps_check_pair (defScope s_check_pair) := ⟨rfl, rfl, rfl, by decide +kernel, rfl, by decide +kernel, by decide +kernel⟩
abbrev s_partners_there : Stmt := topS 17
theorem sc_partners_there : FnScope nm_partners_there ps_partners_there (defScope s_partners_there) := ⟨rfl, rfl, rfl, by decide +kernel, rfl, by decide +kernel, by decide +kernel⟩
abbrev s_colours_of : Stmt := topS 21
theorem sc_colours_of : FnScope nm_colours_of ps_colours_of (defScope s_colours_of) := ⟨rfl, rfl, rfl, by decide +kernel, rfl, by decide +kernel, by decide +kernel⟩
abbrev s_triples_of : Stmt := topS 22
theorem sc_triples_of : FnScope nm_triples_of ps_triples_of (defScope s_triples_of) := ⟨rfl, rfl, rfl, by decide +kernel, rfl, by decide +kernel, by decide +kernel⟩
abbrev s_triple_counts : Stmt := topS 23
theorem sc_triple_counts : FnScope nm_triple_counts ps_triple_counts (defScope s_triple_counts) := ⟨rfl, rfl, rfl, by decide +kernel, rfl, by decide +kernel, by decide +kernel⟩
abbrev s_ones_there : Stmt := topS 24
theorem sc_ones_there : FnScope nm_ones_there ps_ones_there (defScope s_ones_there) := ⟨rfl, rfl, rfl, by decide +kernel, rfl, by decide +kernel, by decide +kernel⟩
abbrev s_ones_of : Stmt := topS 25
theorem sc_ones_of : FnScope nm_ones_of ps_ones_of (defScope s_ones_of) := ⟨rfl, rfl, rfl, by decide +kernel, rfl, by decide +kernel, by decide +kernel⟩
abbrev s_closers : Stmt := topS 26
theorem sc_closers : FnScope nm_closers ps_closers (defScope s_closers) := ⟨rfl, rfl, rfl, by decide +kernel, rfl, by decide +kernel, by decide +kernel⟩
abbrev s_unlike_corners : Stmt := topS 27
theorem sc_unlike_corners : FnScope nm_unlike_corners ps_unlike_corners (defScope s_unlike_corners) := ⟨rfl, rfl, rfl, by decide +kernel, rfl, by decide +kernel, by decide +kernel⟩
abbrev s_triple_at : Stmt := topS 28
theorem sc_triple_at : FnScope nm_triple_at ps_triple_at (defScope s_triple_at) := ⟨rfl, rfl, rfl, by decide +kernel, rfl, by decide +kernel, by decide +kernel⟩
abbrev s_weighed_triples : Stmt := topS 30
theorem sc_weighed_triples : FnScope nm_weighed_triples ps_weighed_triples (defScope s_weighed_triples) := ⟨rfl, rfl, rfl, by decide +kernel, rfl, by decide +kernel, by decide +kernel⟩
abbrev s__law_purse : Stmt := topS 32
theorem sc__law_purse : FnScope nm__law_purse ps__law_purse (defScope s__law_purse) := ⟨rfl, rfl, rfl, by decide +kernel, rfl, by decide +kernel, by decide +kernel⟩
abbrev s__law_mixed : Stmt := topS 33
theorem sc__law_mixed : FnScope nm__law_mixed ps__law_mixed (defScope s__law_mixed) := ⟨rfl, rfl, rfl, by decide +kernel, rfl, by decide +kernel, by decide +kernel⟩
abbrev s__law_draw : Stmt := topS 34
theorem sc__law_draw : FnScope nm__law_draw ps__law_draw (defScope s__law_draw) := ⟨rfl, rfl, rfl, by decide +kernel, rfl, by decide +kernel, by decide +kernel⟩
abbrev s__law_one_of : Stmt := topS 35
theorem sc__law_one_of : FnScope nm__law_one_of ps__law_one_of (defScope s__law_one_of) := ⟨rfl, rfl, rfl, by decide +kernel, rfl, by decide +kernel, by decide +kernel⟩
abbrev s__law_purses : Stmt := topS 36
theorem sc__law_purses : FnScope nm__law_purses ps__law_purses (defScope s__law_purses) := ⟨rfl, rfl, rfl, by decide +kernel, rfl, by decide +kernel, by decide +kernel⟩
abbrev s__law_shuffled : Stmt := topS 37
theorem sc__law_shuffled : FnScope nm__law_shuffled ps__law_shuffled (defScope s__law_shuffled) := ⟨rfl, rfl, rfl, by decide +kernel, rfl, by decide +kernel, by decide +kernel⟩
abbrev s__law_same : Stmt := topS 38
theorem sc__law_same : FnScope nm__law_same ps__law_same (defScope s__law_same) := ⟨rfl, rfl, rfl, by decide +kernel, rfl, by decide +kernel, by decide +kernel⟩
abbrev s__law_chain : Stmt := topS 39
theorem sc__law_chain : FnScope nm__law_chain ps__law_chain (defScope s__law_chain) := ⟨rfl, rfl, rfl, by decide +kernel, rfl, by decide +kernel, by decide +kernel⟩
abbrev s__law_colour : Stmt := topS 40
theorem sc__law_colour : FnScope nm__law_colour ps__law_colour (defScope s__law_colour) := ⟨rfl, rfl, rfl, by decide +kernel, rfl, by decide +kernel, by decide +kernel⟩
abbrev s__law_named : Stmt := topS 41
theorem sc__law_named : FnScope nm__law_named ps__law_named (defScope s__law_named) := ⟨rfl, rfl, rfl, by decide +kernel, rfl, by decide +kernel, by decide +kernel⟩
abbrev s__law_is_crowd : Stmt := topS 42
theorem sc__law_is_crowd : FnScope nm__law_is_crowd ps__law_is_crowd (defScope s__law_is_crowd) := ⟨rfl, rfl, rfl, by decide +kernel, rfl, by decide +kernel, by decide +kernel⟩
abbrev s__law_party : Stmt := topS 43
theorem sc__law_party : FnScope nm__law_party ps__law_party (defScope s__law_party) := ⟨rfl, rfl, rfl, by decide +kernel, rfl, by decide +kernel, by decide +kernel⟩
abbrev s__law_counts : Stmt := topS 44
theorem sc__law_counts : FnScope nm__law_counts ps__law_counts (defScope s__law_counts) := ⟨rfl, rfl, rfl, by decide +kernel, rfl, by decide +kernel, by decide +kernel⟩
abbrev s__law_ones : Stmt := topS 45
theorem sc__law_ones : FnScope nm__law_ones ps__law_ones (defScope s__law_ones) := ⟨rfl, rfl, rfl, by decide +kernel, rfl, by decide +kernel, by decide +kernel⟩
abbrev s__law_corners : Stmt := topS 46
theorem sc__law_corners : FnScope nm__law_corners ps__law_corners (defScope s__law_corners) := ⟨rfl, rfl, rfl, by decide +kernel, rfl, by decide +kernel, by decide +kernel⟩
abbrev s__law_weighed : Stmt := topS 47
theorem sc__law_weighed : FnScope nm__law_weighed ps__law_weighed (defScope s__law_weighed) := ⟨rfl, rfl, rfl, by decide +kernel, rfl, by decide +kernel, by decide +kernel⟩
abbrev s__law_is_right : Stmt := topS 48
theorem sc__law_is_right : FnScope nm__law_is_right ps__law_is_right (defScope s__law_is_right) := ⟨rfl, rfl, rfl, by decide +kernel, rfl, by decide +kernel, by decide +kernel⟩
abbrev s__law_fits : Stmt := topS 49
theorem sc__law_fits : FnScope nm__law_fits ps__law_fits (defScope s__law_fits) := ⟨rfl, rfl, rfl, by decide +kernel, rfl, by decide +kernel, by decide +kernel⟩
abbrev s__law_triple_right : Stmt := topS 50
theorem sc__law_triple_right : FnScope nm__law_triple_right ps__law_triple_right (defScope s__law_triple_right) := ⟨rfl, rfl, rfl, by decide +kernel, rfl, by decide +kernel, by decide +kernel⟩
abbrev s_law : Stmt := topS 51
theorem sc_law : FnScope nm_law ps_law (defScope s_law) := ⟨rfl, rfl, rfl, by decide +kernel, rfl, by decide +kernel, by decide +kernel⟩
/-- what the top has left: the defs at A, their objects D; the names that are still built in -/
structure Txt (K : PySem.W.Frag) (mg : Str → Option Value) (A : Nat → Addr) (D : Nat → FuncData) : Prop where
  fun_1 : FunD K "is_whole" "is_whole" (defArgs s_is_whole) (defBody s_is_whole) (defScope s_is_whole) [] [] (A 1) (D 1)
  g_1 : mg "is_whole" = some (.ref (A 1))
  fun_2 : FunD K "is_count" "is_count" (defArgs s_is_count) (defBody s_is_count) (defScope s_is_count) [V.int 0] [] (A 2) (D 2)
  g_2 : mg "is_count" = some (.ref (A 2))
  fun_3 : FunD K "is_tuple_of" "is_tuple_of" (defArgs s_is_tuple_of) (defBody s_is_tuple_of) (defScope s_is_tuple_of) [] [] (A 3) (D 3)
  g_3 : mg "is_tuple_of" = some (.ref (A 3))
  fun_10 : FunD K "is_row" "is_row" (defArgs s_is_row) (defBody s_is_row) (defScope s_is_row) [] [] (A 10) (D 10)
  g_10 : mg "is_row" = some (.ref (A 10))
  fun_11 : FunD K "is_party" "is_party" (defArgs s_is_party) (defBody s_is_party) (defScope s_is_party) [] [] (A 11) (D 11)
  g_11 : mg "is_party" = some (.ref (A 11))
  fun_12 : FunD K "check_party" "check_party" (defArgs s_check_party) (defBody s_check_party) (defScope s_check_party) [] [] (A 12) (D 12)
  g_12 : mg "check_party" = some (.ref (A 12))
  fun_13 : FunD K "is_guest" "is_guest" (defArgs s_is_guest) (defBody s_is_guest) (defScope s_is_guest) [] [] (A 13) (D 13)
  g_13 : mg "is_guest" = some (.ref (A 13))
  fun_14 : FunD K "check_guest" "check_guest" (defArgs s_check_guest) (defBody s_check_guest) (defScope s_check_guest) [] [] (A 14) (D 14)
  g_14 : mg "check_guest" = some (.ref (A 14))
  fun_15 : FunD K "colour_there" "colour_there" (defArgs s_colour_there) (defBody s_colour_there) (defScope s_colour_there) [] [] (A 15) (D 15)
  g_15 : mg "colour_there" = some (.ref (A 15))
  fun_16 : FunD K "check_pair" "check_pair" (defArgs s_check_pair) (defBody s_check_pair) (defScope s_check_pair) [] [] (A 16) (D 16)
  g_16 : mg "check_pair" = some (.ref (A 16))
  fun_17 : FunD K "partners_there" "partners_there" (defArgs s_partners_there) (defBody s_partners_there) (defScope s_partners_there) [] [] (A 17) (D 17)
  g_17 : mg "partners_there" = some (.ref (A 17))
  fun_21 : FunD K "colours_of" "colours_of" (defArgs s_colours_of) (defBody s_colours_of) (defScope s_colours_of) [] [] (A 21) (D 21)
  g_21 : mg "colours_of" = some (.ref (A 21))
  fun_22 : FunD K "triples_of" "triples_of" (defArgs s_triples_of) (defBody s_triples_of) (defScope s_triples_of) [] [] (A 22) (D 22)
  g_22 : mg "triples_of" = some (.ref (A 22))
  fun_23 : FunD K "triple_counts" "triple_counts" (defArgs s_triple_counts) (defBody s_triple_counts) (defScope s_triple_counts) [] [] (A 23) (D 23)
  g_23 : mg "triple_counts" = some (.ref (A 23))
  fun_24 : FunD K "ones_there" "ones_there" (defArgs s_ones_there) (defBody s_ones_there) (defScope s_ones_there) [] [] (A 24) (D 24)
  g_24 : mg "ones_there" = some (.ref (A 24))
  fun_25 : FunD K "ones_of" "ones_of" (defArgs s_ones_of) (defBody s_ones_of) (defScope s_ones_of) [] [] (A 25) (D 25)
  g_25 : mg "ones_of" = some (.ref (A 25))
  fun_26 : FunD K "closers" "closers" (defArgs s_closers) (defBody s_closers) (defScope s_closers) [] [] (A 26) (D 26)
  g_26 : mg "closers" = some (.ref (A 26))
  fun_27 : FunD K "unlike_corners" "unlike_corners" (defArgs s_unlike_corners) (defBody s_unlike_corners) (defScope s_unlike_corners) [] [] (A 27) (D 27)
  g_27 : mg "unlike_corners" = some (.ref (A 27))
  fun_28 : FunD K "triple_at" "triple_at" (defArgs s_triple_at) (defBody s_triple_at) (defScope s_triple_at) [] [] (A 28) (D 28)
  g_28 : mg "triple_at" = some (.ref (A 28))
  fun_30 : FunD K "weighed_triples" "weighed_triples" (defArgs s_weighed_triples) (defBody s_weighed_triples) (defScope s_weighed_triples) [] [] (A 30) (D 30)
  g_30 : mg "weighed_triples" = some (.ref (A 30))
  fun_32 : FunD K "_law_purse" "_law_purse" (defArgs s__law_purse) (defBody s__law_purse) (defScope s__law_purse) [] [] (A 32) (D 32)
  g_32 : mg "_law_purse" = some (.ref (A 32))
  fun_33 : FunD K "_law_mixed" "_law_mixed" (defArgs s__law_mixed) (defBody s__law_mixed) (defScope s__law_mixed) [] [] (A 33) (D 33)
  g_33 : mg "_law_mixed" = some (.ref (A 33))
  fun_34 : FunD K "_law_draw" "_law_draw" (defArgs s__law_draw) (defBody s__law_draw) (defScope s__law_draw) [] [] (A 34) (D 34)
  g_34 : mg "_law_draw" = some (.ref (A 34))
  fun_35 : FunD K "_law_one_of" "_law_one_of" (defArgs s__law_one_of) (defBody s__law_one_of) (defScope s__law_one_of) [] [] (A 35) (D 35)
  g_35 : mg "_law_one_of" = some (.ref (A 35))
  fun_36 : FunD K "_law_purses" "_law_purses" (defArgs s__law_purses) (defBody s__law_purses) (defScope s__law_purses) [] [] (A 36) (D 36)
  g_36 : mg "_law_purses" = some (.ref (A 36))
  fun_37 : FunD K "_law_shuffled" "_law_shuffled" (defArgs s__law_shuffled) (defBody s__law_shuffled) (defScope s__law_shuffled) [] [] (A 37) (D 37)
  g_37 : mg "_law_shuffled" = some (.ref (A 37))
  fun_38 : FunD K "_law_same" "_law_same" (defArgs s__law_same) (defBody s__law_same) (defScope s__law_same) [] [] (A 38) (D 38)
  g_38 : mg "_law_same" = some (.ref (A 38))
  fun_40 : FunD K "_law_colour" "_law_colour" (defArgs s__law_colour) (defBody s__law_colour) (defScope s__law_colour) [] [] (A 40) (D 40)
  g_40 : mg "_law_colour" = some (.ref (A 40))
  fun_41 : FunD K "_law_named" "_law_named" (defArgs s__law_named) (defBody s__law_named) (defScope s__law_named) [] [] (A 41) (D 41)
  g_41 : mg "_law_named" = some (.ref (A 41))
  fun_43 : FunD K "_law_party" "_law_party" (defArgs s__law_party) (defBody s__law_party) (defScope s__law_party) [] [] (A 43) (D 43)
  g_43 : mg "_law_party" = some (.ref (A 43))
  fun_44 : FunD K "_law_counts" "_law_counts" (defArgs s__law_counts) (defBody s__law_counts) (defScope s__law_counts) [] [] (A 44) (D 44)
  g_44 : mg "_law_counts" = some (.ref (A 44))
  fun_45 : FunD K "_law_ones" "_law_ones" (defArgs s__law_ones) (defBody s__law_ones) (defScope s__law_ones) [] [] (A 45) (D 45)
  g_45 : mg "_law_ones" = some (.ref (A 45))
  fun_46 : FunD K "_law_corners" "_law_corners" (defArgs s__law_corners) (defBody s__law_corners) (defScope s__law_corners) [] [] (A 46) (D 46)
  g_46 : mg "_law_corners" = some (.ref (A 46))
  fun_47 : FunD K "_law_weighed" "_law_weighed" (defArgs s__law_weighed) (defBody s__law_weighed) (defScope s__law_weighed) [] [] (A 47) (D 47)
  g_47 : mg "_law_weighed" = some (.ref (A 47))
  fun_48 : FunD K "_law_is_right" "_law_is_right" (defArgs s__law_is_right) (defBody s__law_is_right) (defScope s__law_is_right) [] [] (A 48) (D 48)
  g_48 : mg "_law_is_right" = some (.ref (A 48))
  fun_49 : FunD K "_law_fits" "_law_fits" (defArgs s__law_fits) (defBody s__law_fits) (defScope s__law_fits) [] [] (A 49) (D 49)
  g_49 : mg "_law_fits" = some (.ref (A 49))
  fun_50 : FunD K "_law_triple_right" "_law_triple_right" (defArgs s__law_triple_right) (defBody s__law_triple_right) (defScope s__law_triple_right) [] [] (A 50) (D 50)
  g_50 : mg "_law_triple_right" = some (.ref (A 50))
  fun_51 : FunD K "law" "law" (defArgs s_law) (defBody s_law) (defScope s_law) [] [] (A 51) (D 51)
  g_51 : mg "law" = some (.ref (A 51))
  nb_all : mg "all" = none
  nb_bool : mg "bool" = none
  nb_dict : mg "dict" = none
  nb_enumerate : mg "enumerate" = none
  nb_int : mg "int" = none
  nb_isinstance : mg "isinstance" = none
  nb_len : mg "len" = none
  nb_list : mg "list" = none
  nb_max : mg "max" = none
  nb_min : mg "min" = none
  nb_range : mg "range" = none
  nb_repr : mg "repr" = none
  nb_str : mg "str" = none
  nb_sum : mg "sum" = none
  nb_tuple : mg "tuple" = none
  nb_zip : mg "zip" = none
section
variable {P : Program} {w : World} {K : PySem.W.Frag} {mg : Str → Option Value} {A : Nat → Addr} {D : Nat → FuncData} {base : Heap}
theorem bi_is_whole (T : Txt K mg A D) : Binds K (D 1) ps_is_whole [] := T.fun_1.bindsN fun _ _ _ _ _ _ us hl => match us, hl with | [_], _ => rfl
theorem bi_is_tuple_of (T : Txt K mg A D) : Binds K (D 3) ps_is_tuple_of [] := T.fun_3.bindsN fun _ _ _ _ _ _ us hl => match us, hl with | [_, _], _ => rfl
theorem bi_is_row (T : Txt K mg A D) : Binds K (D 10) ps_is_row [] := T.fun_10.bindsN fun _ _ _ _ _ _ us hl => match us, hl with | [_, _, _], _ => rfl
theorem bi_is_party (T : Txt K mg A D) : Binds K (D 11) ps_is_party [] := T.fun_11.bindsN fun _ _ _ _ _ _ us hl => match us, hl with | [_], _ => rfl
theorem bi_check_party (T : Txt K mg A D) : Binds K (D 12) ps_check_party [] := T.fun_12.bindsN fun _ _ _ _ _ _ us hl => match us, hl with | [_], _ => rfl
theorem bi_is_guest (T : Txt K mg A D) : Binds K (D 13) ps_is_guest [] := T.fun_13.bindsN fun _ _ _ _ _ _ us hl => match us, hl with | [_, _], _ => rfl
theorem bi_check_guest (T : Txt K mg A D) : Binds K (D 14) ps_check_guest [] := T.fun_14.bindsN fun _ _ _ _ _ _ us hl => match us, hl with | [_, _], _ => rfl
theorem bi_colour_there (T : Txt K mg A D) : Binds K (D 15) ps_colour_there [] := T.fun_15.bindsN fun _ _ _ _ _ _ us hl => match us, hl with | [_, _, _], _ => rfl
theorem bi_check_pair (T : Txt K mg A D) : Binds K (D 16) ps_check_pair [] := T.fun_16.bindsN fun _ _ _ _ _ _ us hl => match us, hl with | [_, _, _], _ => rfl
theorem bi_partners_there (T : Txt K mg A D) : Binds K (D 17) ps_partners_there [] := T.fun_17.bindsN fun _ _ _ _ _ _ us hl => match us, hl with | [_, _, _], _ => rfl
theorem bi_colours_of (T : Txt K mg A D) : Binds K (D 21) ps_colours_of [] := T.fun_21.bindsN fun _ _ _ _ _ _ us hl => match us, hl with | [_, _, _, _], _ => rfl
theorem bi_triples_of (T : Txt K mg A D) : Binds K (D 22) ps_triples_of [] := T.fun_22.bindsN fun _ _ _ _ _ _ us hl => match us, hl with | [_], _ => rfl
theorem bi_triple_counts (T : Txt K mg A D) : Binds K (D 23) ps_triple_counts [] := T.fun_23.bindsN fun _ _ _ _ _ _ us hl => match us, hl with | [_], _ => rfl
theorem bi_ones_there (T : Txt K mg A D) : Binds K (D 24) ps_ones_there [] := T.fun_24.bindsN fun _ _ _ _ _ _ us hl => match us, hl with | [_], _ => rfl
theorem bi_ones_of (T : Txt K mg A D) : Binds K (D 25) ps_ones_of [] := T.fun_25.bindsN fun _ _ _ _ _ _ us hl => match us, hl with | [_], _ => rfl
theorem bi_closers (T : Txt K mg A D) : Binds K (D 26) ps_closers [] := T.fun_26.bindsN fun _ _ _ _ _ _ us hl => match us, hl with | [_, _, _], _ => rfl
theorem bi_unlike_corners (T : Txt K mg A D) : Binds K (D 27) ps_unlike_corners [] := T.fun_27.bindsN fun _ _ _ _ _ _ us hl => match us, hl with | [_], _ => rfl
theorem bi_triple_at (T : Txt K mg A D) : Binds K (D 28) ps_triple_at [] := T.fun_28.bindsN fun _ _ _ _ _ _ us hl => match us, hl with | [_, _], _ => rfl
theorem bi_weighed_triples (T : Txt K mg A D) : Binds K (D 30) ps_weighed_triples [] := T.fun_30.bindsN fun _ _ _ _ _ _ us hl => match us, hl with | [_, _], _ => rfl
theorem bi__law_purse (T : Txt K mg A D) : Binds K (D 32) ps__law_purse [] := T.fun_32.bindsN fun _ _ _ _ _ _ us hl => match us, hl with | [_, _], _ => rfl
theorem bi__law_mixed (T : Txt K mg A D) : Binds K (D 33) ps__law_mixed [] := T.fun_33.bindsN fun _ _ _ _ _ _ us hl => match us, hl with | [_, _, _], _ => rfl
theorem bi__law_draw (T : Txt K mg A D) : Binds K (D 34) ps__law_draw [] := T.fun_34.bindsN fun _ _ _ _ _ _ us hl => match us, hl with | [_, _], _ => rfl
theorem bi__law_one_of (T : Txt K mg A D) : Binds K (D 35) ps__law_one_of [] := T.fun_35.bindsN fun _ _ _ _ _ _ us hl => match us, hl with | [_, _], _ => rfl
theorem bi__law_purses (T : Txt K mg A D) : Binds K (D 36) ps__law_purses [] := T.fun_36.bindsN fun _ _ _ _ _ _ us hl => match us, hl with | [_, _], _ => rfl
theorem bi__law_shuffled (T : Txt K mg A D) : Binds K (D 37) ps__law_shuffled [] := T.fun_37.bindsN fun _ _ _ _ _ _ us hl => match us, hl with | [_, _], _ => rfl
theorem bi__law_same (T : Txt K mg A D) : Binds K (D 38) ps__law_same [] := T.fun_38.bindsN fun _ _ _ _ _ _ us hl => match us, hl with | [_, _], _ => rfl
theorem bi__law_colour (T : Txt K mg A D) : Binds K (D 40) ps__law_colour [] := T.fun_40.bindsN fun _ _ _ _ _ _ us hl => match us, hl with | [_, _, _], _ => rfl
theorem bi__law_named (T : Txt K mg A D) : Binds K (D 41) ps__law_named [] := T.fun_41.bindsN fun _ _ _ _ _ _ us hl => match us, hl with | [_, _], _ => rfl
theorem bi__law_party (T : Txt K mg A D) : Binds K (D 43) ps__law_party [] := T.fun_43.bindsN fun _ _ _ _ _ _ us hl => match us, hl with | [_], _ => rfl
theorem bi__law_counts (T : Txt K mg A D) : Binds K (D 44) ps__law_counts [] := T.fun_44.bindsN fun _ _ _ _ _ _ us hl => match us, hl with | [_, _], _ => rfl
theorem bi__law_ones (T : Txt K mg A D) : Binds K (D 45) ps__law_ones [] := T.fun_45.bindsN fun _ _ _ _ _ _ us hl => match us, hl with | [_], _ => rfl
theorem bi__law_corners (T : Txt K mg A D) : Binds K (D 46) ps__law_corners [] := T.fun_46.bindsN fun _ _ _ _ _ _ us hl => match us, hl with | [_, _], _ => rfl
theorem bi__law_weighed (T : Txt K mg A D) : Binds K (D 47) ps__law_weighed [] := T.fun_47.bindsN fun _ _ _ _ _ _ us hl => match us, hl with | [_, _, _], _ => rfl
theorem bi__law_is_right (T : Txt K mg A D) : Binds K (D 48) ps__law_is_right [] := T.fun_48.bindsN fun _ _ _ _ _ _ us hl => match us, hl with | [_, _], _ => rfl
theorem bi__law_fits (T : Txt K mg A D) : Binds K (D 49) ps__law_fits [] := T.fun_49.bindsN fun _ _ _ _ _ _ us hl => match us, hl with | [_, _, _], _ => rfl
theorem bi__law_triple_right (T : Txt K mg A D) : Binds K (D 50) ps__law_triple_right [] := T.fun_50.bindsN fun _ _ _ _ _ _ us hl => match us, hl with | [_, _, _, _], _ => rfl
theorem bi_law (T : Txt K mg A D) : Binds K (D 51) ps_law [] := T.fun_51.bindsN fun _ _ _ _ _ _ us hl => match us, hl with | [_], _ => rfl
theorem bi_is_count_1 (T : Txt K mg A D) : ∃ ds, Vals [V.int 0] ds ∧ Binds K (D 2) ps_is_count ds := T.fun_2.binds1 1 0 (by simp) (by decide) fun _ _ _ _ _ _ _ us its hl hi => match us, its, hl, hi with | [_], [_], _, _ => ⟨_, rfl, rfl⟩
theorem bi_is_count_2 (T : Txt K mg A D) : ∃ ds, Vals [] ds ∧ Binds K (D 2) ps_is_count ds := T.fun_2.binds1 2 1 (by simp) (by decide) fun _ _ _ _ _ _ _ us its hl hi => match us, its, hl, hi with | [_, _], [_], _, _ => ⟨_, rfl, rfl⟩
theorem kb_closers_2_other (T : Txt K mg A D) : KPick K (D 26) ps_closers ["other"] 2 [0, 1, 2] := kp_of T.fun_26 (by simp) fun _ _ _ _ _ _ us ws hl hw => match us, ws, hl, hw with | [_, _], [_], _, _ => rfl
theorem kb_unlike_corners_0_party (T : Txt K mg A D) : KPick K (D 27) ps_unlike_corners ["party"] 0 [0] := kp_of T.fun_27 (by simp) fun _ _ _ _ _ _ us ws hl hw => match us, ws, hl, hw with | [], [_], _, _ => rfl
theorem kb_weighed_triples_1_weights (T : Txt K mg A D) : KPick K (D 30) ps_weighed_triples ["weights"] 1 [0, 1] := kp_of T.fun_30 (by simp) fun _ _ _ _ _ _ us ws hl hw => match us, ws, hl, hw with | [_], [_], _, _ => rfl
end
section
variable {P : Program} {w : World} {K : PySem.W.Frag} {mg : Str → Option Value} {A : Nat → Addr} {D : Nat → FuncData} {base : Heap}
set_option maxHeartbeats 2000000 in
theorem ok_is_whole (T : Txt K mg A D) : FnOk P w K mg base CX0 1 (A 1) (D 1) ps_is_whole (spD m_is_whole) := by
  exact fn_D (bd := bd_is_whole) T.fun_1 sc_is_whole mlen_is_whole (fun cdv A' outer s H E hr =>
    (pssd_one (psd_ret (pd_and (pd_is1 T.nb_isinstance T.nb_int (pr_var 0)) (pd_one (pd_not (pd_is1 T.nb_isinstance T.nb_bool (pr_var 0)))))))) math_is_whole
set_option maxHeartbeats 2000000 in
theorem ok_is_tuple_of (T : Txt K mg A D) : FnOk P w K mg base CX0 1 (A 3) (D 3) ps_is_tuple_of (spD m_is_tuple_of) := by
  exact fn_D (bd := bd_is_tuple_of) T.fun_3 sc_is_tuple_of mlen_is_tuple_of (fun cdv A' outer s H E hr =>
    (pssd_one (psd_ret (pd_and (pd_is1 T.nb_isinstance T.nb_tuple (pr_var 0)) (pd_one (pd_cmp (op_eqD hr.units) ro_eq (pd_cb1 call_len_seq rc_len T.nb_len (pr_var 0)) (pr_var 1))))))) math_is_tuple_of
set_option maxHeartbeats 2000000 in
theorem ok_colour_there (T : Txt K mg A D) : FnOk P w K mg base CX0 1 (A 15) (D 15) ps_colour_there (spD m_colour_there) := by
  exact fn_D (bd := bd_colour_there) T.fun_15 sc_colour_there mlen_colour_there (fun cdv A' outer s H E hr =>
    (pssd_one (psd_ret (pd_ix ix_seq ro_ix (pd_ix ix_seq ro_ix (pd_ixV 0 ix_seq ro_ix (pd_r pd_int)) (pd_r (pd_cb2 (call_max2 rfl) rc_max2 T.nb_max (pd_var 1) (pr_var 2)))) (pd_r (pd_cb2 (call_min2 rfl) rc_min2 T.nb_min (pd_var 1) (pr_var 2))))))) math_colour_there
set_option maxHeartbeats 2000000 in
theorem ok_triples_of (T : Txt K mg A D) : FnOk P w K mg base CX0 1 (A 22) (D 22) ps_triples_of (spD m_triples_of) := by
  exact fn_D (bd := bd_triples_of) T.fun_22 sc_triples_of mlen_triples_of (fun cdv A' outer s H E hr =>
    (pssd_cons (psd_set 1 sc_triples_of.nd (pn_d (pn_lst pad_nil)))
    (pssd_cons (psd_for PassesOwn.never rfl (pid_range1 T.nb_range (pd_var 0)) (pgd_name 2 sc_triples_of.nd)
    (pssd_one (psd_for PassesOwn.never rfl (pid_range2 T.nb_range (pd_opV 2 op_addU ro_add (pd_r pd_int)) (pd_var 0)) (pgd_name 3 sc_triples_of.nd)
    (pssd_one (psd_set 1 sc_triples_of.nd (pd_opV 1 op_addU ro_add (pd_r (pn_d (pn_lc rfl sc_triples_of.nd (pid_range2 T.nb_range (pd_opV 3 op_addU ro_add (pd_r pd_int)) (pd_var 0)) (blkOk_by (own := [("third", 4)]) (by first | decide +kernel | kernel_rfl)) (fun _ _ _ _ _ => (pgd_name 4 sc_triples_of.nd)) (fun _ _ _ _ _ => ptsd_nil) (fun _ _ _ _ _ => (pd_tup (pad_cons (pd_var 2) (pad_cons (pd_var 3) (pad_cons (pd_var 4) pad_nil))))))))))))))
    (pssd_one (psd_ret (pd_var 1)))))) math_triples_of
set_option maxHeartbeats 2000000 in
theorem ok__law_purse (T : Txt K mg A D) : FnOk P w K mg base CX0 1 (A 32) (D 32) ps__law_purse (spS K m__law_purse) := by
  exact fn_S K (bd := bd__law_purse K) T.fun_32 sc__law_purse mlen__law_purse (fun cdv A' outer s H E hr =>
    (pssd_cons (psd_set 2 sc__law_purse.nd (pd_cb1 (cr_sum rfl) rc_sum T.nb_sum (pd_r (pn_d (pn_slS 0 (pod_some (pd_var 1)) (pod_some (pd_opV 1 op_addU ro_add (pd_r pd_int))))))))
    (pssd_one (psd_ret (pn_d (pn_lst (pad_cons (pd_op op_mod ro_mod (pd_ct1 call_int1 rc_int T.nb_int (pd_r (pd_cb2 (call_max2 rfl) rc_max2 T.nb_max (pd_opV 2 op_sub ro_sub (pd_r (pd_op op_powB ro_pow pd_int (pd_r pd_int)))) (pd_r pd_int)))) (pd_r (pd_op op_powB ro_pow (pd_op op_powB ro_pow pd_int (pd_r pd_int)) (pd_r pd_int)))) (pad_cons (pd_op op_mod ro_mod (pd_ct1 call_int1 rc_int T.nb_int (pr_var 2)) (pd_r pd_int)) (pad_cons pd_int (pad_cons (pd_var 1) pad_nil)))))))))) math__law_purse
set_option maxHeartbeats 2000000 in
theorem ok__law_mixed (T : Txt K mg A D) : FnOk P w K mg base CX0 1 (A 33) (D 33) ps__law_mixed (spD m__law_mixed) := by
  exact fn_D (bd := bd__law_mixed) T.fun_33 sc__law_mixed mlen__law_mixed (fun cdv A' outer s H E hr =>
    (pssd_cons (psd_set 3 sc__law_mixed.nd (pd_op op_addU ro_add (pd_opV 0 op_mulU ro_mul (pd_r pd_int)) (pd_r (pd_op op_mulU ro_mul (pd_op op_mulU ro_mul pd_int (pr_var 1)) (pr_var 1)))))
    (pssd_cons (psd_set 3 sc__law_mixed.nd (pd_op op_mod ro_mod (pd_ct1 call_int1 rc_int T.nb_int (pd_r (pd_op op_addU ro_add (pd_opV 3 op_addU ro_add (pd_r (pd_op op_mulU ro_mul pd_int (pr_var 2)))) (pr_var 1)))) (pd_r pd_int)))
    (pssd_cons (psd_set 3 sc__law_mixed.nd (pd_op op_mod ro_mod (pd_ct1 call_int1 rc_int T.nb_int (pd_r (pd_op op_addU ro_add (pd_opV 3 op_mulU ro_mul (pr_var 3)) (pd_r pd_int)))) (pd_r pd_int)))
    (pssd_one (psd_ret (pd_op op_mod ro_mod (pd_ct1 call_int1 rc_int T.nb_int (pd_r (pd_opV 3 op_mulU ro_mul (pd_r pd_int)))) (pd_r pd_int)))))))) math__law_mixed
set_option maxHeartbeats 2000000 in
theorem ok__law_colour (T : Txt K mg A D) : FnOk P w K mg base CX0 1 (A 40) (D 40) ps__law_colour (spD m__law_colour) := by
  exact fn_D (bd := bd__law_colour) T.fun_40 sc__law_colour mlen__law_colour (fun cdv A' outer s H E hr =>
    (pssd_one (psd_ret (pd_ix ix_seq ro_ix (pd_ix ix_seq ro_ix (pd_ixV 0 ix_seq ro_ix (pd_r pd_int)) (pd_r (pd_cb2 (call_max2 rfl) rc_max2 T.nb_max (pd_var 1) (pr_var 2)))) (pd_r (pd_cb2 (call_min2 rfl) rc_min2 T.nb_min (pd_var 1) (pr_var 2))))))) math__law_colour
set_option maxHeartbeats 2000000 in
theorem ok_is_count (T : Txt K mg A D) : FnOk P w K mg base CX0 2 (A 2) (D 2) ps_is_count (spD m_is_count) := by
  exact fn_D (bd := bd_is_count) T.fun_2 sc_is_count mlen_is_count (fun cdv A' outer s H E hr =>
    (pssd_one (psd_ret (pd_and (pd_call ((ok_is_whole T).mono (by decide)) hr T.g_1 T.fun_1.kp (bi_is_whole T) .nil (fun _ => .nil) (pad_cons (pd_var 0) pad_nil)) (pd_one (pd_cmpV 0 op_ge ro_ge (pd_r (pd_cb2 (call_max2 rfl) rc_max2 T.nb_max (pd_var 1) (pd_r pd_int))))))))) math_is_count
set_option maxHeartbeats 2000000 in
theorem ok_partners_there (T : Txt K mg A D) : FnOk P w K mg base CX0 2 (A 17) (D 17) ps_partners_there (spD m_partners_there) := by
  exact fn_D (bd := bd_partners_there) T.fun_17 sc_partners_there mlen_partners_there (fun cdv A' outer s H E hr =>
    (pssd_one (psd_ret (pn_d (pn_lc rfl sc_partners_there.nd (pid_range1 T.nb_range (pd_cb1 call_len_seq rc_len T.nb_len (pd_r (pd_ixV 0 ix_seq ro_ix (pd_r pd_int))))) (blkOk_by (own := [("late", 3)]) (by first | decide +kernel | kernel_rfl)) (fun _ _ _ _ _ => (pgd_name 3 sc_partners_there.nd)) (fun _ _ _ _ _ => (ptsd_one (ptd_w (pwd_and (ptd_cmpV 3 (op_neD hr.units) ro_ne (pr_var 1)) (pwd_and1 (ptd_cmp (op_eqD hr.units) ro_eq (pd_call ((ok_colour_there T).mono (by decide)) hr T.g_15 T.fun_15.kp (bi_colour_there T) .nil (fun _ => .nil) (pad_cons (pd_var 0) (pad_cons (pd_var 1) (pad_cons (pd_var 3) pad_nil)))) (pr_var 2))))))) (fun _ _ _ _ _ => (pd_var 3))))))) math_partners_there
set_option maxHeartbeats 2000000 in
theorem ok_colours_of (T : Txt K mg A D) : FnOk P w K mg base CX0 2 (A 21) (D 21) ps_colours_of (spD m_colours_of) := by
  exact fn_D (bd := bd_colours_of) T.fun_21 sc_colours_of mlen_colours_of (fun cdv A' outer s H E hr =>
    (pssd_cons (psd_par 4 5 rfl sc_colours_of.nd (pd_call ((ok_colour_there T).mono (by decide)) hr T.g_15 T.fun_15.kp (bi_colour_there T) .nil (fun _ => .nil) (pad_cons (pd_var 0) (pad_cons (pd_var 1) (pad_cons (pd_var 2) pad_nil)))) (pd_call ((ok_colour_there T).mono (by decide)) hr T.g_15 T.fun_15.kp (bi_colour_there T) .nil (fun _ => .nil) (pad_cons (pd_var 0) (pad_cons (pd_var 1) (pad_cons (pd_var 3) pad_nil)))))
    (pssd_cons (psd_set 6 sc_colours_of.nd (pd_call ((ok_colour_there T).mono (by decide)) hr T.g_15 T.fun_15.kp (bi_colour_there T) .nil (fun _ => .nil) (pad_cons (pd_var 0) (pad_cons (pd_var 2) (pad_cons (pd_var 3) pad_nil)))))
    (pssd_cons (psd_if (ptd_cmpV 4 (op_eqD hr.units) ro_eq (pr_var 5))
    (pssd_one (psd_ret (pd_if (ptd_cmpV 6 (op_eqD hr.units) ro_eq (pr_var 4)) pd_int pd_int)))
    pssd_nil)
    (pssd_one (psd_ret (pd_if (ptd_cmpV 6 op_in_seq ro_in (pd_r (pd_tup (pad_cons (pd_var 4) (pad_cons (pd_var 5) pad_nil))))) pd_int pd_int))))))) math_colours_of
set_option maxHeartbeats 2000000 in
theorem ok__law_draw (T : Txt K mg A D) : FnOk P w K mg base CX0 2 (A 34) (D 34) ps__law_draw (spP m__law_draw) := by
  exact fn_P (bd := bd__law_draw) T.fun_34 sc__law_draw mlen__law_draw (fun cdv A' outer s H E hr =>
    (pssd_cons (psd_if (ptd_cmp op_gt ro_gt (pd_ixV 0 ix_seq ro_ix (pd_r pd_int)) (pd_r pd_int))
    (pssd_cons (psd_set 2 sc__law_draw.nd (pd_op op_mod ro_mod (pd_ct1 call_int1 rc_int T.nb_int (pd_r (pd_ixV 0 ix_seq ro_ix (pd_r pd_int)))) (pr_var 1)))
    (pssd_cons (psd_setIx 0 (pd_op op_fdivW ro_div (pd_ixV 0 ix_seq ro_ix (pd_r pd_int)) (pr_var 1)) pd_int)
    (pssd_one (psd_ret (pd_var 2)))))
    pssd_nil)
    (pssd_cons (psd_set 3 sc__law_draw.nd pd_int)
    (pssd_cons (psd_for PassesOwn.never rfl (pid_range1 T.nb_range (pd_op op_addU ro_add pd_int (pd_r (pd_op op_fdivW ro_div (pd_bits (pd_var 1)) (pd_r pd_int))))) (pgd_name 4 sc__law_draw.nd)
    (pssd_cons (psd_setIx 0 (pd_op op_addU ro_add (pd_ixV 0 ix_seq ro_ix (pd_r pd_int)) (pd_r pd_int)) pd_int)
    (pssd_one (psd_set 3 sc__law_draw.nd (pd_op op_addU ro_add (pd_opV 3 op_mulU ro_mul (pd_r pd_int)) (pd_r (pd_call ((ok__law_mixed T).mono (by decide)) hr T.g_33 T.fun_33.kp (bi__law_mixed T) .nil (fun _ => .nil) (pad_cons (pd_ixV 0 ix_seq ro_ix (pd_r pd_int)) (pad_cons (pd_ixV 0 ix_seq ro_ix (pd_r pd_int)) (pad_cons (pd_ixV 0 ix_seq ro_ix (pd_r pd_int)) pad_nil))))))))))
    (pssd_one (psd_ret (pd_op op_mod ro_mod (pd_ct1 call_int1 rc_int T.nb_int (pr_var 3)) (pr_var 1)))))))) math__law_draw
set_option maxHeartbeats 2000000 in
theorem ok__law_purses (T : Txt K mg A D) : FnOk P w K mg base CX0 2 (A 36) (D 36) ps__law_purses (spS K m__law_purses) := by
  exact fn_S K (bd := bd__law_purses K) T.fun_36 sc__law_purses mlen__law_purses (fun cdv A' outer s H E hr =>
    (pssd_one (psd_ret (pn_d (pn_lc rfl sc__law_purses.nd (pid_range1 T.nb_range (pd_cb2 (call_max2 rfl) rc_max2 T.nb_max pd_int (pd_r (pd_cb2 (call_min2 rfl) rc_min2 T.nb_min (pd_var 1) (pd_r (pd_lenS 0 T.nb_len)))))) (blkOk_by (own := [("at", 2)]) (by first | decide +kernel | kernel_rfl)) (fun _ _ _ _ _ => (pgd_name 2 sc__law_purses.nd)) (fun _ _ _ _ _ => ptsd_nil) (fun _ _ _ _ _ => (pd_callS 0 ((ok__law_purse T).mono (by decide)) hr T.g_32 T.fun_32.kp (bi__law_purse T) .nil (fun _ => .nil) (pad_cons (pd_var 2) pad_nil)))))))) math__law_purses
set_option maxHeartbeats 2000000 in
theorem ok__law_named (T : Txt K mg A D) : FnOk P w K mg base CX0 2 (A 41) (D 41) ps__law_named (spD m__law_named) := by
  exact fn_D (bd := bd__law_named) T.fun_41 sc__law_named mlen__law_named (fun cdv A' outer s H E hr =>
    (pssd_cons (psd_setN 2 sc__law_named.nd (pn_lst pad_nil))
    (pssd_cons (psd_for PassesOwn.never rfl (pid_enum T.nb_enumerate (pd_var 1)) (pgd_tup rfl (pgsd_cons (pgd_name 3 sc__law_named.nd) (pgsd_cons (pgd_name 4 sc__law_named.nd) pgsd_nil)) (len_cons any_name (len_cons any_name len_nil)))
    (pssd_one (psd_app 2 (pn_d (pn_lc rfl sc__law_named.nd (pid_list (pn_d (pn_slV 1 pod_none (pod_some (pd_var 3))))) (blkOk_by (own := [("late", 5)]) (by first | decide +kernel | kernel_rfl)) (fun _ _ _ _ _ => (pgd_name 5 sc__law_named.nd)) (fun _ _ _ _ _ => ptsd_nil) (fun _ _ _ _ _ => (pd_call ((ok__law_colour T).mono (by decide)) hr T.g_40 T.fun_40.kp (bi__law_colour T) .nil (fun _ => .nil) (pad_cons (pd_var 0) (pad_cons (pd_var 4) (pad_cons (pd_var 5) pad_nil))))))) (hp := pe_bm PySem.F.plainAttrs_list PySem.F.slot_list_append PySem.F.type_list_append mt_append (pv 2) (pa_cons (pn_d (pn_lc rfl sc__law_named.nd (pid_list (pn_d (pn_slV 1 pod_none (pod_some (pd_var 3))))) (blkOk_by (own := [("late", 5)]) (by first | decide +kernel | kernel_rfl)) (fun _ _ _ _ _ => (pgd_name 5 sc__law_named.nd)) (fun _ _ _ _ _ => ptsd_nil) (fun _ _ _ _ _ => (pd_call ((ok__law_colour T).mono (by decide)) hr T.g_40 T.fun_40.kp (bi__law_colour T) .nil (fun _ => .nil) (pad_cons (pd_var 0) (pad_cons (pd_var 4) (pad_cons (pd_var 5) pad_nil))))))) pa_nil)))))
    (pssd_one (psd_ret (pd_tup (pad_cons (pd_ixV 0 ix_seq ro_ix (pd_r pd_int)) (pad_cons (pd_var 2) pad_nil)))))))) math__law_named
set_option maxHeartbeats 2000000 in
theorem ok__law_counts (T : Txt K mg A D) : FnOk P w K mg base CX0 2 (A 44) (D 44) ps__law_counts (spD m__law_counts) := by
  exact fn_D (bd := bd__law_counts) T.fun_44 sc__law_counts mlen__law_counts (fun cdv A' outer s H E hr =>
    (pssd_cons (psd_set 2 sc__law_counts.nd (pd_cb1 call_len_seq rc_len T.nb_len (pd_r (pd_ixV 0 ix_seq ro_ix (pd_r pd_int)))))
    (pssd_cons (psd_set 3 sc__law_counts.nd (pn_d (pn_lc rfl sc__law_counts.nd (pid_range1 T.nb_range (pd_var 2)) (blkOk_by (own := [("late", 4)]) (by first | decide +kernel | kernel_rfl)) (fun _ _ _ _ _ => (pgd_name 4 sc__law_counts.nd)) (fun _ _ _ _ _ => (ptsd_one (ptd_cmpV 4 (op_neD hr.units) ro_ne (pr_var 1)))) (fun _ _ _ _ _ => (pd_call ((ok__law_colour T).mono (by decide)) hr T.g_40 T.fun_40.kp (bi__law_colour T) .nil (fun _ => .nil) (pad_cons (pd_var 0) (pad_cons (pd_var 1) (pad_cons (pd_var 4) pad_nil))))))))
    (pssd_one (psd_ret (pn_d (pn_lc rfl sc__law_counts.nd (pid_range1 T.nb_range (pd_ixV 0 ix_seq ro_ix (pd_r pd_int))) (blkOk_by (own := [("colour", 5)]) (by first | decide +kernel | kernel_rfl)) (fun _ _ _ _ _ => (pgd_name 5 sc__law_counts.nd)) (fun _ _ _ _ _ => ptsd_nil) (fun _ _ _ _ _ => (pd_lcount (pe_bm PySem.F.plainAttrs_list PySem.F.slot_list_count PySem.F.type_list_count mt_lcount (pd_var 3) (pa_cons (pd_var 5) pa_nil))))))))))) math__law_counts
set_option maxHeartbeats 2000000 in
theorem ok__law_ones (T : Txt K mg A D) : FnOk P w K mg base CX0 2 (A 45) (D 45) ps__law_ones (spD m__law_ones) := by
  exact fn_D (bd := bd__law_ones) T.fun_45 sc__law_ones mlen__law_ones (fun cdv A' outer s H E hr =>
    (pssd_cons (psd_parN 1 2 rfl sc__law_ones.nd (pn_lst pad_nil) (pd_cb1 call_len_seq rc_len T.nb_len (pd_r (pd_ixV 0 ix_seq ro_ix (pd_r pd_int)))))
    (pssd_cons (psd_for PassesOwn.never rfl (pid_range1 T.nb_range (pd_var 2)) (pgd_name 3 sc__law_ones.nd)
    (pssd_one (psd_for PassesOwn.never rfl (pid_range2 T.nb_range (pd_opV 3 op_addU ro_add (pd_r pd_int)) (pd_var 2)) (pgd_name 4 sc__law_ones.nd)
    (pssd_cons (psd_set 5 sc__law_ones.nd (pd_call ((ok__law_colour T).mono (by decide)) hr T.g_40 T.fun_40.kp (bi__law_colour T) .nil (fun _ => .nil) (pad_cons (pd_var 0) (pad_cons (pd_var 3) (pad_cons (pd_var 4) pad_nil)))))
    (pssd_one (psd_for PassesOwn.never rfl (pid_range2 T.nb_range (pd_opV 4 op_addU ro_add (pd_r pd_int)) (pd_var 2)) (pgd_name 6 sc__law_ones.nd)
    (pssd_one (psd_if (ptd_w (pwd_and (ptd_cmp (op_eqD hr.units) ro_eq (pd_call ((ok__law_colour T).mono (by decide)) hr T.g_40 T.fun_40.kp (bi__law_colour T) .nil (fun _ => .nil) (pad_cons (pd_var 0) (pad_cons (pd_var 3) (pad_cons (pd_var 6) pad_nil)))) (pr_var 5)) (pwd_and1 (ptd_cmp (op_eqD hr.units) ro_eq (pd_call ((ok__law_colour T).mono (by decide)) hr T.g_40 T.fun_40.kp (bi__law_colour T) .nil (fun _ => .nil) (pad_cons (pd_var 0) (pad_cons (pd_var 4) (pad_cons (pd_var 6) pad_nil)))) (pr_var 5)))))
    (pssd_one (psd_app 1 (pd_tup (pad_cons (pd_var 3) (pad_cons (pd_var 4) (pad_cons (pd_var 6) pad_nil)))) (hp := pe_bm PySem.F.plainAttrs_list PySem.F.slot_list_append PySem.F.type_list_append mt_append (pv 1) (pa_cons (pd_tup (pad_cons (pd_var 3) (pad_cons (pd_var 4) (pad_cons (pd_var 6) pad_nil)))) pa_nil))))
    pssd_nil))))))))
    (pssd_one (psd_ret (pd_var 1)))))) math__law_ones
set_option maxHeartbeats 2000000 in
theorem ok__law_corners (T : Txt K mg A D) : FnOk P w K mg base CX0 2 (A 46) (D 46) ps__law_corners (spD m__law_corners) := by
  exact fn_D (bd := bd__law_corners) T.fun_46 sc__law_corners mlen__law_corners (fun cdv A' outer s H E hr =>
    (pssd_cons (psd_set 2 sc__law_corners.nd pd_int)
    (pssd_cons (psd_for PassesOwn.never rfl (pid_range1 T.nb_range (pd_cb1 call_len_seq rc_len T.nb_len (pd_r (pd_ixV 0 ix_seq ro_ix (pd_r pd_int))))) (pgd_name 3 sc__law_corners.nd)
    (pssd_cons (psd_setN 4 sc__law_corners.nd (pn_rep (pn_d (pn_lst (pad_cons pd_int pad_nil))) (pd_r (pd_ixV 0 ix_seq ro_ix (pd_r pd_int)))))
    (pssd_one (psd_for PassesOwn.never rfl (pid_range1 T.nb_range (pd_cb1 call_len_seq rc_len T.nb_len (pd_r (pd_ixV 0 ix_seq ro_ix (pd_r pd_int))))) (pgd_name 5 sc__law_corners.nd)
    (pssd_one (psd_if (ptd_cmpV 5 (op_neD hr.units) ro_ne (pr_var 3))
    (pssd_cons (psd_set 6 sc__law_corners.nd (pd_call ((ok__law_colour T).mono (by decide)) hr T.g_40 T.fun_40.kp (bi__law_colour T) .nil (fun _ => .nil) (pad_cons (pd_var 0) (pad_cons (pd_var 3) (pad_cons (pd_var 5) pad_nil)))))
    (pssd_cons (psd_set 2 sc__law_corners.nd (pd_opV 2 op_addU ro_add (pd_r (pd_op op_mulU ro_mul (pd_op op_mulU ro_mul (pd_ixV 1 ix_seq ro_ix (pr_var 3)) (pd_r (pd_ixV 1 ix_seq ro_ix (pr_var 5)))) (pd_r (pd_op op_sub ro_sub (pd_cb1 (cr_sum rfl) rc_sum T.nb_sum (pr_var 4)) (pd_r (pd_ixV 4 ix_seq ro_ix (pr_var 6)))))))))
    (pssd_one (psd_setIx 4 (pd_op op_addU ro_add (pd_ixV 4 ix_seq ro_ix (pr_var 6)) (pd_r (pd_ixV 1 ix_seq ro_ix (pr_var 5)))) (pd_var 6)))))
    pssd_nil))))))
    (pssd_one (psd_ret (pd_var 2)))))) math__law_corners
set_option maxHeartbeats 2000000 in
theorem ok__law_fits (T : Txt K mg A D) : FnOk P w K mg base CX0 2 (A 49) (D 49) ps__law_fits (spD m__law_fits) := by
  exact fn_D (bd := bd__law_fits) T.fun_49 sc__law_fits mlen__law_fits (fun cdv A' outer s H E hr =>
    (pssd_cons (psd_if (ptd_cmpV 1 op_in_seq ro_in (pr_var 2))
    (pssd_one (psd_ret pd_bl))
    pssd_nil)
    (pssd_cons (psd_setLc 3 rfl sc__law_fits.nd (pid_var 2) (blkOk_by (own := [("late", 4)]) (by first | decide +kernel | kernel_rfl)) (fun _ _ _ _ _ => (pgd_name 4 sc__law_fits.nd)) (fun _ _ _ _ _ => ptsd_nil) (fun _ _ _ _ _ => (pd_call ((ok__law_colour T).mono (by decide)) hr T.g_40 T.fun_40.kp (bi__law_colour T) .nil (fun _ => .nil) (pad_cons (pd_var 0) (pad_cons (pd_var 1) (pad_cons (pd_var 4) pad_nil))))))
    (pssd_one (psd_ret (pd_and (pd_cmp (op_eqD hr.units) ro_eq (pd_ixV 3 ix_seq ro_ix (pd_r pd_int)) (pd_r (pd_ixV 3 ix_seq ro_ix (pd_r pd_int)))) (pd_one (pd_cmp (op_eqD hr.units) ro_eq (pd_ixV 3 ix_seq ro_ix (pd_r pd_int)) (pd_r (pd_ixV 3 ix_seq ro_ix (pd_r pd_int))))))))))) math__law_fits
set_option maxHeartbeats 2000000 in
theorem ok_is_row (T : Txt K mg A D) : FnOk P w K mg base CX0 3 (A 10) (D 10) ps_is_row (spD m_is_row) := by
  obtain ⟨ds_is_count_1, v_is_count_1, b_is_count_1⟩ := bi_is_count_1 T
  exact fn_D (bd := bd_is_row) T.fun_10 sc_is_row mlen_is_row (fun cdv A' outer s H E hr =>
    (pssd_one (psd_ret (pd_and (pd_is1 T.nb_isinstance T.nb_list (pr_var 2)) (pd_and (pd_cmp (op_eqD hr.units) ro_eq (pd_cb1 call_len_seq rc_len T.nb_len (pr_var 2)) (pr_var 1)) (pd_one (pd_cb1 (cr_all rfl) rc_all T.nb_all (pd_r (pn_d (pn_lc rfl sc_is_row.nd (pid_var 2) (blkOk_by (own := [("one", 3)]) (by first | decide +kernel | kernel_rfl)) (fun _ _ _ _ _ => (pgd_name 3 sc_is_row.nd)) (fun _ _ _ _ _ => ptsd_nil) (fun _ _ _ _ _ => (pd_and (pd_call ((ok_is_count T).mono (by decide)) hr T.g_2 T.fun_2.kp b_is_count_1 v_is_count_1 (fun _ => (.cons (.int 0) .nil)) (pad_cons (pd_var 3) pad_nil)) (pd_one (pd_cmpV 3 op_lt ro_lt (pr_var 0))))))))))))))) math_is_row
set_option maxHeartbeats 2000000 in
theorem ok_is_guest (T : Txt K mg A D) : FnOk P w K mg base CX0 3 (A 13) (D 13) ps_is_guest (spD m_is_guest) := by
  obtain ⟨ds_is_count_1, v_is_count_1, b_is_count_1⟩ := bi_is_count_1 T
  exact fn_D (bd := bd_is_guest) T.fun_13 sc_is_guest mlen_is_guest (fun cdv A' outer s H E hr =>
    (pssd_one (psd_ret (pd_and (pd_call ((ok_is_count T).mono (by decide)) hr T.g_2 T.fun_2.kp b_is_count_1 v_is_count_1 (fun _ => (.cons (.int 0) .nil)) (pad_cons (pd_var 1) pad_nil)) (pd_one (pd_cmpV 1 op_lt ro_lt (pd_r (pd_cb1 call_len_seq rc_len T.nb_len (pd_r (pd_ixV 0 ix_seq ro_ix (pd_r pd_int))))))))))) math_is_guest
set_option maxHeartbeats 2000000 in
theorem ok_ones_there (T : Txt K mg A D) : FnOk P w K mg base CX0 3 (A 24) (D 24) ps_ones_there (spN m_ones_there) := by
  exact fn_N (bd := bd_ones_there) T.fun_24 sc_ones_there mlen_ones_there (fun cdv A' outer s H E hr =>
    (pssd_one (psd_retF (pf_n (pn_lc rfl sc_ones_there.nd (pid_list (pd_call ((ok_triples_of T).mono (by decide)) hr T.g_22 T.fun_22.kp (bi_triples_of T) .nil (fun _ => .nil) (pad_cons (pd_cb1 call_len_seq rc_len T.nb_len (pd_r (pd_ixV 0 ix_seq ro_ix (pd_r pd_int)))) pad_nil))) (blkOk_by (own := [("triple", 1)]) (by first | decide +kernel | kernel_rfl)) (fun _ _ _ _ _ => (pgd_name 1 sc_ones_there.nd)) (fun _ _ _ _ _ => (ptsd_one (ptd_cmp (op_eqD hr.units) ro_eq (pd_callT ((ok_colours_of T).mono (by decide)) hr T.g_21 T.fun_21.kp (bi_colours_of T) .nil (fun _ => .nil) (pad_cons (pd_var 0) (pad_star (pd_var 1) pad_nil))) (pd_r pd_int)))) (fun _ _ _ _ _ => (pd_var 1))))))) math_ones_there
set_option maxHeartbeats 2000000 in
theorem ok__law_one_of (T : Txt K mg A D) : FnOk P w K mg base CX0 3 (A 35) (D 35) ps__law_one_of (spP m__law_one_of) := by
  exact fn_P (bd := bd__law_one_of) T.fun_35 sc__law_one_of mlen__law_one_of (fun cdv A' outer s H E hr =>
    (pssd_one (psd_ret (pd_ixV 1 ix_seq ro_ix (pd_r (pd_callP 0 ((ok__law_draw T).mono (by decide)) hr T.g_34 T.fun_34.kp (bi__law_draw T) .nil (fun _ => .nil) (pad_cons (pd_cb1 call_len_seq rc_len T.nb_len (pr_var 1)) pad_nil))))))) math__law_one_of
set_option maxHeartbeats 2000000 in
theorem ok__law_shuffled (T : Txt K mg A D) : FnOk P w K mg base CX0 3 (A 37) (D 37) ps__law_shuffled (spP m__law_shuffled) := by
  exact fn_P (bd := bd__law_shuffled) T.fun_37 sc__law_shuffled mlen__law_shuffled (fun cdv A' outer s H E hr =>
    (pssd_cons (psd_setN 2 sc__law_shuffled.nd (pn_lst pad_nil))
    (pssd_cons (psd_for PassesOwn.never rfl (pid_var 1) (pgd_name 3 sc__law_shuffled.nd)
    (pssd_one (psd_ins 2 (pe_bm PySem.F.plainAttrs_list PySem.F.slot_list_insert PySem.F.type_list_insert mt_insert (pv 2) (pa_cons (pd_callP 0 ((ok__law_draw T).mono (by decide)) hr T.g_34 T.fun_34.kp (bi__law_draw T) .nil (fun _ => .nil) (pad_cons (pd_op op_addU ro_add (pd_cb1 call_len_seq rc_len T.nb_len (pr_var 2)) (pd_r pd_int)) pad_nil)) (pa_cons (pd_var 3) pa_nil))))))
    (pssd_one (psd_ret (pd_var 2)))))) math__law_shuffled
set_option maxHeartbeats 2000000 in
theorem ok__law_weighed (T : Txt K mg A D) : FnOk P w K mg base CX0 3 (A 47) (D 47) ps__law_weighed (spD m__law_weighed) := by
  exact fn_D (bd := bd__law_weighed) T.fun_47 sc__law_weighed mlen__law_weighed (fun cdv A' outer s H E hr =>
    (pssd_cons (psd_unp (pd_tup (pad_cons pd_int (pad_cons pd_int (pad_cons pd_int (pad_cons pd_int pad_nil))))) (pgd_tup rfl (pgsd_cons (pgd_name 3 sc__law_weighed.nd) (pgsd_cons (pgd_name 4 sc__law_weighed.nd) (pgsd_cons (pgd_name 5 sc__law_weighed.nd) (pgsd_cons (pgd_name 6 sc__law_weighed.nd) pgsd_nil)))) (len_cons any_name (len_cons any_name (len_cons any_name (len_cons any_name len_nil))))))
    (pssd_cons (psd_for PassesOwn.never rfl (pid_var 2) (pgd_tup rfl (pgsd_cons (pgd_name 7 sc__law_weighed.nd) (pgsd_cons (pgd_name 8 sc__law_weighed.nd) (pgsd_cons (pgd_name 9 sc__law_weighed.nd) pgsd_nil))) (len_cons any_name (len_cons any_name (len_cons any_name len_nil))))
    (pssd_one (psd_set 3 sc__law_weighed.nd (pd_opV 3 op_addU ro_add (pd_r (pd_op op_mulU ro_mul (pd_op op_mulU ro_mul (pd_ixV 1 ix_seq ro_ix (pr_var 7)) (pd_r (pd_ixV 1 ix_seq ro_ix (pr_var 8)))) (pd_r (pd_ixV 1 ix_seq ro_ix (pr_var 9)))))))))
    (pssd_cons (psd_for PassesOwn.never rfl (pid_var 1) (pgd_name 10 sc__law_weighed.nd)
    (pssd_cons (psd_set 6 sc__law_weighed.nd (pd_opV 6 op_addU ro_add (pd_r (pd_opV 5 op_mulU ro_mul (pr_var 10)))))
    (pssd_cons (psd_set 5 sc__law_weighed.nd (pd_opV 5 op_addU ro_add (pd_r (pd_opV 4 op_mulU ro_mul (pr_var 10)))))
    (pssd_one (psd_set 4 sc__law_weighed.nd (pd_opV 4 op_addU ro_add (pr_var 10)))))))
    (pssd_cons (psd_set 11 sc__law_weighed.nd (pd_call ((ok__law_corners T).mono (by decide)) hr T.g_46 T.fun_46.kp (bi__law_corners T) .nil (fun _ => .nil) (pad_cons (pd_var 0) (pad_cons (pd_var 1) pad_nil))))
    (pssd_cons (psd_set 9 sc__law_weighed.nd (pd_opV 11 op_sub ro_sub (pd_r (pd_op op_mulU ro_mul pd_int (pd_r (pd_opV 6 op_sub ro_sub (pr_var 3)))))))
    (pssd_one (psd_ret (pd_tup (pad_cons (pd_var 3) (pad_cons (pd_op op_sub ro_sub (pd_opV 6 op_sub ro_sub (pr_var 3)) (pr_var 9)) (pad_cons (pd_var 9) pad_nil)))))))))))) math__law_weighed
set_option maxHeartbeats 2000000 in
theorem ok__law_triple_right (T : Txt K mg A D) : FnOk P w K mg base CX0 3 (A 50) (D 50) ps__law_triple_right (spD m__law_triple_right) := by
  exact fn_D (bd := bd__law_triple_right) T.fun_50 sc__law_triple_right mlen__law_triple_right (fun cdv A' outer s H E hr =>
    (pssd_cons (psd_setLc 4 rfl sc__law_triple_right.nd (pid_var 2) (blkOk_by (own := [("triple", 5)]) (by first | decide +kernel | kernel_rfl)) (fun _ _ _ _ _ => (pgd_name 5 sc__law_triple_right.nd)) (fun _ _ _ _ _ => (ptsd_one (ptd_val (pd_call ((ok__law_fits T).mono (by decide)) hr T.g_49 T.fun_49.kp (bi__law_fits T) .nil (fun _ => .nil) (pad_cons (pd_var 0) (pad_cons (pd_var 1) (pad_cons (pd_var 5) pad_nil))))))) (fun _ _ _ _ _ => (pd_var 5)))
    (pssd_cons (psd_if (ptd_w (pwd_and (ptd_cmp op_lt ro_lt (pd_ixV 0 ix_seq ro_ix (pd_r pd_int)) (pd_r pd_int)) (pwd_and (ptd_cmp op_gt ro_gt (pd_cb1 call_len_seq rc_len T.nb_len (pd_r (pd_ixV 0 ix_seq ro_ix (pd_r pd_int)))) (pd_r pd_int)) (pwd_and1 (ptd_cmpV 4 (op_eqD hr.units) ro_eq (pd_r (pn_d (pn_lst pad_nil))))))))
    (pssd_one (psd_ret pd_bl))
    pssd_nil)
    (pssd_one (psd_ret (pd_if (ptd_cmpV 4 (op_eqD hr.units) ro_eq (pd_r (pn_d (pn_lst pad_nil)))) (pd_cmpV 3 op_isN ro_is (pd_r pd_non)) (pd_cmpV 3 (op_inD (u65 hr)) ro_inDeep (pr_var 4)))))))) math__law_triple_right
set_option maxHeartbeats 2000000 in
theorem ok_is_party (T : Txt K mg A D) : FnOk P w K mg base CX0 4 (A 11) (D 11) ps_is_party (spD m_is_party) := by
  obtain ⟨ds_is_count_2, v_is_count_2, b_is_count_2⟩ := bi_is_count_2 T
  exact fn_D (bd := bd_is_party) T.fun_11 sc_is_party mlen_is_party (fun cdv A' outer s H E hr =>
    (pssd_cons (psd_if (ptd_w (pwd_or (ptd_not (ptd_val (pd_call ((ok_is_tuple_of T).mono (by decide)) hr T.g_3 T.fun_3.kp (bi_is_tuple_of T) .nil (fun _ => .nil) (pad_cons (pd_var 0) (pad_cons pd_int pad_nil))))) (pwd_or (ptd_not (ptd_val (pd_call ((ok_is_count T).mono (by decide)) hr T.g_2 T.fun_2.kp b_is_count_2 v_is_count_2 (fun _ => .nil) (pad_cons (pd_ixV 0 ix_seq ro_ix (pd_r pd_int)) (pad_cons pd_int pad_nil))))) (pwd_or1 (ptd_not (ptd_val (pd_is1 T.nb_isinstance T.nb_list (pd_r (pd_ixV 0 ix_seq ro_ix (pd_r pd_int))))))))))
    (pssd_one (psd_ret pd_bl))
    pssd_nil)
    (pssd_one (psd_ret (pd_cb1 (cr_all rfl) rc_all T.nb_all (pd_r (pn_d (pn_lc rfl sc_is_party.nd (pid_enum T.nb_enumerate (pd_ixV 0 ix_seq ro_ix (pd_r pd_int))) (blkOk_by (own := [("guest", 1), ("row", 2)]) (by first | decide +kernel | kernel_rfl)) (fun _ _ _ _ _ => (pgd_tup rfl (pgsd_cons (pgd_name 1 sc_is_party.nd) (pgsd_cons (pgd_name 2 sc_is_party.nd) pgsd_nil)) (len_cons any_name (len_cons any_name len_nil)))) (fun _ _ _ _ _ => ptsd_nil) (fun _ _ _ _ _ => (pd_call ((ok_is_row T).mono (by decide)) hr T.g_10 T.fun_10.kp (bi_is_row T) .nil (fun _ => .nil) (pad_cons (pd_ixV 0 ix_seq ro_ix (pd_r pd_int)) (pad_cons (pd_var 1) (pad_cons (pd_var 2) pad_nil))))))))))))) math_is_party
set_option maxHeartbeats 2000000 in
theorem ok_check_guest (T : Txt K mg A D) : FnOk P w K mg base CX0 4 (A 14) (D 14) ps_check_guest (spD m_check_guest) := by
  exact fn_D (bd := bd_check_guest) T.fun_14 sc_check_guest mlen_check_guest (fun cdv A' outer s H E hr =>
    (pssd_one (psd_if (ptd_not (ptd_val (pd_call ((ok_is_guest T).mono (by decide)) hr T.g_13 T.fun_13.kp (bi_is_guest T) .nil (fun _ => .nil) (pad_cons (pd_var 0) (pad_cons (pd_var 1) pad_nil)))))
    (pssd_one psd_never)
    pssd_nil))) math_check_guest
set_option maxHeartbeats 2000000 in
theorem ok__law_party (T : Txt K mg A D) : FnOk P w K mg base CX0 4 (A 43) (D 43) ps__law_party (spP m__law_party) := by
  exact fn_P (bd := bd__law_party) T.fun_43 sc__law_party mlen__law_party (fun cdv A' outer s H E hr =>
    (pssd_cons (psd_unp (pd_tup (pad_cons (pd_callP 0 ((ok__law_draw T).mono (by decide)) hr T.g_34 T.fun_34.kp (bi__law_draw T) .nil (fun _ => .nil) (pad_cons pd_int pad_nil)) (pad_cons (pd_op op_addU ro_add pd_int (pd_r (pd_callP 0 ((ok__law_draw T).mono (by decide)) hr T.g_34 T.fun_34.kp (bi__law_draw T) .nil (fun _ => .nil) (pad_cons pd_int pad_nil)))) (pad_cons (pd_callP 0 ((ok__law_draw T).mono (by decide)) hr T.g_34 T.fun_34.kp (bi__law_draw T) .nil (fun _ => .nil) (pad_cons pd_int pad_nil)) pad_nil)))) (pgd_tup rfl (pgsd_cons (pgd_name 1 sc__law_party.nd) (pgsd_cons (pgd_name 2 sc__law_party.nd) (pgsd_cons (pgd_name 3 sc__law_party.nd) pgsd_nil))) (len_cons any_name (len_cons any_name (len_cons any_name len_nil)))))
    (pssd_cons (psd_unpVN 4 5 rfl sc__law_party.nd (pn_d (pn_lc rfl sc__law_party.nd (pid_range1 T.nb_range (pd_var 1)) (blkOk_by (own := [("guest", 6)]) (by first | decide +kernel | kernel_rfl)) (fun _ _ _ _ _ => (pgd_name 6 sc__law_party.nd)) (fun _ _ _ _ _ => ptsd_nil) (fun _ _ _ _ _ => (pd_callP 0 ((ok__law_draw T).mono (by decide)) hr T.g_34 T.fun_34.kp (bi__law_draw T) .nil (fun _ => .nil) (pad_cons pd_int pad_nil))))) (pn_lst pad_nil))
    (pssd_cons (psd_for PassesOwn.never rfl (pid_range1 T.nb_range (pd_var 1)) (pgd_name 6 sc__law_party.nd)
    (pssd_cons (psd_setLc 7 rfl sc__law_party.nd (pid_range1 T.nb_range (pd_var 6)) (blkOk_by (own := [("late", 8)]) (by first | decide +kernel | kernel_rfl)) (fun _ _ _ _ _ => (pgd_name 8 sc__law_party.nd)) (fun _ _ _ _ _ => ptsd_nil) (fun _ _ _ _ _ => (pd_callP 0 ((ok__law_draw T).mono (by decide)) hr T.g_34 T.fun_34.kp (bi__law_draw T) .nil (fun _ => .nil) (pad_cons (pd_var 2) pad_nil))))
    (pssd_cons (psd_if (ptd_cmpV 3 (op_eqD hr.units) ro_eq (pd_r pd_int))
    (pssd_one (psd_setLc 7 rfl sc__law_party.nd (pid_range1 T.nb_range (pd_var 6)) (blkOk_by (own := [("late", 8)]) (by first | decide +kernel | kernel_rfl)) (fun _ _ _ _ _ => (pgd_name 8 sc__law_party.nd)) (fun _ _ _ _ _ => ptsd_nil) (fun _ _ _ _ _ => (pd_op op_mod ro_mod (pd_ct1 call_int1 rc_int T.nb_int (pd_r (pd_cmp (op_eqD hr.units) ro_eq (pd_ixV 4 ix_seq ro_ix (pr_var 6)) (pd_r (pd_ixV 4 ix_seq ro_ix (pr_var 8)))))) (pr_var 2)))))
    pssd_nil)
    (pssd_cons (psd_if (ptd_cmpV 3 (op_eqD hr.units) ro_eq (pd_r pd_int))
    (pssd_one (psd_setLc 7 rfl sc__law_party.nd (pid_range1 T.nb_range (pd_var 6)) (blkOk_by (own := [("late", 8)]) (by first | decide +kernel | kernel_rfl)) (fun _ _ _ _ _ => (pgd_name 8 sc__law_party.nd)) (fun _ _ _ _ _ => ptsd_nil) (fun _ _ _ _ _ => (pd_op op_mod ro_mod (pd_ct1 call_int1 rc_int T.nb_int (pd_r (pd_op op_addU ro_add (pd_ixV 4 ix_seq ro_ix (pr_var 6)) (pd_r (pd_ixV 4 ix_seq ro_ix (pr_var 8)))))) (pr_var 2)))))
    pssd_nil)
    (pssd_one (psd_app 5 (pd_var 7) (hp := pe_bm PySem.F.plainAttrs_list PySem.F.slot_list_append PySem.F.type_list_append mt_append (pv 5) (pa_cons (pd_var 7) pa_nil))))))))
    (pssd_one (psd_ret (pd_call ((ok__law_named T).mono (by decide)) hr T.g_41 T.fun_41.kp (bi__law_named T) .nil (fun _ => .nil) (pad_cons (pd_tup (pad_cons (pd_var 2) (pad_cons (pd_var 5) pad_nil))) (pad_cons (pd_callP 0 ((ok__law_shuffled T).mono (by decide)) hr T.g_37 T.fun_37.kp (bi__law_shuffled T) .nil (fun _ => .nil) (pad_cons (pn_d (pn_listRg1 rfl T.nb_range T.nb_list (pd_var 1))) pad_nil)) pad_nil))))))))) math__law_party
set_option maxHeartbeats 2000000 in
theorem ok_check_party (T : Txt K mg A D) : FnOk P w K mg base CX0 5 (A 12) (D 12) ps_check_party (spD m_check_party) := by
  exact fn_D (bd := bd_check_party) T.fun_12 sc_check_party mlen_check_party (fun cdv A' outer s H E hr =>
    (pssd_one (psd_if (ptd_not (ptd_val (pd_call ((ok_is_party T).mono (by decide)) hr T.g_11 T.fun_11.kp (bi_is_party T) .nil (fun _ => .nil) (pad_cons (pd_var 0) pad_nil))))
    (pssd_one psd_never)
    pssd_nil))) math_check_party
set_option maxHeartbeats 2000000 in
theorem ok_check_pair (T : Txt K mg A D) : FnOk P w K mg base CX0 6 (A 16) (D 16) ps_check_pair (spD m_check_pair) := by
  exact fn_D (bd := bd_check_pair) T.fun_16 sc_check_pair mlen_check_pair (fun cdv A' outer s H E hr =>
    (pssd_cons (psd_drop (pd_call ((ok_check_party T).mono (by decide)) hr T.g_12 T.fun_12.kp (bi_check_party T) .nil (fun _ => .nil) (pad_cons (pd_var 0) pad_nil)))
    (pssd_cons (psd_drop (pd_call ((ok_check_guest T).mono (by decide)) hr T.g_14 T.fun_14.kp (bi_check_guest T) .nil (fun _ => .nil) (pad_cons (pd_var 0) (pad_cons (pd_var 1) pad_nil))))
    (pssd_one (psd_if (ptd_w (pwd_or (ptd_not (ptd_val (pd_call ((ok_is_guest T).mono (by decide)) hr T.g_13 T.fun_13.kp (bi_is_guest T) .nil (fun _ => .nil) (pad_cons (pd_var 0) (pad_cons (pd_var 2) pad_nil))))) (pwd_or1 (ptd_cmpV 2 (op_eqD hr.units) ro_eq (pr_var 1)))))
    (pssd_one psd_never)
    pssd_nil))))) math_check_pair
set_option maxHeartbeats 2000000 in
theorem ok_triple_counts (T : Txt K mg A D) : FnOk P w K mg base CX0 6 (A 23) (D 23) ps_triple_counts (spD m_triple_counts) := by
  exact fn_D (bd := bd_triple_counts) T.fun_23 sc_triple_counts mlen_triple_counts (fun cdv A' outer s H E hr =>
    (pssd_cons (psd_drop (pd_call ((ok_check_party T).mono (by decide)) hr T.g_12 T.fun_12.kp (bi_check_party T) .nil (fun _ => .nil) (pad_cons (pd_var 0) pad_nil)))
    (pssd_cons (psd_setLc 1 rfl sc_triple_counts.nd (pid_list (pd_call ((ok_triples_of T).mono (by decide)) hr T.g_22 T.fun_22.kp (bi_triples_of T) .nil (fun _ => .nil) (pad_cons (pd_cb1 call_len_seq rc_len T.nb_len (pd_r (pd_ixV 0 ix_seq ro_ix (pd_r pd_int)))) pad_nil))) (blkOk_by (own := [("triple", 2)]) (by first | decide +kernel | kernel_rfl)) (fun _ _ _ _ _ => (pgd_name 2 sc_triple_counts.nd)) (fun _ _ _ _ _ => ptsd_nil) (fun _ _ _ _ _ => (pd_callT ((ok_colours_of T).mono (by decide)) hr T.g_21 T.fun_21.kp (bi_colours_of T) .nil (fun _ => .nil) (pad_cons (pd_var 0) (pad_star (pd_var 2) pad_nil)))))
    (pssd_one (psd_ret (pd_tup (pad_cons (pd_lcount (pe_bm PySem.F.plainAttrs_list PySem.F.slot_list_count PySem.F.type_list_count mt_lcount (pd_var 1) (pa_cons pd_int pa_nil))) (pad_cons (pd_lcount (pe_bm PySem.F.plainAttrs_list PySem.F.slot_list_count PySem.F.type_list_count mt_lcount (pd_var 1) (pa_cons pd_int pa_nil))) (pad_cons (pd_lcount (pe_bm PySem.F.plainAttrs_list PySem.F.slot_list_count PySem.F.type_list_count mt_lcount (pd_var 1) (pa_cons pd_int pa_nil))) pad_nil))))))))) math_triple_counts
set_option maxHeartbeats 2000000 in
theorem ok_ones_of (T : Txt K mg A D) : FnOk P w K mg base CX0 6 (A 25) (D 25) ps_ones_of (spN m_ones_of) := by
  exact fn_N (bd := bd_ones_of) T.fun_25 sc_ones_of mlen_ones_of (fun cdv A' outer s H E hr =>
    (pssd_cons (psd_drop (pd_call ((ok_check_party T).mono (by decide)) hr T.g_12 T.fun_12.kp (bi_check_party T) .nil (fun _ => .nil) (pad_cons (pd_var 0) pad_nil)))
    (pssd_one (psd_retF (pf_call ((ok_ones_there T).mono (by decide)) hr T.g_24 T.fun_24.kp (bi_ones_there T) .nil (fun _ => .nil) (pad_cons (pd_var 0) pad_nil)))))) math_ones_of
set_option maxHeartbeats 2000000 in
theorem ok_unlike_corners (T : Txt K mg A D) : FnOk P w K mg base CX0 6 (A 27) (D 27) ps_unlike_corners (spN m_unlike_corners) := by
  exact fn_N (bd := bd_unlike_corners) T.fun_27 sc_unlike_corners mlen_unlike_corners (fun cdv A' outer s H E hr =>
    (pssd_cons (psd_drop (pd_call ((ok_check_party T).mono (by decide)) hr T.g_12 T.fun_12.kp (bi_check_party T) .nil (fun _ => .nil) (pad_cons (pd_var 0) pad_nil)))
    (pssd_cons (psd_parVN 1 2 rfl sc_unlike_corners.nd (pd_cb1 call_len_seq rc_len T.nb_len (pd_r (pd_ixV 0 ix_seq ro_ix (pd_r pd_int)))) (pn_lst pad_nil))
    (pssd_cons (psd_for PassesOwn.never rfl (pid_range1 T.nb_range (pd_var 1)) (pgd_name 3 sc_unlike_corners.nd)
    (pssd_cons (psd_setDic 4 sc_unlike_corners.nd)
    (pssd_cons (psd_for PassesOwn.never rfl (pid_list (pn_d (pn_lc rfl sc_unlike_corners.nd (pid_range1 T.nb_range (pd_var 1)) (blkOk_by (own := [("late", 5)]) (by first | decide +kernel | kernel_rfl)) (fun _ _ _ _ _ => (pgd_name 5 sc_unlike_corners.nd)) (fun _ _ _ _ _ => (ptsd_one (ptd_cmpV 5 (op_neD hr.units) ro_ne (pr_var 3)))) (fun _ _ _ _ _ => (pd_var 5))))) (pgd_name 5 sc_unlike_corners.nd)
    (pssd_cons (psd_set 6 sc_unlike_corners.nd (pd_call ((ok_colour_there T).mono (by decide)) hr T.g_15 T.fun_15.kp (bi_colour_there T) .nil (fun _ => .nil) (pad_cons (pd_var 0) (pad_cons (pd_var 3) (pad_cons (pd_var 5) pad_nil)))))
    (pssd_one (psd_dputU 4 (u1 hr) (pd_op op_addU ro_add (pd_dgetD 4 (u1 hr) (pd_var 6) pd_int ⟨rfl, rfl, rfl, rfl⟩) (pd_r pd_int)) (pd_var 6)))))
    (pssd_cons (psd_set 7 sc_unlike_corners.nd (pd_cb2 (call_max2 rfl) rc_max2 T.nb_max (pd_opV 1 op_sub ro_sub (pd_r pd_int)) (pd_r pd_int)))
    (pssd_one (psd_app 2 (pd_op op_fdivW ro_div (pd_op op_sub ro_sub (pd_opV 7 op_mulU ro_mul (pr_var 7)) (pd_r (pd_cb1 (cr_sum rfl) rc_sum T.nb_sum (pd_r (pn_d (pn_lcV 4 rfl sc_unlike_corners.nd  (blkOk_by (own := [("count", 8)]) (by first | decide +kernel | kernel_rfl)) (fun _ _ _ _ _ => (pgd_name 8 sc_unlike_corners.nd)) (fun _ _ _ _ _ => ptsd_nil) (fun _ _ _ _ _ => (pd_opV 8 op_mulU ro_mul (pr_var 8))))))))) (pd_r pd_int)) (hp := pe_bm PySem.F.plainAttrs_list PySem.F.slot_list_append PySem.F.type_list_append mt_append (pv 2) (pa_cons (pd_op op_fdivW ro_div (pd_op op_sub ro_sub (pd_opV 7 op_mulU ro_mul (pr_var 7)) (pd_r (pd_cb1 (cr_sum rfl) rc_sum T.nb_sum (pd_r (pn_d (pn_lcV 4 rfl sc_unlike_corners.nd  (blkOk_by (own := [("count", 8)]) (by first | decide +kernel | kernel_rfl)) (fun _ _ _ _ _ => (pgd_name 8 sc_unlike_corners.nd)) (fun _ _ _ _ _ => ptsd_nil) (fun _ _ _ _ _ => (pd_opV 8 op_mulU ro_mul (pr_var 8))))))))) (pd_r pd_int)) pa_nil))))))))
    (pssd_one (psd_retF (pf_own 2))))))) math_unlike_corners
set_option maxHeartbeats 2000000 in
theorem ok_triple_at (T : Txt K mg A D) : FnOk P w K mg base CX0 6 (A 28) (D 28) ps_triple_at (spD m_triple_at) := by
  exact fn_D (bd := bd_triple_at) T.fun_28 sc_triple_at mlen_triple_at (fun cdv A' outer s H E hr =>
    (pssd_cons (psd_drop (pd_call ((ok_check_party T).mono (by decide)) hr T.g_12 T.fun_12.kp (bi_check_party T) .nil (fun _ => .nil) (pad_cons (pd_var 0) pad_nil)))
    (pssd_cons (psd_drop (pd_call ((ok_check_guest T).mono (by decide)) hr T.g_14 T.fun_14.kp (bi_check_guest T) .nil (fun _ => .nil) (pad_cons (pd_var 0) (pad_cons (pd_var 1) pad_nil))))
    (pssd_cons (psd_for PassesOwn.never rfl (pid_list (pd_call ((DL.FnOk.ofN (ok_ones_there T)).mono (by decide)) hr T.g_24 T.fun_24.kp (bi_ones_there T) .nil (fun _ => .nil) (pad_cons (pd_var 0) pad_nil))) (pgd_name 2 sc_triple_at.nd)
    (pssd_cons (psd_set 3 sc_triple_at.nd (pn_d (pn_lc rfl sc_triple_at.nd (pid_var 2) (blkOk_by (own := [("late", 4)]) (by first | decide +kernel | kernel_rfl)) (fun _ _ _ _ _ => (pgd_name 4 sc_triple_at.nd)) (fun _ _ _ _ _ => (ptsd_one (ptd_cmpV 4 (op_neD hr.units) ro_ne (pr_var 1)))) (fun _ _ _ _ _ => (pd_call ((ok_colour_there T).mono (by decide)) hr T.g_15 T.fun_15.kp (bi_colour_there T) .nil (fun _ => .nil) (pad_cons (pd_var 0) (pad_cons (pd_var 1) (pad_cons (pd_var 4) pad_nil))))))))
    (pssd_one (psd_if (ptd_w (pwd_or (ptd_cmpV 1 op_in_seq ro_in (pr_var 2)) (pwd_or1 (ptd_val (pd_cb1 (cr_all rfl) rc_all T.nb_all (pd_r (pn_d (pn_lc rfl sc_triple_at.nd (pid_var 3) (blkOk_by (own := [("colour", 5)]) (by first | decide +kernel | kernel_rfl)) (fun _ _ _ _ _ => (pgd_name 5 sc_triple_at.nd)) (fun _ _ _ _ _ => ptsd_nil) (fun _ _ _ _ _ => (pd_cmpV 5 (op_eqD hr.units) ro_eq (pd_r (pd_ixV 3 ix_seq ro_ix (pd_r pd_int)))))))))))))
    (pssd_one (psd_ret (pd_var 2)))
    pssd_nil))))
    (pssd_one (psd_ret pd_non)))))) math_triple_at
set_option maxHeartbeats 2000000 in
theorem ok_weighed_triples (T : Txt K mg A D) : FnOk P w K mg base CX0 6 (A 30) (D 30) ps_weighed_triples (spD m_weighed_triples) := by
  obtain ⟨ds_is_count_1, v_is_count_1, b_is_count_1⟩ := bi_is_count_1 T
  exact fn_D (bd := bd_weighed_triples) T.fun_30 sc_weighed_triples mlen_weighed_triples (fun cdv A' outer s H E hr =>
    (pssd_cons (psd_drop (pd_call ((ok_check_party T).mono (by decide)) hr T.g_12 T.fun_12.kp (bi_check_party T) .nil (fun _ => .nil) (pad_cons (pd_var 0) pad_nil)))
    (pssd_cons (psd_if (ptd_w (pwd_or (ptd_not (ptd_val (pd_is1 T.nb_isinstance T.nb_list (pr_var 1)))) (pwd_or (ptd_cmp (op_neD hr.units) ro_ne (pd_cb1 call_len_seq rc_len T.nb_len (pr_var 1)) (pd_r (pd_cb1 call_len_seq rc_len T.nb_len (pd_r (pd_ixV 0 ix_seq ro_ix (pd_r pd_int)))))) (pwd_or1 (ptd_not (ptd_val (pd_cb1 (cr_all rfl) rc_all T.nb_all (pd_r (pn_d (pn_lc rfl sc_weighed_triples.nd (pid_var 1) (blkOk_by (own := [("one", 3)]) (by first | decide +kernel | kernel_rfl)) (fun _ _ _ _ _ => (pgd_name 3 sc_weighed_triples.nd)) (fun _ _ _ _ _ => ptsd_nil) (fun _ _ _ _ _ => (pd_call ((ok_is_count T).mono (by decide)) hr T.g_2 T.fun_2.kp b_is_count_1 v_is_count_1 (fun _ => (.cons (.int 0) .nil)) (pad_cons (pd_var 3) pad_nil)))))))))))))
    (pssd_one psd_never)
    pssd_nil)
    (pssd_cons (psd_setN 2 sc_weighed_triples.nd (pn_lst (pad_cons pd_int (pad_cons pd_int (pad_cons pd_int pad_nil)))))
    (pssd_cons (psd_for PassesOwn.never rfl (pid_list (pd_call ((ok_triples_of T).mono (by decide)) hr T.g_22 T.fun_22.kp (bi_triples_of T) .nil (fun _ => .nil) (pad_cons (pd_cb1 call_len_seq rc_len T.nb_len (pd_r (pd_ixV 0 ix_seq ro_ix (pd_r pd_int)))) pad_nil))) (pgd_tup rfl (pgsd_cons (pgd_name 3 sc_weighed_triples.nd) (pgsd_cons (pgd_name 4 sc_weighed_triples.nd) (pgsd_cons (pgd_name 5 sc_weighed_triples.nd) pgsd_nil))) (len_cons any_name (len_cons any_name (len_cons any_name len_nil))))
    (pssd_cons (psd_set 6 sc_weighed_triples.nd (pd_call ((ok_colours_of T).mono (by decide)) hr T.g_21 T.fun_21.kp (bi_colours_of T) .nil (fun _ => .nil) (pad_cons (pd_var 0) (pad_cons (pd_var 3) (pad_cons (pd_var 4) (pad_cons (pd_var 5) pad_nil))))))
    (pssd_one (psd_setIx 2 (pd_op op_addU ro_add (pd_ixV 2 ix_seq ro_ix (pd_r (pd_opV 6 op_sub ro_sub (pd_r pd_int)))) (pd_r (pd_op op_mulU ro_mul (pd_op op_mulU ro_mul (pd_ixV 1 ix_seq ro_ix (pr_var 3)) (pd_r (pd_ixV 1 ix_seq ro_ix (pr_var 4)))) (pd_r (pd_ixV 1 ix_seq ro_ix (pr_var 5)))))) (pd_opV 6 op_sub ro_sub (pd_r pd_int))))))
    (pssd_one (psd_ret (pd_ct1 call_tuple_of rc_tuple T.nb_tuple (pr_var 2))))))))) math_weighed_triples
set_option maxHeartbeats 2000000 in
theorem ok_closers (T : Txt K mg A D) : FnOk P w K mg base CX0 7 (A 26) (D 26) ps_closers (spD m_closers) := by
  exact fn_D (bd := bd_closers) T.fun_26 sc_closers mlen_closers (fun cdv A' outer s H E hr =>
    (pssd_cons (psd_drop (pd_call ((ok_check_pair T).mono (by decide)) hr T.g_16 T.fun_16.kp (bi_check_pair T) .nil (fun _ => .nil) (pad_cons (pd_var 0) (pad_cons (pd_var 1) (pad_cons (pd_var 2) pad_nil)))))
    (pssd_cons (psd_set 3 sc_closers.nd (pd_call ((ok_colour_there T).mono (by decide)) hr T.g_15 T.fun_15.kp (bi_colour_there T) .nil (fun _ => .nil) (pad_cons (pd_var 0) (pad_cons (pd_var 1) (pad_cons (pd_var 2) pad_nil)))))
    (pssd_cons (psd_set 4 sc_closers.nd (pd_call ((ok_partners_there T).mono (by decide)) hr T.g_17 T.fun_17.kp (bi_partners_there T) .nil (fun _ => .nil) (pad_cons (pd_var 0) (pad_cons (pd_var 1) (pad_cons (pd_var 3) pad_nil)))))
    (pssd_one (psd_ret (pn_d (pn_lc rfl sc_closers.nd (pid_var 4) (blkOk_by (own := [("late", 5)]) (by first | decide +kernel | kernel_rfl)) (fun _ _ _ _ _ => (pgd_name 5 sc_closers.nd)) (fun _ _ _ _ _ => (ptsd_one (ptd_w (pwd_and (ptd_cmpV 5 (op_neD hr.units) ro_ne (pr_var 2)) (pwd_and1 (ptd_cmp (op_eqD hr.units) ro_eq (pd_call ((ok_colour_there T).mono (by decide)) hr T.g_15 T.fun_15.kp (bi_colour_there T) .nil (fun _ => .nil) (pad_cons (pd_var 0) (pad_cons (pd_var 2) (pad_cons (pd_var 5) pad_nil)))) (pr_var 3))))))) (fun _ _ _ _ _ => (pd_var 5)))))))))) math_closers
set_option maxHeartbeats 2000000 in
theorem st__law_same {m m' : M1} {k : Nat} (IH : FnOk P w K mg base CX0 k (A 38) (D 38) ps__law_same (spD m)) (T : Txt K mg A D) (ml : ∀ xs Q, m' xs Q → xs.length = ps__law_same.length) (mm : ∀ xs Q, m' xs Q → bd__law_same m { nx := fun _ => Q .none, rt := fun _ d _ => Q d } (startR nm__law_same xs)) : FnOk P w K mg base CX0 (k + 1) (A 38) (D 38) ps__law_same (spD m') := by
  exact fn_D (bd := bd__law_same m) T.fun_38 sc__law_same ml (fun cdv A' outer s H E hr =>
    (pssd_cons (psd_if (ptd_val (pd_isTs T.nb_isinstance (pr_var 1) (.cons (nm_ty T.nb_list) rfl (.cons (nm_ty T.nb_tuple) rfl .nil))))
    (pssd_cons (psd_set 2 sc__law_same.nd (pd_and (pd_cmp (op_eqD hr.units) ro_eq (pd_is1 T.nb_isinstance T.nb_list (pr_var 0)) (pd_r (pd_is1 T.nb_isinstance T.nb_list (pr_var 1)))) (pd_one (pd_cmp (op_eqD hr.units) ro_eq (pd_is1 T.nb_isinstance T.nb_tuple (pr_var 0)) (pd_r (pd_is1 T.nb_isinstance T.nb_tuple (pr_var 1)))))))
    (pssd_one (psd_ret (pd_and (pd_var 2) (pd_and (pd_cmp (op_eqD hr.units) ro_eq (pd_cb1 call_len_seq rc_len T.nb_len (pr_var 0)) (pd_r (pd_cb1 call_len_seq rc_len T.nb_len (pr_var 1)))) (pd_one (pd_cb1 (cr_all rfl) rc_all T.nb_all (pd_r (pn_d (pn_lc rfl sc__law_same.nd (pid_zip T.nb_zip (pd_var 0) (pd_var 1)) (blkOk_by (own := [("one", 3), ("other", 4)]) (by first | decide +kernel | kernel_rfl)) (fun _ _ _ _ _ => (pgd_tup rfl (pgsd_cons (pgd_name 3 sc__law_same.nd) (pgsd_cons (pgd_name 4 sc__law_same.nd) pgsd_nil)) (len_cons any_name (len_cons any_name len_nil)))) (fun _ _ _ _ _ => ptsd_nil) (fun _ _ _ _ _ => (pd_call IH hr T.g_38 T.fun_38.kp (bi__law_same T) .nil (fun _ => .nil) (pad_cons (pd_var 3) (pad_cons (pd_var 4) pad_nil))))))))))))))
    pssd_nil)
    (pssd_cons (psd_set 2 sc__law_same.nd (pd_and (pd_not (pd_isTs T.nb_isinstance (pr_var 0) (.cons (nm_ty T.nb_list) rfl (.cons (nm_ty T.nb_tuple) rfl (.cons (nm_ty T.nb_dict) rfl .nil))))) (pd_and (pd_cmp (op_eqD hr.units) ro_eq (pd_is1 T.nb_isinstance T.nb_int (pr_var 0)) (pd_r (pd_is1 T.nb_isinstance T.nb_int (pr_var 1)))) (pd_one (pd_cmp (op_eqD hr.units) ro_eq (pd_is1 T.nb_isinstance T.nb_str (pr_var 0)) (pd_r (pd_is1 T.nb_isinstance T.nb_str (pr_var 1))))))))
    (pssd_one (psd_ret (pd_and (pd_var 2) (pd_and (pd_cmp (op_eqD hr.units) ro_eq (pd_cmpV 0 op_isN ro_is (pd_r pd_non)) (pd_r (pd_cmpV 1 op_isN ro_is (pd_r pd_non)))) (pd_and (pd_cmp (op_eqD hr.units) ro_eq (pd_is1 T.nb_isinstance T.nb_bool (pr_var 0)) (pd_r (pd_is1 T.nb_isinstance T.nb_bool (pr_var 1)))) (pd_one (pd_cmpV 0 (op_eqD hr.units) ro_eq (pr_var 1))))))))))) mm
theorem ok_same (T : Txt K mg A D) : ∀ n : Nat, FnOk P w K mg base CX0 (n + 1) (A 38) (D 38) ps__law_same (spD (mSame n))
  | 0 => st__law_same ⟨fun _ _ _ _ ⟨_, _, _, _, _, h, _⟩ => h.elim, fun _ _ _ _ _ _ _ _ _ _ _ _ _ ⟨_, _, _, _, _, h, _⟩ => h.elim⟩ T (m := fun _ _ => False) mlen_same math_same0
  | n + 1 => st__law_same (ok_same T n) T mlen_same math_same1
theorem ok__law_same (T : Txt K mg A D) : FnOk P w K mg base CX0 9 (A 38) (D 38) ps__law_same (spD m__law_same) := ok_same T 8
set_option maxHeartbeats 2000000 in
theorem ok__law_is_right (T : Txt K mg A D) : FnG P w K mg base 10 (A 48) (D 48) ps__law_is_right (spP m__law_is_right) := by
  exact fnG_P (bd := bd__law_is_right) T.fun_48 sc__law_is_right mlen__law_is_right (fun cdv A' outer s H E hg hr =>
    (pssd_cons (psd_par3 2 3 4 rfl sc__law_is_right.nd (pd_cb1 call_len_seq rc_len T.nb_len (pd_r (pd_ixV 1 ix_seq ro_ix (pd_r pd_int)))) (pd_cb1 (call_reprD hg (u65 hr)) rc_reprT T.nb_repr (pr_var 1)) (pd_call ((ok__law_ones T).mono (by decide)) hr T.g_45 T.fun_45.kp (bi__law_ones T) .nil (fun _ => .nil) (pad_cons (pd_var 1) pad_nil)))
    (pssd_cons (psd_setLc 5 rfl sc__law_is_right.nd (pid_range1 T.nb_range (pd_var 2)) (blkOk_by (own := [("guest", 18)]) (by first | decide +kernel | kernel_rfl)) (fun _ _ _ _ _ => (pgd_name 18 sc__law_is_right.nd)) (fun _ _ _ _ _ => ptsd_nil) (fun _ _ _ _ _ => (pd_call ((ok__law_counts T).mono (by decide)) hr T.g_44 T.fun_44.kp (bi__law_counts T) .nil (fun _ => .nil) (pad_cons (pd_var 1) (pad_cons (pd_var 18) pad_nil)))))
    (pssd_cons (psd_setLc 6 rfl sc__law_is_right.nd (pid_var 5) (blkOk_by (own := [("row", 19)]) (by first | decide +kernel | kernel_rfl)) (fun _ _ _ _ _ => (pgd_name 19 sc__law_is_right.nd)) (fun _ _ _ _ _ => ptsd_nil) (fun _ _ _ _ _ => (pd_op op_fdivW ro_div (pd_op op_sub ro_sub (pd_op op_mulU ro_mul (pd_cb1 (cr_sum rfl) rc_sum T.nb_sum (pr_var 19)) (pd_r (pd_cb1 (cr_sum rfl) rc_sum T.nb_sum (pr_var 19)))) (pd_r (pd_cb1 (cr_sum rfl) rc_sum T.nb_sum (pd_r (pn_d (pn_lc rfl sc__law_is_right.nd (pid_var 19) (blkOk_by (own := [("number", 21)]) (by first | decide +kernel | kernel_rfl)) (fun _ _ _ _ _ => (pgd_name 21 sc__law_is_right.nd)) (fun _ _ _ _ _ => ptsd_nil) (fun _ _ _ _ _ => (pd_opV 21 op_mulU ro_mul (pr_var 21))))))))) (pd_r pd_int))))
    (pssd_blk (pss_cons (psd_tld 7 sc__law_is_right.nd (ptl_F (pf_call ((ok_ones_of T).mono (by decide)) hr T.g_25 T.fun_25.kp (bi_ones_of T) .nil (fun _ => .nil) (pad_cons (pd_var 1) pad_nil)) (ptl_F (pf_callK0 (ix := [0]) ((ok_unlike_corners T).mono (by decide)) hr T.g_27 T.fun_27.kp (kb_unlike_corners_0_party T) (pkd_cons (pd_var 1) pkd_nil)) (ptl_D (pd_call ((ok_triple_counts T).mono (by decide)) hr T.g_23 T.fun_23.kp (bi_triple_counts T) .nil (fun _ => .nil) (pad_cons (pd_var 1) pad_nil)) ptl_nil))))
    (pss_cons (psd_if (ptd_w (pwd_or (ptd_not (ptd_val (pd_call ((ok__law_same T).mono (by decide)) hr T.g_38 T.fun_38.kp (bi__law_same T) .nil (fun _ => .nil) (pad_cons (pd_var 7) (pad_cons (pn_d (pn_lst (pad_cons (pd_var 4) (pad_cons (pd_var 6) (pad_cons (pd_call ((ok__law_weighed T).mono (by decide)) hr T.g_47 T.fun_47.kp (bi__law_weighed T) .nil (fun _ => .nil) (pad_cons (pd_var 1) (pad_cons (pd_op op_mulU ro_mul (pn_d (pn_lst (pad_cons pd_int pad_nil))) (pr_var 2)) (pad_cons (pd_var 4) pad_nil)))) pad_nil))))) pad_nil))))) (pwd_or1 (ptd_cmp (op_neD hr.units) ro_ne (pd_cb1 (cr_sum rfl) rc_sum T.nb_sum (pr_var 6)) (pd_r (pd_op op_addU ro_add (pd_op op_mulU ro_mul pd_int (pd_r (pd_ix ix_seq ro_ix (pd_ixV 7 ix_seq ro_ix (pd_r pd_int)) (pd_r pd_int)))) (pd_r (pd_op op_mulU ro_mul pd_int (pd_r (pd_ix ix_seq ro_ix (pd_ixV 7 ix_seq ro_ix (pd_r pd_int)) (pd_r pd_int)))))))))))
    (pssd_one (psd_ret pd_bl))
    pssd_nil)
    (pss_cons (psd_set 8 sc__law_is_right.nd (pd_callP 0 ((ok__law_one_of T).mono (by decide)) hr T.g_35 T.fun_35.kp (bi__law_one_of T) .nil (fun _ => .nil) (pad_cons (pn_d (pn_lst (pad_cons pd_int (pad_cons pd_int (pad_cons (pd_op op_powB ro_pow pd_int (pd_r pd_int)) (pad_cons (pd_op op_powB ro_pow pd_int (pd_r pd_int)) pad_nil)))))) pad_nil)))
    (pss_cons (psd_set 9 sc__law_is_right.nd (pn_d (pn_lc rfl sc__law_is_right.nd (pid_range1 T.nb_range (pd_var 2)) (blkOk_by (own := [("guest", 18)]) (by first | decide +kernel | kernel_rfl)) (fun _ _ _ _ _ => (pgd_name 18 sc__law_is_right.nd)) (fun _ _ _ _ _ => ptsd_nil) (fun _ _ _ _ _ => (pd_op op_mulU ro_mul (pd_callP 0 ((ok__law_draw T).mono (by decide)) hr T.g_34 T.fun_34.kp (bi__law_draw T) .nil (fun _ => .nil) (pad_cons (pd_var 8) pad_nil)) (pd_r (pd_ct1 call_int1 rc_int T.nb_int (pd_r (pd_cmp op_gt ro_gt (pd_callP 0 ((ok__law_draw T).mono (by decide)) hr T.g_34 T.fun_34.kp (bi__law_draw T) .nil (fun _ => .nil) (pad_cons pd_int pad_nil)) (pd_r pd_int))))))))))
    (pss_cons (psd_if (ptd_not (ptd_val (pd_call ((ok__law_same T).mono (by decide)) hr T.g_38 T.fun_38.kp (bi__law_same T) .nil (fun _ => .nil) (pad_cons (pd_callK (n := 1) (ix := [0, 1]) ((ok_weighed_triples T).mono (by decide)) hr T.g_30 T.fun_30.kp (kb_weighed_triples_1_weights T) (pad_cons (pd_var 1) pad_nil) (pkd_cons (pd_ct1 call_list_of rc_list T.nb_list (pr_var 9)) pkd_nil)) (pad_cons (pd_call ((ok__law_weighed T).mono (by decide)) hr T.g_47 T.fun_47.kp (bi__law_weighed T) .nil (fun _ => .nil) (pad_cons (pd_var 1) (pad_cons (pd_var 9) (pad_cons (pd_var 4) pad_nil)))) pad_nil)))))
    (pssd_one (psd_ret pd_bl))
    pssd_nil)
    (pss_cons (psd_set 10 sc__law_is_right.nd (pd_callP 0 ((ok__law_shuffled T).mono (by decide)) hr T.g_37 T.fun_37.kp (bi__law_shuffled T) .nil (fun _ => .nil) (pad_cons (pn_d (pn_listRg1 rfl T.nb_range T.nb_list (pd_var 2))) pad_nil)))
    (pss_cons (psd_par 11 12 rfl sc__law_is_right.nd (pd_call ((ok__law_named T).mono (by decide)) hr T.g_41 T.fun_41.kp (bi__law_named T) .nil (fun _ => .nil) (pad_cons (pd_var 1) (pad_cons (pd_var 10) pad_nil))) (pn_d (pn_lc rfl sc__law_is_right.nd (pid_var 10) (blkOk_by (own := [("guest", 18)]) (by first | decide +kernel | kernel_rfl)) (fun _ _ _ _ _ => (pgd_name 18 sc__law_is_right.nd)) (fun _ _ _ _ _ => ptsd_nil) (fun _ _ _ _ _ => (pd_ixV 9 ix_seq ro_ix (pr_var 18))))))
    (pss_cons (psd_if (ptd_not (ptd_val (pd_call ((ok__law_same T).mono (by decide)) hr T.g_38 T.fun_38.kp (bi__law_same T) .nil (fun _ => .nil) (pad_cons (pn_d (pn_lst (pad_cons (pd_call ((ok_triple_counts T).mono (by decide)) hr T.g_23 T.fun_23.kp (bi_triple_counts T) .nil (fun _ => .nil) (pad_cons (pd_var 11) pad_nil)) (pad_cons (pd_call ((ok_weighed_triples T).mono (by decide)) hr T.g_30 T.fun_30.kp (bi_weighed_triples T) .nil (fun _ => .nil) (pad_cons (pd_var 11) (pad_cons (pd_var 12) pad_nil))) pad_nil)))) (pad_cons (pn_d (pn_lst (pad_cons (pd_ixV 7 ix_seq ro_ix (pd_r pd_int)) (pad_cons (pd_call ((ok__law_weighed T).mono (by decide)) hr T.g_47 T.fun_47.kp (bi__law_weighed T) .nil (fun _ => .nil) (pad_cons (pd_var 1) (pad_cons (pd_var 9) (pad_cons (pd_var 4) pad_nil)))) pad_nil)))) pad_nil)))))
    (pssd_one (psd_ret pd_bl))
    pssd_nil)
    (pss_cons (psd_for PassesOwn.never rfl (pid_range1 T.nb_range pd_int) (pgd_name 13 sc__law_is_right.nd)
    (pssd_one (psd_if (ptd_cmpV 2 op_gt ro_gt (pd_r pd_int))
    (pssd_cons (psd_unp (pd_tup (pad_cons (pd_ixV 10 ix_seq ro_ix (pd_r (pd_opV 13 op_mod ro_mod (pr_var 2)))) (pad_cons (pd_ixV 10 ix_seq ro_ix (pd_r (pd_op op_mod ro_mod (pd_opV 13 op_addU ro_add (pd_r pd_int)) (pr_var 2)))) pad_nil))) (pgd_tup rfl (pgsd_cons (pgd_name 14 sc__law_is_right.nd) (pgsd_cons (pgd_name 15 sc__law_is_right.nd) pgsd_nil)) (len_cons any_name (len_cons any_name len_nil))))
    (pssd_cons (psd_set 16 sc__law_is_right.nd (pd_call ((ok__law_colour T).mono (by decide)) hr T.g_40 T.fun_40.kp (bi__law_colour T) .nil (fun _ => .nil) (pad_cons (pd_var 1) (pad_cons (pd_var 14) (pad_cons (pd_var 15) pad_nil)))))
    (pssd_cons (psd_setLc 17 rfl sc__law_is_right.nd (pid_range1 T.nb_range (pd_var 2)) (blkOk_by (own := [("far", 20)]) (by first | decide +kernel | kernel_rfl)) (fun _ _ _ _ _ => (pgd_name 20 sc__law_is_right.nd)) (fun _ _ _ _ _ => (ptsd_one (ptd_w (pwd_and (ptd_cmpV 20 op_notIn_seq ro_in (pd_r (pn_d (pn_lst (pad_cons (pd_var 14) (pad_cons (pd_var 15) pad_nil)))))) (pwd_and (ptd_cmp (op_eqD hr.units) ro_eq (pd_call ((ok__law_colour T).mono (by decide)) hr T.g_40 T.fun_40.kp (bi__law_colour T) .nil (fun _ => .nil) (pad_cons (pd_var 1) (pad_cons (pd_var 14) (pad_cons (pd_var 20) pad_nil)))) (pr_var 16)) (pwd_and1 (ptd_cmp (op_eqD hr.units) ro_eq (pd_call ((ok__law_colour T).mono (by decide)) hr T.g_40 T.fun_40.kp (bi__law_colour T) .nil (fun _ => .nil) (pad_cons (pd_var 1) (pad_cons (pd_var 15) (pad_cons (pd_var 20) pad_nil)))) (pr_var 16)))))))) (fun _ _ _ _ _ => (pd_var 20)))
    (pssd_one (psd_if (ptd_not (ptd_val (pd_call ((ok__law_same T).mono (by decide)) hr T.g_38 T.fun_38.kp (bi__law_same T) .nil (fun _ => .nil) (pad_cons (pd_callK (n := 2) (ix := [0, 1, 2]) ((ok_closers T).mono (by decide)) hr T.g_26 T.fun_26.kp (kb_closers_2_other T) (pad_cons (pd_var 1) (pad_cons (pd_var 14) pad_nil)) (pkd_cons (pd_var 15) pkd_nil)) (pad_cons (pd_var 17) pad_nil)))))
    (pssd_one (psd_ret pd_bl))
    pssd_nil)))))
    pssd_nil)))
    (pss_cons (psd_for PassesOwn.never rfl (pid_list (pn_d (pn_slV 10 pod_none (pod_some pd_int)))) (pgd_name 18 sc__law_is_right.nd)
    (pssd_one (psd_if (ptd_not (ptd_val (pd_call ((ok__law_triple_right T).mono (by decide)) hr T.g_50 T.fun_50.kp (bi__law_triple_right T) .nil (fun _ => .nil) (pad_cons (pd_var 1) (pad_cons (pd_var 18) (pad_cons (pd_var 4) (pad_cons (pd_call ((ok_triple_at T).mono (by decide)) hr T.g_28 T.fun_28.kp (bi_triple_at T) .nil (fun _ => .nil) (pad_cons (pd_var 1) (pad_cons (pd_var 18) pad_nil))) pad_nil)))))))
    (pssd_one (psd_ret pd_bl))
    pssd_nil)))
    (pss_cons (ps_expr (pe_bm PySem.F.plainAttrs_list PySem.F.slot_list_append PySem.F.type_list_append mt_append (pe_ix ix_seq (pv 7) pe_int (by intro _ _; rfl)) (pa_cons pe_str pa_nil)))
    (pssd_one (psd_ret (pd_and (pd_call ((ok__law_same T).mono (by decide)) hr T.g_38 T.fun_38.kp (bi__law_same T) .nil (fun _ => .nil) (pad_cons (pd_call ((DL.FnOk.ofN (ok_ones_of T)).mono (by decide)) hr T.g_25 T.fun_25.kp (bi_ones_of T) .nil (fun _ => .nil) (pad_cons (pd_var 1) pad_nil)) (pad_cons (pd_var 4) pad_nil))) (pd_one (pd_cmp (op_eqD hr.units) ro_eq (pd_cb1 (call_reprD hg (u65 hr)) rc_reprT T.nb_repr (pr_var 1)) (pr_var 3))))))))))))))))) (gd_cons (gd_cons (gd_cons (gd_cons (gd_cons (gd_cons (gd_cons (gd_cons (gd_cons (gd_cons gd_app0))))))))))))))) math__law_is_right
set_option maxHeartbeats 2000000 in
theorem ok_law (T : Txt K mg A D) : FnG P w K mg base 11 (A 51) (D 51) ps_law (spL K 63) := by
  exact law_D (de := sd_law K) (db := bd_law K) T.fun_51 sc_law rfl (fun cdv A' outer s H E hg hr =>
    (pss_law 1 2 PassesOwn.never rfl sc_law.nd (pd_callS 0 ((ok__law_purses T).mono (by decide)) hr T.g_36 T.fun_36.kp (bi__law_purses T) .nil (fun _ => .nil) (pad_cons pd_int pad_nil))
    (pssd_one (psd_if (ptd_not (ptd_val (pd_callPG 1 ((ok__law_is_right T).mono (by decide)) hg hr T.g_48 T.fun_48.kp (bi__law_is_right T) .nil (fun _ => .nil) (pad_cons (pd_callP 1 ((ok__law_party T).mono (by decide)) hr T.g_43 T.fun_43.kp (bi__law_party T) .nil (fun _ => .nil) pad_nil) pad_nil))))
    (pssd_one (psd_ret pd_bl))
    pssd_nil)))) math_law
end
end K18

set_option Elab.async false
set_option linter.all false
set_option maxRecDepth 100000
set_option maxHeartbeats 1000000
namespace K18
open PySem L2 Evl PyProof.Rows RZ DL
section
theorem mk0 {K : PySem.W.Frag} {x qual : Str} {params : Arguments} {body : List Stmt} {scope : Scope} {f : Addr} {oc : Value} {od an : Option Addr} {osl : Array (Option Value)} {kV doc pm cdv ct : Value} (l : K.lookup f = some ⟨oc, od, .func (PySem.W.fnOf x qual params body scope .none kV doc pm an cdv ct), osl⟩) (c : PySem.W.codeIn K cdv qual = true) (k : PySem.W.keepIn K (.ref f) = true) :
    FunD K x qual params body scope [] [] f (PySem.W.fnOf x qual params body scope .none kV doc pm an cdv ct) := ⟨⟨oc, od, .none, kV, doc, pm, an, cdv, ct, osl, rfl, l, c, .inl ⟨rfl, rfl⟩, .inl rfl⟩, k⟩
theorem mkD {K : PySem.W.Frag} {x qual : Str} {params : Arguments} {body : List Stmt} {scope : Scope} {f T : Addr} {oc : Value} {od an : Option Addr} {osl : Array (Option Value)} {kV doc pm cdv ct : Value} {ob : Obj} {n : Nat} {v : V} {vs : List V} {its : List Value} (l : K.lookup f = some ⟨oc, od, .func (PySem.W.fnOf x qual params body scope (.ref T) kV doc pm an cdv ct), osl⟩) (c : PySem.W.codeIn K cdv qual = true) (k : PySem.W.keepIn K (.ref f) = true)
    (t : K.lookup T = some ob) (s : ob.data = .seq its.toArray n) (r : Vals (v :: vs) its) : FunD K x qual params body scope (v :: vs) [] f (PySem.W.fnOf x qual params body scope (.ref T) kV doc pm an cdv ct) :=
  ⟨⟨oc, od, .ref T, kV, doc, pm, an, cdv, ct, osl, rfl, l, c, .inr ⟨fun z => (nomatch z), T, ob, its, n, rfl, t, s, r⟩, .inl rfl⟩, k⟩
theorem mk_any {K : PySem.W.Frag} {x qual : Str} {params : Arguments} {body : List Stmt} {scope : Scope} {dvs : List V} {kws : List (Str × V)} {f g : Addr} {fd : FuncData} (h : FunD K x qual params body scope dvs kws f fd) : ∃ fd, FunD K x qual params body scope dvs kws f fd := ⟨fd, h⟩
theorem all_mk {l : PySem.W.OpenLaw} {w : World} {K : PySem.W.Frag} {h : Heap} {mg : Str → Option Value} {fa : Addr} (X : K.In h) (G : h.Ns mainGlobals mg) (hfa : mg "law" = some (.ref fa))
    {f1 : Addr} {od1 an1 : Option Addr} {sl1 : Array (Option Value)} {oc1 kV1 dc1 pm1 cd1 ct1 : Value}
    {f2 : Addr} {od2 an2 : Option Addr} {sl2 : Array (Option Value)} {oc2 kV2 dc2 pm2 cd2 ct2 : Value}
    {T2 : Addr} {ob2 : Obj} {n2 : Nat} {its2 : List Value}
    {f3 : Addr} {od3 an3 : Option Addr} {sl3 : Array (Option Value)} {oc3 kV3 dc3 pm3 cd3 ct3 : Value}
    {f10 : Addr} {od10 an10 : Option Addr} {sl10 : Array (Option Value)} {oc10 kV10 dc10 pm10 cd10 ct10 : Value}
    {f11 : Addr} {od11 an11 : Option Addr} {sl11 : Array (Option Value)} {oc11 kV11 dc11 pm11 cd11 ct11 : Value}
    {f12 : Addr} {od12 an12 : Option Addr} {sl12 : Array (Option Value)} {oc12 kV12 dc12 pm12 cd12 ct12 : Value}
    {f13 : Addr} {od13 an13 : Option Addr} {sl13 : Array (Option Value)} {oc13 kV13 dc13 pm13 cd13 ct13 : Value}
    {f14 : Addr} {od14 an14 : Option Addr} {sl14 : Array (Option Value)} {oc14 kV14 dc14 pm14 cd14 ct14 : Value}
    {f15 : Addr} {od15 an15 : Option Addr} {sl15 : Array (Option Value)} {oc15 kV15 dc15 pm15 cd15 ct15 : Value}
    {f16 : Addr} {od16 an16 : Option Addr} {sl16 : Array (Option Value)} {oc16 kV16 dc16 pm16 cd16 ct16 : Value}
    {f17 : Addr} {od17 an17 : Option Addr} {sl17 : Array (Option Value)} {oc17 kV17 dc17 pm17 cd17 ct17 : Value}
    {f21 : Addr} {od21 an21 : Option Addr} {sl21 : Array (Option Value)} {oc21 kV21 dc21 pm21 cd21 ct21 : Value}
    {f22 : Addr} {od22 an22 : Option Addr} {sl22 : Array (Option Value)} {oc22 kV22 dc22 pm22 cd22 ct22 : Value}
    {f23 : Addr} {od23 an23 : Option Addr} {sl23 : Array (Option Value)} {oc23 kV23 dc23 pm23 cd23 ct23 : Value}
    {f24 : Addr} {od24 an24 : Option Addr} {sl24 : Array (Option Value)} {oc24 kV24 dc24 pm24 cd24 ct24 : Value}
    {f25 : Addr} {od25 an25 : Option Addr} {sl25 : Array (Option Value)} {oc25 kV25 dc25 pm25 cd25 ct25 : Value}
    {f26 : Addr} {od26 an26 : Option Addr} {sl26 : Array (Option Value)} {oc26 kV26 dc26 pm26 cd26 ct26 : Value}
    {f27 : Addr} {od27 an27 : Option Addr} {sl27 : Array (Option Value)} {oc27 kV27 dc27 pm27 cd27 ct27 : Value}
    {f28 : Addr} {od28 an28 : Option Addr} {sl28 : Array (Option Value)} {oc28 kV28 dc28 pm28 cd28 ct28 : Value}
    {f30 : Addr} {od30 an30 : Option Addr} {sl30 : Array (Option Value)} {oc30 kV30 dc30 pm30 cd30 ct30 : Value}
    {f32 : Addr} {od32 an32 : Option Addr} {sl32 : Array (Option Value)} {oc32 kV32 dc32 pm32 cd32 ct32 : Value}
    {f33 : Addr} {od33 an33 : Option Addr} {sl33 : Array (Option Value)} {oc33 kV33 dc33 pm33 cd33 ct33 : Value}
    {f34 : Addr} {od34 an34 : Option Addr} {sl34 : Array (Option Value)} {oc34 kV34 dc34 pm34 cd34 ct34 : Value}
    {f35 : Addr} {od35 an35 : Option Addr} {sl35 : Array (Option Value)} {oc35 kV35 dc35 pm35 cd35 ct35 : Value}
    {f36 : Addr} {od36 an36 : Option Addr} {sl36 : Array (Option Value)} {oc36 kV36 dc36 pm36 cd36 ct36 : Value}
    {f37 : Addr} {od37 an37 : Option Addr} {sl37 : Array (Option Value)} {oc37 kV37 dc37 pm37 cd37 ct37 : Value}
    {f38 : Addr} {od38 an38 : Option Addr} {sl38 : Array (Option Value)} {oc38 kV38 dc38 pm38 cd38 ct38 : Value}
    {f40 : Addr} {od40 an40 : Option Addr} {sl40 : Array (Option Value)} {oc40 kV40 dc40 pm40 cd40 ct40 : Value}
    {f41 : Addr} {od41 an41 : Option Addr} {sl41 : Array (Option Value)} {oc41 kV41 dc41 pm41 cd41 ct41 : Value}
    {f43 : Addr} {od43 an43 : Option Addr} {sl43 : Array (Option Value)} {oc43 kV43 dc43 pm43 cd43 ct43 : Value}
    {f44 : Addr} {od44 an44 : Option Addr} {sl44 : Array (Option Value)} {oc44 kV44 dc44 pm44 cd44 ct44 : Value}
    {f45 : Addr} {od45 an45 : Option Addr} {sl45 : Array (Option Value)} {oc45 kV45 dc45 pm45 cd45 ct45 : Value}
    {f46 : Addr} {od46 an46 : Option Addr} {sl46 : Array (Option Value)} {oc46 kV46 dc46 pm46 cd46 ct46 : Value}
    {f47 : Addr} {od47 an47 : Option Addr} {sl47 : Array (Option Value)} {oc47 kV47 dc47 pm47 cd47 ct47 : Value}
    {f48 : Addr} {od48 an48 : Option Addr} {sl48 : Array (Option Value)} {oc48 kV48 dc48 pm48 cd48 ct48 : Value}
    {f49 : Addr} {od49 an49 : Option Addr} {sl49 : Array (Option Value)} {oc49 kV49 dc49 pm49 cd49 ct49 : Value}
    {f50 : Addr} {od50 an50 : Option Addr} {sl50 : Array (Option Value)} {oc50 kV50 dc50 pm50 cd50 ct50 : Value}
    {f51 : Addr} {od51 an51 : Option Addr} {sl51 : Array (Option Value)} {oc51 kV51 dc51 pm51 cd51 ct51 : Value}
    (a1 : PySem.W.nsIn K mainGlobals "is_whole" = some (some (.ref f1))) (l1 : K.lookup f1 = some ⟨oc1, od1, .func (PySem.W.fnOf "is_whole" "is_whole" (defArgs s_is_whole) (defBody s_is_whole) (defScope s_is_whole) .none kV1 dc1 pm1 an1 cd1 ct1), sl1⟩) (c1 : PySem.W.codeIn K cd1 "is_whole" = true) (k1 : PySem.W.keepIn K (.ref f1) = true)
    (a2 : PySem.W.nsIn K mainGlobals "is_count" = some (some (.ref f2))) (l2 : K.lookup f2 = some ⟨oc2, od2, .func (PySem.W.fnOf "is_count" "is_count" (defArgs s_is_count) (defBody s_is_count) (defScope s_is_count) (.ref T2) kV2 dc2 pm2 an2 cd2 ct2), sl2⟩) (c2 : PySem.W.codeIn K cd2 "is_count" = true) (k2 : PySem.W.keepIn K (.ref f2) = true)
    (t2 : K.lookup T2 = some ob2) (s2 : ob2.data = .seq its2.toArray n2) (r2 : Vals [V.int 0] its2)
    (a3 : PySem.W.nsIn K mainGlobals "is_tuple_of" = some (some (.ref f3))) (l3 : K.lookup f3 = some ⟨oc3, od3, .func (PySem.W.fnOf "is_tuple_of" "is_tuple_of" (defArgs s_is_tuple_of) (defBody s_is_tuple_of) (defScope s_is_tuple_of) .none kV3 dc3 pm3 an3 cd3 ct3), sl3⟩) (c3 : PySem.W.codeIn K cd3 "is_tuple_of" = true) (k3 : PySem.W.keepIn K (.ref f3) = true)
    (a10 : PySem.W.nsIn K mainGlobals "is_row" = some (some (.ref f10))) (l10 : K.lookup f10 = some ⟨oc10, od10, .func (PySem.W.fnOf "is_row" "is_row" (defArgs s_is_row) (defBody s_is_row) (defScope s_is_row) .none kV10 dc10 pm10 an10 cd10 ct10), sl10⟩) (c10 : PySem.W.codeIn K cd10 "is_row" = true) (k10 : PySem.W.keepIn K (.ref f10) = true)
    (a11 : PySem.W.nsIn K mainGlobals "is_party" = some (some (.ref f11))) (l11 : K.lookup f11 = some ⟨oc11, od11, .func (PySem.W.fnOf "is_party" "is_party" (defArgs s_is_party) (defBody s_is_party) (defScope s_is_party) .none kV11 dc11 pm11 an11 cd11 ct11), sl11⟩) (c11 : PySem.W.codeIn K cd11 "is_party" = true) (k11 : PySem.W.keepIn K (.ref f11) = true)
    (a12 : PySem.W.nsIn K mainGlobals "check_party" = some (some (.ref f12))) (l12 : K.lookup f12 = some ⟨oc12, od12, .func (PySem.W.fnOf "check_party" "check_party" (defArgs s_check_party) (defBody s_check_party) (defScope s_check_party) .none kV12 dc12 pm12 an12 cd12 ct12), sl12⟩) (c12 : PySem.W.codeIn K cd12 "check_party" = true) (k12 : PySem.W.keepIn K (.ref f12) = true)
    (a13 : PySem.W.nsIn K mainGlobals "is_guest" = some (some (.ref f13))) (l13 : K.lookup f13 = some ⟨oc13, od13, .func (PySem.W.fnOf "is_guest" "is_guest" (defArgs s_is_guest) (defBody s_is_guest) (defScope s_is_guest) .none kV13 dc13 pm13 an13 cd13 ct13), sl13⟩) (c13 : PySem.W.codeIn K cd13 "is_guest" = true) (k13 : PySem.W.keepIn K (.ref f13) = true)
    (a14 : PySem.W.nsIn K mainGlobals "check_guest" = some (some (.ref f14))) (l14 : K.lookup f14 = some ⟨oc14, od14, .func (PySem.W.fnOf "check_guest" "check_guest" (defArgs s_check_guest) (defBody s_check_guest) (defScope s_check_guest) .none kV14 dc14 pm14 an14 cd14 ct14), sl14⟩) (c14 : PySem.W.codeIn K cd14 "check_guest" = true) (k14 : PySem.W.keepIn K (.ref f14) = true)
    (a15 : PySem.W.nsIn K mainGlobals "colour_there" = some (some (.ref f15))) (l15 : K.lookup f15 = some ⟨oc15, od15, .func (PySem.W.fnOf "colour_there" "colour_there" (defArgs s_colour_there) (defBody s_colour_there) (defScope s_colour_there) .none kV15 dc15 pm15 an15 cd15 ct15), sl15⟩) (c15 : PySem.W.codeIn K cd15 "colour_there" = true) (k15 : PySem.W.keepIn K (.ref f15) = true)
    (a16 : PySem.W.nsIn K mainGlobals "check_pair" = some (some (.ref f16))) (l16 : K.lookup f16 = some ⟨oc16, od16, .func (PySem.W.fnOf "check_pair" "check_pair" (defArgs s_check_pair) (defBody s_check_pair) (defScope s_check_pair) .none kV16 dc16 pm16 an16 cd16 ct16), sl16⟩) (c16 : PySem.W.codeIn K cd16 "check_pair" = true) (k16 : PySem.W.keepIn K (.ref f16) = true)
    (a17 : PySem.W.nsIn K mainGlobals "partners_there" = some (some (.ref f17))) (l17 : K.lookup f17 = some ⟨oc17, od17, .func (PySem.W.fnOf "partners_there" "partners_there" (defArgs s_partners_there) (defBody s_partners_there) (defScope s_partners_there) .none kV17 dc17 pm17 an17 cd17 ct17), sl17⟩) (c17 : PySem.W.codeIn K cd17 "partners_there" = true) (k17 : PySem.W.keepIn K (.ref f17) = true)
    (a21 : PySem.W.nsIn K mainGlobals "colours_of" = some (some (.ref f21))) (l21 : K.lookup f21 = some ⟨oc21, od21, .func (PySem.W.fnOf "colours_of" "colours_of" (defArgs s_colours_of) (defBody s_colours_of) (defScope s_colours_of) .none kV21 dc21 pm21 an21 cd21 ct21), sl21⟩) (c21 : PySem.W.codeIn K cd21 "colours_of" = true) (k21 : PySem.W.keepIn K (.ref f21) = true)
    (a22 : PySem.W.nsIn K mainGlobals "triples_of" = some (some (.ref f22))) (l22 : K.lookup f22 = some ⟨oc22, od22, .func (PySem.W.fnOf "triples_of" "triples_of" (defArgs s_triples_of) (defBody s_triples_of) (defScope s_triples_of) .none kV22 dc22 pm22 an22 cd22 ct22), sl22⟩) (c22 : PySem.W.codeIn K cd22 "triples_of" = true) (k22 : PySem.W.keepIn K (.ref f22) = true)
    (a23 : PySem.W.nsIn K mainGlobals "triple_counts" = some (some (.ref f23))) (l23 : K.lookup f23 = some ⟨oc23, od23, .func (PySem.W.fnOf "triple_counts" "triple_counts" (defArgs s_triple_counts) (defBody s_triple_counts) (defScope s_triple_counts) .none kV23 dc23 pm23 an23 cd23 ct23), sl23⟩) (c23 : PySem.W.codeIn K cd23 "triple_counts" = true) (k23 : PySem.W.keepIn K (.ref f23) = true)
    (a24 : PySem.W.nsIn K mainGlobals "ones_there" = some (some (.ref f24))) (l24 : K.lookup f24 = some ⟨oc24, od24, .func (PySem.W.fnOf "ones_there" "ones_there" (defArgs s_ones_there) (defBody s_ones_there) (defScope s_ones_there) .none kV24 dc24 pm24 an24 cd24 ct24), sl24⟩) (c24 : PySem.W.codeIn K cd24 "ones_there" = true) (k24 : PySem.W.keepIn K (.ref f24) = true)
    (a25 : PySem.W.nsIn K mainGlobals "ones_of" = some (some (.ref f25))) (l25 : K.lookup f25 = some ⟨oc25, od25, .func (PySem.W.fnOf "ones_of" "ones_of" (defArgs s_ones_of) (defBody s_ones_of) (defScope s_ones_of) .none kV25 dc25 pm25 an25 cd25 ct25), sl25⟩) (c25 : PySem.W.codeIn K cd25 "ones_of" = true) (k25 : PySem.W.keepIn K (.ref f25) = true)
    (a26 : PySem.W.nsIn K mainGlobals "closers" = some (some (.ref f26))) (l26 : K.lookup f26 = some ⟨oc26, od26, .func (PySem.W.fnOf "closers" "closers" (defArgs s_closers) (defBody s_closers) (defScope s_closers) .none kV26 dc26 pm26 an26 cd26 ct26), sl26⟩) (c26 : PySem.W.codeIn K cd26 "closers" = true) (k26 : PySem.W.keepIn K (.ref f26) = true)
    (a27 : PySem.W.nsIn K mainGlobals "unlike_corners" = some (some (.ref f27))) (l27 : K.lookup f27 = some ⟨oc27, od27, .func (PySem.W.fnOf "unlike_corners" "unlike_corners" (defArgs s_unlike_corners) (defBody s_unlike_corners) (defScope s_unlike_corners) .none kV27 dc27 pm27 an27 cd27 ct27), sl27⟩) (c27 : PySem.W.codeIn K cd27 "unlike_corners" = true) (k27 : PySem.W.keepIn K (.ref f27) = true)
    (a28 : PySem.W.nsIn K mainGlobals "triple_at" = some (some (.ref f28))) (l28 : K.lookup f28 = some ⟨oc28, od28, .func (PySem.W.fnOf "triple_at" "triple_at" (defArgs s_triple_at) (defBody s_triple_at) (defScope s_triple_at) .none kV28 dc28 pm28 an28 cd28 ct28), sl28⟩) (c28 : PySem.W.codeIn K cd28 "triple_at" = true) (k28 : PySem.W.keepIn K (.ref f28) = true)
    (a30 : PySem.W.nsIn K mainGlobals "weighed_triples" = some (some (.ref f30))) (l30 : K.lookup f30 = some ⟨oc30, od30, .func (PySem.W.fnOf "weighed_triples" "weighed_triples" (defArgs s_weighed_triples) (defBody s_weighed_triples) (defScope s_weighed_triples) .none kV30 dc30 pm30 an30 cd30 ct30), sl30⟩) (c30 : PySem.W.codeIn K cd30 "weighed_triples" = true) (k30 : PySem.W.keepIn K (.ref f30) = true)
    (a32 : PySem.W.nsIn K mainGlobals "_law_purse" = some (some (.ref f32))) (l32 : K.lookup f32 = some ⟨oc32, od32, .func (PySem.W.fnOf "_law_purse" "_law_purse" (defArgs s__law_purse) (defBody s__law_purse) (defScope s__law_purse) .none kV32 dc32 pm32 an32 cd32 ct32), sl32⟩) (c32 : PySem.W.codeIn K cd32 "_law_purse" = true) (k32 : PySem.W.keepIn K (.ref f32) = true)
    (a33 : PySem.W.nsIn K mainGlobals "_law_mixed" = some (some (.ref f33))) (l33 : K.lookup f33 = some ⟨oc33, od33, .func (PySem.W.fnOf "_law_mixed" "_law_mixed" (defArgs s__law_mixed) (defBody s__law_mixed) (defScope s__law_mixed) .none kV33 dc33 pm33 an33 cd33 ct33), sl33⟩) (c33 : PySem.W.codeIn K cd33 "_law_mixed" = true) (k33 : PySem.W.keepIn K (.ref f33) = true)
    (a34 : PySem.W.nsIn K mainGlobals "_law_draw" = some (some (.ref f34))) (l34 : K.lookup f34 = some ⟨oc34, od34, .func (PySem.W.fnOf "_law_draw" "_law_draw" (defArgs s__law_draw) (defBody s__law_draw) (defScope s__law_draw) .none kV34 dc34 pm34 an34 cd34 ct34), sl34⟩) (c34 : PySem.W.codeIn K cd34 "_law_draw" = true) (k34 : PySem.W.keepIn K (.ref f34) = true)
    (a35 : PySem.W.nsIn K mainGlobals "_law_one_of" = some (some (.ref f35))) (l35 : K.lookup f35 = some ⟨oc35, od35, .func (PySem.W.fnOf "_law_one_of" "_law_one_of" (defArgs s__law_one_of) (defBody s__law_one_of) (defScope s__law_one_of) .none kV35 dc35 pm35 an35 cd35 ct35), sl35⟩) (c35 : PySem.W.codeIn K cd35 "_law_one_of" = true) (k35 : PySem.W.keepIn K (.ref f35) = true)
    (a36 : PySem.W.nsIn K mainGlobals "_law_purses" = some (some (.ref f36))) (l36 : K.lookup f36 = some ⟨oc36, od36, .func (PySem.W.fnOf "_law_purses" "_law_purses" (defArgs s__law_purses) (defBody s__law_purses) (defScope s__law_purses) .none kV36 dc36 pm36 an36 cd36 ct36), sl36⟩) (c36 : PySem.W.codeIn K cd36 "_law_purses" = true) (k36 : PySem.W.keepIn K (.ref f36) = true)
    (a37 : PySem.W.nsIn K mainGlobals "_law_shuffled" = some (some (.ref f37))) (l37 : K.lookup f37 = some ⟨oc37, od37, .func (PySem.W.fnOf "_law_shuffled" "_law_shuffled" (defArgs s__law_shuffled) (defBody s__law_shuffled) (defScope s__law_shuffled) .none kV37 dc37 pm37 an37 cd37 ct37), sl37⟩) (c37 : PySem.W.codeIn K cd37 "_law_shuffled" = true) (k37 : PySem.W.keepIn K (.ref f37) = true)
    (a38 : PySem.W.nsIn K mainGlobals "_law_same" = some (some (.ref f38))) (l38 : K.lookup f38 = some ⟨oc38, od38, .func (PySem.W.fnOf "_law_same" "_law_same" (defArgs s__law_same) (defBody s__law_same) (defScope s__law_same) .none kV38 dc38 pm38 an38 cd38 ct38), sl38⟩) (c38 : PySem.W.codeIn K cd38 "_law_same" = true) (k38 : PySem.W.keepIn K (.ref f38) = true)
    (a40 : PySem.W.nsIn K mainGlobals "_law_colour" = some (some (.ref f40))) (l40 : K.lookup f40 = some ⟨oc40, od40, .func (PySem.W.fnOf "_law_colour" "_law_colour" (defArgs s__law_colour) (defBody s__law_colour) (defScope s__law_colour) .none kV40 dc40 pm40 an40 cd40 ct40), sl40⟩) (c40 : PySem.W.codeIn K cd40 "_law_colour" = true) (k40 : PySem.W.keepIn K (.ref f40) = true)
    (a41 : PySem.W.nsIn K mainGlobals "_law_named" = some (some (.ref f41))) (l41 : K.lookup f41 = some ⟨oc41, od41, .func (PySem.W.fnOf "_law_named" "_law_named" (defArgs s__law_named) (defBody s__law_named) (defScope s__law_named) .none kV41 dc41 pm41 an41 cd41 ct41), sl41⟩) (c41 : PySem.W.codeIn K cd41 "_law_named" = true) (k41 : PySem.W.keepIn K (.ref f41) = true)
    (a43 : PySem.W.nsIn K mainGlobals "_law_party" = some (some (.ref f43))) (l43 : K.lookup f43 = some ⟨oc43, od43, .func (PySem.W.fnOf "_law_party" "_law_party" (defArgs s__law_party) (defBody s__law_party) (defScope s__law_party) .none kV43 dc43 pm43 an43 cd43 ct43), sl43⟩) (c43 : PySem.W.codeIn K cd43 "_law_party" = true) (k43 : PySem.W.keepIn K (.ref f43) = true)
    (a44 : PySem.W.nsIn K mainGlobals "_law_counts" = some (some (.ref f44))) (l44 : K.lookup f44 = some ⟨oc44, od44, .func (PySem.W.fnOf "_law_counts" "_law_counts" (defArgs s__law_counts) (defBody s__law_counts) (defScope s__law_counts) .none kV44 dc44 pm44 an44 cd44 ct44), sl44⟩) (c44 : PySem.W.codeIn K cd44 "_law_counts" = true) (k44 : PySem.W.keepIn K (.ref f44) = true)
    (a45 : PySem.W.nsIn K mainGlobals "_law_ones" = some (some (.ref f45))) (l45 : K.lookup f45 = some ⟨oc45, od45, .func (PySem.W.fnOf "_law_ones" "_law_ones" (defArgs s__law_ones) (defBody s__law_ones) (defScope s__law_ones) .none kV45 dc45 pm45 an45 cd45 ct45), sl45⟩) (c45 : PySem.W.codeIn K cd45 "_law_ones" = true) (k45 : PySem.W.keepIn K (.ref f45) = true)
    (a46 : PySem.W.nsIn K mainGlobals "_law_corners" = some (some (.ref f46))) (l46 : K.lookup f46 = some ⟨oc46, od46, .func (PySem.W.fnOf "_law_corners" "_law_corners" (defArgs s__law_corners) (defBody s__law_corners) (defScope s__law_corners) .none kV46 dc46 pm46 an46 cd46 ct46), sl46⟩) (c46 : PySem.W.codeIn K cd46 "_law_corners" = true) (k46 : PySem.W.keepIn K (.ref f46) = true)
    (a47 : PySem.W.nsIn K mainGlobals "_law_weighed" = some (some (.ref f47))) (l47 : K.lookup f47 = some ⟨oc47, od47, .func (PySem.W.fnOf "_law_weighed" "_law_weighed" (defArgs s__law_weighed) (defBody s__law_weighed) (defScope s__law_weighed) .none kV47 dc47 pm47 an47 cd47 ct47), sl47⟩) (c47 : PySem.W.codeIn K cd47 "_law_weighed" = true) (k47 : PySem.W.keepIn K (.ref f47) = true)
    (a48 : PySem.W.nsIn K mainGlobals "_law_is_right" = some (some (.ref f48))) (l48 : K.lookup f48 = some ⟨oc48, od48, .func (PySem.W.fnOf "_law_is_right" "_law_is_right" (defArgs s__law_is_right) (defBody s__law_is_right) (defScope s__law_is_right) .none kV48 dc48 pm48 an48 cd48 ct48), sl48⟩) (c48 : PySem.W.codeIn K cd48 "_law_is_right" = true) (k48 : PySem.W.keepIn K (.ref f48) = true)
    (a49 : PySem.W.nsIn K mainGlobals "_law_fits" = some (some (.ref f49))) (l49 : K.lookup f49 = some ⟨oc49, od49, .func (PySem.W.fnOf "_law_fits" "_law_fits" (defArgs s__law_fits) (defBody s__law_fits) (defScope s__law_fits) .none kV49 dc49 pm49 an49 cd49 ct49), sl49⟩) (c49 : PySem.W.codeIn K cd49 "_law_fits" = true) (k49 : PySem.W.keepIn K (.ref f49) = true)
    (a50 : PySem.W.nsIn K mainGlobals "_law_triple_right" = some (some (.ref f50))) (l50 : K.lookup f50 = some ⟨oc50, od50, .func (PySem.W.fnOf "_law_triple_right" "_law_triple_right" (defArgs s__law_triple_right) (defBody s__law_triple_right) (defScope s__law_triple_right) .none kV50 dc50 pm50 an50 cd50 ct50), sl50⟩) (c50 : PySem.W.codeIn K cd50 "_law_triple_right" = true) (k50 : PySem.W.keepIn K (.ref f50) = true)
    (a51 : PySem.W.nsIn K mainGlobals "law" = some (some (.ref f51))) (l51 : K.lookup f51 = some ⟨oc51, od51, .func (PySem.W.fnOf "law" "law" (defArgs s_law) (defBody s_law) (defScope s_law) .none kV51 dc51 pm51 an51 cd51 ct51), sl51⟩) (c51 : PySem.W.codeIn K cd51 "law" = true) (k51 : PySem.W.keepIn K (.ref f51) = true)
    (z_all : PySem.W.nsIn K mainGlobals "all" = some none)
    (z_bool : PySem.W.nsIn K mainGlobals "bool" = some none)
    (z_dict : PySem.W.nsIn K mainGlobals "dict" = some none)
    (z_enumerate : PySem.W.nsIn K mainGlobals "enumerate" = some none)
    (z_int : PySem.W.nsIn K mainGlobals "int" = some none)
    (z_isinstance : PySem.W.nsIn K mainGlobals "isinstance" = some none)
    (z_len : PySem.W.nsIn K mainGlobals "len" = some none)
    (z_list : PySem.W.nsIn K mainGlobals "list" = some none)
    (z_max : PySem.W.nsIn K mainGlobals "max" = some none)
    (z_min : PySem.W.nsIn K mainGlobals "min" = some none)
    (z_range : PySem.W.nsIn K mainGlobals "range" = some none)
    (z_repr : PySem.W.nsIn K mainGlobals "repr" = some none)
    (z_str : PySem.W.nsIn K mainGlobals "str" = some none)
    (z_sum : PySem.W.nsIn K mainGlobals "sum" = some none)
    (z_tuple : PySem.W.nsIn K mainGlobals "tuple" = some none)
    (z_zip : PySem.W.nsIn K mainGlobals "zip" = some none) :
    ∃ fd : FuncData, (∀ (s : Shared) (v : Value), BindsTo s fd ⟨[v], []⟩ [("script", v)]) ∧ ∀ base : Heap, K.In base → base.Ns mainGlobals mg → FnG l.prog w K mg base 11 fa fd ["script"] (spL K 63) := by
  have e := hfa.symm.trans (PySem.W.mg_of X G a51)
  cases e
  let A : Nat → Addr := fun i => match i with | 1 => f1 | 2 => f2 | 3 => f3 | 10 => f10 | 11 => f11 | 12 => f12 | 13 => f13 | 14 => f14 | 15 => f15 | 16 => f16 | 17 => f17 | 21 => f21 | 22 => f22 | 23 => f23 | 24 => f24 | 25 => f25 | 26 => f26 | 27 => f27 | 28 => f28 | 30 => f30 | 32 => f32 | 33 => f33 | 34 => f34 | 35 => f35 | 36 => f36 | 37 => f37 | 38 => f38 | 40 => f40 | 41 => f41 | 43 => f43 | 44 => f44 | 45 => f45 | 46 => f46 | 47 => f47 | 48 => f48 | 49 => f49 | 50 => f50 | 51 => fa | _ => f1
  let D : Nat → FuncData := fun i => match i with | 1 => PySem.W.fnOf "is_whole" "is_whole" (defArgs s_is_whole) (defBody s_is_whole) (defScope s_is_whole) .none kV1 dc1 pm1 an1 cd1 ct1 | 2 => PySem.W.fnOf "is_count" "is_count" (defArgs s_is_count) (defBody s_is_count) (defScope s_is_count) (.ref T2) kV2 dc2 pm2 an2 cd2 ct2 | 3 => PySem.W.fnOf "is_tuple_of" "is_tuple_of" (defArgs s_is_tuple_of) (defBody s_is_tuple_of) (defScope s_is_tuple_of) .none kV3 dc3 pm3 an3 cd3 ct3 | 10 => PySem.W.fnOf "is_row" "is_row" (defArgs s_is_row) (defBody s_is_row) (defScope s_is_row) .none kV10 dc10 pm10 an10 cd10 ct10 | 11 => PySem.W.fnOf "is_party" "is_party" (defArgs s_is_party) (defBody s_is_party) (defScope s_is_party) .none kV11 dc11 pm11 an11 cd11 ct11 | 12 => PySem.W.fnOf "check_party" "check_party" (defArgs s_check_party) (defBody s_check_party) (defScope s_check_party) .none kV12 dc12 pm12 an12 cd12 ct12 | 13 => PySem.W.fnOf "is_guest" "is_guest" (defArgs s_is_guest) (defBody s_is_guest) (defScope s_is_guest) .none kV13 dc13 pm13 an13 cd13 ct13 | 14 => PySem.W.fnOf "check_guest" "check_guest" (defArgs s_check_guest) (defBody s_check_guest) (defScope s_check_guest) .none kV14 dc14 pm14 an14 cd14 ct14 | 15 => PySem.W.fnOf "colour_there" "colour_there" (defArgs s_colour_there) (defBody s_colour_there) (defScope s_colour_there) .none kV15 dc15 pm15 an15 cd15 ct15 | 16 => PySem.W.fnOf "check_pair" "check_pair" (defArgs s_check_pair) (defBody s_check_pair) (defScope s_check_pair) .none kV16 dc16 pm16 an16 cd16 ct16 | 17 => PySem.W.fnOf "partners_there" "partners_there" (defArgs s_partners_there) (defBody s_partners_there) (defScope s_partners_there) .none kV17 dc17 pm17 an17 cd17 ct17 | 21 => PySem.W.fnOf "colours_of" "colours_of" (defArgs s_colours_of) (defBody s_colours_of) (defScope s_colours_of) .none kV21 dc21 pm21 an21 cd21 ct21 | 22 => PySem.W.fnOf "triples_of" "triples_of" (defArgs s_triples_of) (defBody s_triples_of) (defScope s_triples_of) .none kV22 dc22 pm22 an22 cd22 ct22 | 23 => PySem.W.fnOf "triple_counts" "triple_counts" (defArgs s_triple_counts) (defBody s_triple_counts) (defScope s_triple_counts) .none kV23 dc23 pm23 an23 cd23 ct23 | 24 => PySem.W.fnOf "ones_there" "ones_there" (defArgs s_ones_there) (defBody s_ones_there) (defScope s_ones_there) .none kV24 dc24 pm24 an24 cd24 ct24 | 25 => PySem.W.fnOf "ones_of" "ones_of" (defArgs s_ones_of) (defBody s_ones_of) (defScope s_ones_of) .none kV25 dc25 pm25 an25 cd25 ct25 | 26 => PySem.W.fnOf "closers" "closers" (defArgs s_closers) (defBody s_closers) (defScope s_closers) .none kV26 dc26 pm26 an26 cd26 ct26 | 27 => PySem.W.fnOf "unlike_corners" "unlike_corners" (defArgs s_unlike_corners) (defBody s_unlike_corners) (defScope s_unlike_corners) .none kV27 dc27 pm27 an27 cd27 ct27 | 28 => PySem.W.fnOf "triple_at" "triple_at" (defArgs s_triple_at) (defBody s_triple_at) (defScope s_triple_at) .none kV28 dc28 pm28 an28 cd28 ct28 | 30 => PySem.W.fnOf "weighed_triples" "weighed_triples" (defArgs s_weighed_triples) (defBody s_weighed_triples) (defScope s_weighed_triples) .none kV30 dc30 pm30 an30 cd30 ct30 | 32 => PySem.W.fnOf "_law_purse" "_law_purse" (defArgs s__law_purse) (defBody s__law_purse) (defScope s__law_purse) .none kV32 dc32 pm32 an32 cd32 ct32 | 33 => PySem.W.fnOf "_law_mixed" "_law_mixed" (defArgs s__law_mixed) (defBody s__law_mixed) (defScope s__law_mixed) .none kV33 dc33 pm33 an33 cd33 ct33 | 34 => PySem.W.fnOf "_law_draw" "_law_draw" (defArgs s__law_draw) (defBody s__law_draw) (defScope s__law_draw) .none kV34 dc34 pm34 an34 cd34 ct34 | 35 => PySem.W.fnOf "_law_one_of" "_law_one_of" (defArgs s__law_one_of) (defBody s__law_one_of) (defScope s__law_one_of) .none kV35 dc35 pm35 an35 cd35 ct35 | 36 => PySem.W.fnOf "_law_purses" "_law_purses" (defArgs s__law_purses) (defBody s__law_purses) (defScope s__law_purses) .none kV36 dc36 pm36 an36 cd36 ct36 | 37 => PySem.W.fnOf "_law_shuffled" "_law_shuffled" (defArgs s__law_shuffled) (defBody s__law_shuffled) (defScope s__law_shuffled) .none kV37 dc37 pm37 an37 cd37 ct37 | 38 => PySem.W.fnOf "_law_same" "_law_same" (defArgs s__law_same) (defBody s__law_same) (defScope s__law_same) .none kV38 dc38 pm38 an38 cd38 ct38 | 40 => PySem.W.fnOf "_law_colour" "_law_colour" (defArgs s__law_colour) (defBody s__law_colour) (defScope s__law_colour) .none kV40 dc40 pm40 an40 cd40 ct40 | 41 => PySem.W.fnOf "_law_named" "_law_named" (defArgs s__law_named) (defBody s__law_named) (defScope s__law_named) .none kV41 dc41 pm41 an41 cd41 ct41 | 43 => PySem.W.fnOf "_law_party" "_law_party" (defArgs s__law_party) (defBody s__law_party) (defScope s__law_party) .none kV43 dc43 pm43 an43 cd43 ct43 | 44 => PySem.W.fnOf "_law_counts" "_law_counts" (defArgs s__law_counts) (defBody s__law_counts) (defScope s__law_counts) .none kV44 dc44 pm44 an44 cd44 ct44 | 45 => PySem.W.fnOf "_law_ones" "_law_ones" (defArgs s__law_ones) (defBody s__law_ones) (defScope s__law_ones) .none kV45 dc45 pm45 an45 cd45 ct45 | 46 => PySem.W.fnOf "_law_corners" "_law_corners" (defArgs s__law_corners) (defBody s__law_corners) (defScope s__law_corners) .none kV46 dc46 pm46 an46 cd46 ct46 | 47 => PySem.W.fnOf "_law_weighed" "_law_weighed" (defArgs s__law_weighed) (defBody s__law_weighed) (defScope s__law_weighed) .none kV47 dc47 pm47 an47 cd47 ct47 | 48 => PySem.W.fnOf "_law_is_right" "_law_is_right" (defArgs s__law_is_right) (defBody s__law_is_right) (defScope s__law_is_right) .none kV48 dc48 pm48 an48 cd48 ct48 | 49 => PySem.W.fnOf "_law_fits" "_law_fits" (defArgs s__law_fits) (defBody s__law_fits) (defScope s__law_fits) .none kV49 dc49 pm49 an49 cd49 ct49 | 50 => PySem.W.fnOf "_law_triple_right" "_law_triple_right" (defArgs s__law_triple_right) (defBody s__law_triple_right) (defScope s__law_triple_right) .none kV50 dc50 pm50 an50 cd50 ct50 | 51 => PySem.W.fnOf "law" "law" (defArgs s_law) (defBody s_law) (defScope s_law) .none kV51 dc51 pm51 an51 cd51 ct51 | _ => PySem.W.fnOf "is_whole" "is_whole" (defArgs s_is_whole) (defBody s_is_whole) (defScope s_is_whole) .none kV1 dc1 pm1 an1 cd1 ct1
  have T : Txt K mg A D := ⟨mk0 l1 c1 k1, PySem.W.mg_of X G a1, mkD l2 c2 k2 t2 s2 r2, PySem.W.mg_of X G a2, mk0 l3 c3 k3, PySem.W.mg_of X G a3, mk0 l10 c10 k10, PySem.W.mg_of X G a10, mk0 l11 c11 k11, PySem.W.mg_of X G a11, mk0 l12 c12 k12, PySem.W.mg_of X G a12, mk0 l13 c13 k13, PySem.W.mg_of X G a13, mk0 l14 c14 k14, PySem.W.mg_of X G a14, mk0 l15 c15 k15, PySem.W.mg_of X G a15, mk0 l16 c16 k16, PySem.W.mg_of X G a16, mk0 l17 c17 k17, PySem.W.mg_of X G a17, mk0 l21 c21 k21, PySem.W.mg_of X G a21, mk0 l22 c22 k22, PySem.W.mg_of X G a22, mk0 l23 c23 k23, PySem.W.mg_of X G a23, mk0 l24 c24 k24, PySem.W.mg_of X G a24, mk0 l25 c25 k25, PySem.W.mg_of X G a25, mk0 l26 c26 k26, PySem.W.mg_of X G a26, mk0 l27 c27 k27, PySem.W.mg_of X G a27, mk0 l28 c28 k28, PySem.W.mg_of X G a28, mk0 l30 c30 k30, PySem.W.mg_of X G a30, mk0 l32 c32 k32, PySem.W.mg_of X G a32, mk0 l33 c33 k33, PySem.W.mg_of X G a33, mk0 l34 c34 k34, PySem.W.mg_of X G a34, mk0 l35 c35 k35, PySem.W.mg_of X G a35, mk0 l36 c36 k36, PySem.W.mg_of X G a36, mk0 l37 c37 k37, PySem.W.mg_of X G a37, mk0 l38 c38 k38, PySem.W.mg_of X G a38, mk0 l40 c40 k40, PySem.W.mg_of X G a40, mk0 l41 c41 k41, PySem.W.mg_of X G a41, mk0 l43 c43 k43, PySem.W.mg_of X G a43, mk0 l44 c44 k44, PySem.W.mg_of X G a44, mk0 l45 c45 k45, PySem.W.mg_of X G a45, mk0 l46 c46 k46, PySem.W.mg_of X G a46, mk0 l47 c47 k47, PySem.W.mg_of X G a47, mk0 l48 c48 k48, PySem.W.mg_of X G a48, mk0 l49 c49 k49, PySem.W.mg_of X G a49, mk0 l50 c50 k50, PySem.W.mg_of X G a50, mk0 l51 c51 k51, PySem.W.mg_of X G a51, PySem.W.mg_none_of X G z_all, PySem.W.mg_none_of X G z_bool, PySem.W.mg_none_of X G z_dict, PySem.W.mg_none_of X G z_enumerate, PySem.W.mg_none_of X G z_int, PySem.W.mg_none_of X G z_isinstance, PySem.W.mg_none_of X G z_len, PySem.W.mg_none_of X G z_list, PySem.W.mg_none_of X G z_max, PySem.W.mg_none_of X G z_min, PySem.W.mg_none_of X G z_range, PySem.W.mg_none_of X G z_repr, PySem.W.mg_none_of X G z_str, PySem.W.mg_none_of X G z_sum, PySem.W.mg_none_of X G z_tuple, PySem.W.mg_none_of X G z_zip⟩
  exact ⟨D 51, fun s v => .of_eq rfl, fun base _ _ => ok_law T⟩
end
end K18
open PySem PySem.W PyProof.Rows
set_option maxHeartbeats 0 in
theorem PySem.Challenge.cw_boundtobe_k18_whole_triples_of_twenty_fo_holds : PySem.Challenge.rw_boundtobe_k18_whole_triples_of_twenty_fo.Holds := by
  w_on; o_law; k_head; (case hw => w_witness2)
  k_fill
  refine DL.walk_G (l := PySem.Challenge.rw_boundtobe_k18_whole_triples_of_twenty_fo) (n := 63) (k := 11) (x := "script") rfl (by decide) rfl ⟨rfl, by decide, by decide⟩ (fun w h Y => PySem.W.kIn_of Y) ?F
  case F =>
    intro w mg fa h KX G hmg
    refine' K18.all_mk KX G hmg ?a1 ?l1 ?c1 ?k1 ?a2 ?l2 ?c2 ?k2 ?t2 ?s2 ?r2 ?a3 ?l3 ?c3 ?k3 ?a10 ?l10 ?c10 ?k10 ?a11 ?l11 ?c11 ?k11 ?a12 ?l12 ?c12 ?k12 ?a13 ?l13 ?c13 ?k13 ?a14 ?l14 ?c14 ?k14 ?a15 ?l15 ?c15 ?k15 ?a16 ?l16 ?c16 ?k16 ?a17 ?l17 ?c17 ?k17 ?a21 ?l21 ?c21 ?k21 ?a22 ?l22 ?c22 ?k22 ?a23 ?l23 ?c23 ?k23 ?a24 ?l24 ?c24 ?k24 ?a25 ?l25 ?c25 ?k25 ?a26 ?l26 ?c26 ?k26 ?a27 ?l27 ?c27 ?k27 ?a28 ?l28 ?c28 ?k28 ?a30 ?l30 ?c30 ?k30 ?a32 ?l32 ?c32 ?k32 ?a33 ?l33 ?c33 ?k33 ?a34 ?l34 ?c34 ?k34 ?a35 ?l35 ?c35 ?k35 ?a36 ?l36 ?c36 ?k36 ?a37 ?l37 ?c37 ?k37 ?a38 ?l38 ?c38 ?k38 ?a40 ?l40 ?c40 ?k40 ?a41 ?l41 ?c41 ?k41 ?a43 ?l43 ?c43 ?k43 ?a44 ?l44 ?c44 ?k44 ?a45 ?l45 ?c45 ?k45 ?a46 ?l46 ?c46 ?k46 ?a47 ?l47 ?c47 ?k47 ?a48 ?l48 ?c48 ?k48 ?a49 ?l49 ?c49 ?k49 ?a50 ?l50 ?c50 ?k50 ?a51 ?l51 ?c51 ?k51 ?z_all ?z_bool ?z_dict ?z_enumerate ?z_int ?z_isinstance ?z_len ?z_list ?z_max ?z_min ?z_range ?z_repr ?z_str ?z_sum ?z_tuple ?z_zip
    (case a1 => k_is); (case l1 => k_is); (case c1 => k_is); (case k1 => k_is); (case a2 => k_is); (case l2 => k_is); (case c2 => k_is); (case k2 => k_is); (case t2 => k_is); (case s2 => rfl); (case r2 => exact .cons ⟨_, rfl⟩ .nil); (case a3 => k_is); (case l3 => k_is); (case c3 => k_is); (case k3 => k_is); (case a10 => k_is); (case l10 => k_is); (case c10 => k_is); (case k10 => k_is); (case a11 => k_is); (case l11 => k_is); (case c11 => k_is); (case k11 => k_is); (case a12 => k_is); (case l12 => k_is); (case c12 => k_is); (case k12 => k_is); (case a13 => k_is); (case l13 => k_is); (case c13 => k_is); (case k13 => k_is); (case a14 => k_is); (case l14 => k_is); (case c14 => k_is); (case k14 => k_is); (case a15 => k_is); (case l15 => k_is); (case c15 => k_is); (case k15 => k_is); (case a16 => k_is); (case l16 => k_is); (case c16 => k_is); (case k16 => k_is); (case a17 => k_is); (case l17 => k_is); (case c17 => k_is); (case k17 => k_is); (case a21 => k_is); (case l21 => k_is); (case c21 => k_is); (case k21 => k_is); (case a22 => k_is); (case l22 => k_is); (case c22 => k_is); (case k22 => k_is); (case a23 => k_is); (case l23 => k_is); (case c23 => k_is); (case k23 => k_is); (case a24 => k_is); (case l24 => k_is); (case c24 => k_is); (case k24 => k_is); (case a25 => k_is); (case l25 => k_is); (case c25 => k_is); (case k25 => k_is); (case a26 => k_is); (case l26 => k_is); (case c26 => k_is); (case k26 => k_is); (case a27 => k_is); (case l27 => k_is); (case c27 => k_is); (case k27 => k_is); (case a28 => k_is); (case l28 => k_is); (case c28 => k_is); (case k28 => k_is); (case a30 => k_is); (case l30 => k_is); (case c30 => k_is); (case k30 => k_is); (case a32 => k_is); (case l32 => k_is); (case c32 => k_is); (case k32 => k_is); (case a33 => k_is); (case l33 => k_is); (case c33 => k_is); (case k33 => k_is); (case a34 => k_is); (case l34 => k_is); (case c34 => k_is); (case k34 => k_is); (case a35 => k_is); (case l35 => k_is); (case c35 => k_is); (case k35 => k_is); (case a36 => k_is); (case l36 => k_is); (case c36 => k_is); (case k36 => k_is); (case a37 => k_is); (case l37 => k_is); (case c37 => k_is); (case k37 => k_is); (case a38 => k_is); (case l38 => k_is); (case c38 => k_is); (case k38 => k_is); (case a40 => k_is); (case l40 => k_is); (case c40 => k_is); (case k40 => k_is); (case a41 => k_is); (case l41 => k_is); (case c41 => k_is); (case k41 => k_is); (case a43 => k_is); (case l43 => k_is); (case c43 => k_is); (case k43 => k_is); (case a44 => k_is); (case l44 => k_is); (case c44 => k_is); (case k44 => k_is); (case a45 => k_is); (case l45 => k_is); (case c45 => k_is); (case k45 => k_is); (case a46 => k_is); (case l46 => k_is); (case c46 => k_is); (case k46 => k_is); (case a47 => k_is); (case l47 => k_is); (case c47 => k_is); (case k47 => k_is); (case a48 => k_is); (case l48 => k_is); (case c48 => k_is); (case k48 => k_is); (case a49 => k_is); (case l49 => k_is); (case c49 => k_is); (case k49 => k_is); (case a50 => k_is); (case l50 => k_is); (case c50 => k_is); (case k50 => k_is); (case a51 => k_is); (case l51 => k_is); (case c51 => k_is); (case k51 => k_is); (case z_all => k_is); (case z_bool => k_is); (case z_dict => k_is); (case z_enumerate => k_is); (case z_int => k_is); (case z_isinstance => k_is); (case z_len => k_is); (case z_list => k_is); (case z_max => k_is); (case z_min => k_is); (case z_range => k_is); (case z_repr => k_is); (case z_str => k_is); (case z_sum => k_is); (case z_tuple => k_is); (case z_zip => k_is)


