import PyProof.Rows.All
import Wide.All
import OpenK.AllK
import Wide.FinOn
import HandS.ForMost
import HandS.Evl
import HandS.IsInst
import HandS.Wide
import HandS.WideBits
import HandS.Walk
import HandS.Style
import HandS.Defaults
import HandS.Zip
import KE.KMathGC
import HandS.Gcd
import HandS.Star
import HandS.WordsDict
import HandS.EndBits
import HandS.SetFor
import HandS.Strs
import HandS.SortRule
import HandS.SortInts
import KE.KRevSl
import HandS.More
import HandS.ForDict
import HandS.Deep
import HandS.Conv
import HandS.TupMul
import KE.DataMinMax
import HandS.TupAny
import PyProof.ReprLen
import KE.IntBitsLaws
import KE.LtData
import KE.DatumOrd
import PySem.Challenge.RW_boundtobe_k22_whole_rows_of_forty
set_option Elab.async false
set_option linter.all false
set_option maxRecDepth 100000
set_option maxHeartbeats 1000000
/-! DL: a layer of plain data over the hand layer: what stands in the slots is told as PyData, the heap is kept behind it. -/
namespace DL
open PySem L2 Evl

mutual
/-- the data at a value -/
inductive Rp (G : Hp) : V → PyData → Prop where
  | non : Rp G .non .none
  | bl (b : Bool) : Rp G (.bl b) (.bool b)
  | int (i : Int) : Rp G (.int i) (.int i)
  | str (x : Str) : Rp G (.str x) (.str x)
  | lst {a : Addr} {xs : List V} {ds : List PyData} : G a = some (.lst xs) → RpAll G xs ds → Rp G (.ref a) (.list ds)
  | tup {a : Addr} {xs : List V} {ds : List PyData} : G a = some (.tup xs) → RpAll G xs ds → Rp G (.ref a) (.tuple ds)
inductive RpAll (G : Hp) : List V → List PyData → Prop where
  | nil : RpAll G [] []
  | cons {v : V} {vs : List V} {d : PyData} {ds : List PyData} : Rp G v d → RpAll G vs ds → RpAll G (v :: vs) (d :: ds)
end
mutual
theorem Rp.mono {G G' : Hp} (e : Ex G G') : ∀ (d : PyData) (v : V), Rp G v d → Rp G' v d
  | .none, _, h => by cases h; exact .non
  | .bool b, _, h => by cases h; exact .bl b
  | .int i, _, h => by cases h; exact .int i
  | .str x, _, h => by cases h; exact .str x
  | .list ds, _, h => by
    cases h with
    | lst h1 h2 => exact .lst (e _ _ h1) (RpAll.mono e ds _ h2)
  | .tuple ds, _, h => by
    cases h with
    | tup h1 h2 => exact .tup (e _ _ h1) (RpAll.mono e ds _ h2)
  | .dict _, _, h => nomatch h
theorem RpAll.mono {G G' : Hp} (e : Ex G G') : ∀ (ds : List PyData) (vs : List V), RpAll G vs ds → RpAll G' vs ds
  | [], _, h => by cases h; exact .nil
  | d :: ds, _, h => by
    cases h with
    | cons h1 h2 => exact .cons (Rp.mono e d _ h1) (RpAll.mono e ds _ h2)
end
theorem Rp.up {G G' : Hp} {v : V} {d : PyData} (h : Rp G v d) (e : Ex G G') : Rp G' v d := Rp.mono e d v h
theorem RpAll.up {G G' : Hp} {vs : List V} {ds : List PyData} (h : RpAll G vs ds) (e : Ex G G') : RpAll G' vs ds := RpAll.mono e ds vs h
mutual
theorem Rp.dp0 {K : PySem.W.Frag} {G H : Hp} (e : Ex G H) : ∀ (d : PyData) (v : V), Rp G v d → Dp K H v d
  | .none, _, h => by cases h; exact .non
  | .bool b, _, h => by cases h; exact .bl b
  | .int i, _, h => by cases h; exact .int i
  | .str x, _, h => by cases h; exact .str x
  | .list ds, _, h => by
    cases h with
    | lst h1 h2 => exact .lst (SqL.of (e _ _ h1)) (RpAll.dp0 e ds _ h2)
  | .tuple ds, _, h => by
    cases h with
    | tup h1 h2 => exact .tup (SqT.of (e _ _ h1)) (RpAll.dp0 e ds _ h2)
  | .dict _, _, h => nomatch h
theorem RpAll.dp0 {K : PySem.W.Frag} {G H : Hp} (e : Ex G H) : ∀ (ds : List PyData) (vs : List V), RpAll G vs ds → DpAll K H vs ds
  | [], _, h => by cases h; exact .nil
  | d :: ds, _, h => by
    cases h with
    | cons h1 h2 => exact .cons (Rp.dp0 e d _ h1) (RpAll.dp0 e ds _ h2)
end
section
variable {G : Hp} {vs ws : List V} {ds es : List PyData} {v : V} {d : PyData}
theorem RpAll.len : ∀ {vs : List V} {ds : List PyData}, RpAll G vs ds → vs.length = ds.length
  | _, _, .nil => rfl
  | _, _, .cons _ t => by rw [List.length_cons, List.length_cons, RpAll.len t]
theorem RpAll.app : ∀ {vs ws : List V} {ds es : List PyData}, RpAll G vs ds → RpAll G ws es → RpAll G (vs ++ ws) (ds ++ es)
  | _, _, _, _, .nil, h => h
  | _, _, _, _, .cons r t, h => .cons r (RpAll.app t h)
theorem RpAll.take : ∀ {vs : List V} {ds : List PyData} (n : Nat), RpAll G vs ds → RpAll G (vs.take n) (ds.take n)
  | _, _, 0, _ => .nil
  | _, _, _ + 1, .nil => .nil
  | _, _, n + 1, .cons r t => .cons r (RpAll.take n t)
theorem RpAll.drop : ∀ {vs : List V} {ds : List PyData} (n : Nat), RpAll G vs ds → RpAll G (vs.drop n) (ds.drop n)
  | _, _, 0, h => h
  | _, _, _ + 1, .nil => .nil
  | _, _, n + 1, .cons _ t => RpAll.drop n t
theorem RpAll.rev : ∀ {vs : List V} {ds : List PyData}, RpAll G vs ds → RpAll G vs.reverse ds.reverse
  | _, _, .nil => .nil
  | _, _, .cons r t => by
    rw [List.reverse_cons, List.reverse_cons]
    exact RpAll.app (RpAll.rev t) (.cons r .nil)
theorem RpAll.at : ∀ {vs : List V} {ds : List PyData} {i : Nat} {d : PyData}, RpAll G vs ds → ds[i]? = some d → ∃ v, vs[i]? = some v ∧ Rp G v d
  | _, _, _, _, .nil, h => by simp at h
  | _, _, 0, _, .cons r _, h => by
    have e := Option.some.inj h
    subst e
    exact ⟨_, rfl, r⟩
  | _, _, i + 1, _, .cons _ t, h => RpAll.at (i := i) t (by simpa using h)
theorem RpAll.atv : ∀ {vs : List V} {ds : List PyData} {i : Nat} {v : V}, RpAll G vs ds → vs[i]? = some v → ∃ d, ds[i]? = some d ∧ Rp G v d
  | _, _, _, _, .nil, h => by simp at h
  | _, _, 0, _, .cons r _, h => by
    have e := Option.some.inj h
    subst e
    exact ⟨_, rfl, r⟩
  | _, _, i + 1, _, .cons _ t, h => RpAll.atv (i := i) t (by simpa using h)
theorem RpAll.put : ∀ {vs : List V} {ds : List PyData} (i : Nat) {v : V} {d : PyData}, RpAll G vs ds → Rp G v d → RpAll G (vs.set i v) (ds.set i d)
  | _, _, _, _, _, .nil, _ => .nil
  | _, _, 0, _, _, .cons _ t, h => .cons h t
  | _, _, i + 1, _, _, .cons r t, h => .cons r (RpAll.put i t h)
theorem RpAll.ints : ∀ {vs : List V} {ns : List Int}, RpAll G vs (ns.map PyData.int) → vs = ns.map V.int
  | _, [], h => by cases h; rfl
  | _, n :: ns, h => by
    cases h with
    | cons h1 h2 =>
      cases h1
      rw [RpAll.ints h2] <;> rfl
theorem RpAll.bools : ∀ {vs : List V} {bs : List Bool}, RpAll G vs (bs.map PyData.bool) → vs = bs.map V.bl
  | _, [], h => by cases h; rfl
  | _, n :: ns, h => by
    cases h with
    | cons h1 h2 =>
      cases h1
      rw [RpAll.bools h2] <;> rfl
theorem rp_ints : ∀ (ns : List Int), RpAll G (ns.map V.int) (ns.map PyData.int)
  | [] => .nil
  | n :: ns => .cons (.int n) (rp_ints ns)
end

mutual
/-- the data at a value, S: its lists in the order in which they end -/
inductive TrS (G : Hp) : V → PyData → List Addr → Prop where
  | non : TrS G .non .none []
  | bl (b : Bool) : TrS G (.bl b) (.bool b) []
  | int (i : Int) : TrS G (.int i) (.int i) []
  | str (x : Str) : TrS G (.str x) (.str x) []
  | lst {a : Addr} {xs : List V} {ds : List PyData} {S : List Addr} : G a = some (.lst xs) → TrSAll G xs ds S → TrS G (.ref a) (.list ds) (S ++ [a])
  | tup {a : Addr} {xs : List V} {ds : List PyData} {S : List Addr} : G a = some (.tup xs) → TrSAll G xs ds S → TrS G (.ref a) (.tuple ds) S
inductive TrSAll (G : Hp) : List V → List PyData → List Addr → Prop where
  | nil : TrSAll G [] [] []
  | cons {v : V} {vs : List V} {d : PyData} {ds : List PyData} {S T : List Addr} : TrS G v d S → TrSAll G vs ds T → TrSAll G (v :: vs) (d :: ds) (S ++ T)
end
mutual
/-- G' holds what this tree leans on -/
theorem TrS.to {G G' : Hp} : ∀ (d : PyData) (v : V) (S : List Addr), TrS G v d S → (∀ a xs, G a = some (.tup xs) → G' a = some (.tup xs)) → (∀ a ∈ S, ∀ o, G a = some o → G' a = some o) → TrS G' v d S
  | .none, _, _, h, _, _ => by cases h; exact .non
  | .bool b, _, _, h, _, _ => by cases h; exact .bl b
  | .int i, _, _, h, _, _ => by cases h; exact .int i
  | .str x, _, _, h, _, _ => by cases h; exact .str x
  | .list ds, _, _, h, e, l => by
    cases h with
    | lst h1 h2 => exact .lst (l _ (List.mem_append_right _ (List.mem_singleton.mpr rfl)) _ h1) (TrSAll.to ds _ _ h2 e fun a ha => l a (List.mem_append_left _ ha))
  | .tuple ds, _, _, h, e, l => by
    cases h with
    | tup h1 h2 => exact .tup (e _ _ h1) (TrSAll.to ds _ _ h2 e l)
  | .dict _, _, _, h, _, _ => nomatch h
theorem TrSAll.to {G G' : Hp} : ∀ (ds : List PyData) (vs : List V) (S : List Addr), TrSAll G vs ds S → (∀ a xs, G a = some (.tup xs) → G' a = some (.tup xs)) → (∀ a ∈ S, ∀ o, G a = some o → G' a = some o) → TrSAll G' vs ds S
  | [], _, _, h, _, _ => by cases h; exact .nil
  | d :: ds, _, _, h, e, l => by
    cases h with
    | cons h1 h2 => exact .cons (TrS.to d _ _ h1 e fun a ha => l a (List.mem_append_left _ ha)) (TrSAll.to ds _ _ h2 e fun a ha => l a (List.mem_append_right _ ha))
end
theorem TrS.mono {G G' : Hp} (e : Ex G G') (d : PyData) (v : V) (S : List Addr) (h : TrS G v d S) : TrS G' v d S := TrS.to d v S h (fun a xs z => e _ _ z) fun a _ o z => e _ _ z
mutual
theorem TrS.rp {G : Hp} : ∀ (d : PyData) (v : V) (S : List Addr), TrS G v d S → Rp G v d
  | .none, _, _, h => by cases h; exact .non
  | .bool b, _, _, h => by cases h; exact .bl b
  | .int i, _, _, h => by cases h; exact .int i
  | .str x, _, _, h => by cases h; exact .str x
  | .list ds, _, _, h => by
    cases h with
    | lst h1 h2 => exact .lst h1 (TrSAll.rp ds _ _ h2)
  | .tuple ds, _, _, h => by
    cases h with
    | tup h1 h2 => exact .tup h1 (TrSAll.rp ds _ _ h2)
  | .dict _, _, _, h => nomatch h
theorem TrSAll.rp {G : Hp} : ∀ (ds : List PyData) (vs : List V) (S : List Addr), TrSAll G vs ds S → RpAll G vs ds
  | [], _, _, h => by cases h; exact .nil
  | d :: ds, _, _, h => by
    cases h with
    | cons h1 h2 => exact .cons (TrS.rp d _ _ h1) (TrSAll.rp ds _ _ h2)
end
mutual
/-- no list in it -/
def inert : PyData → Bool
  | .list _ => false
  | .tuple ds => inertAll ds
  | .dict _ => false
  | _ => true
def inertAll : List PyData → Bool
  | [] => true
  | d :: ds => inert d && inertAll ds
end
mutual
theorem inert_tr {G : Hp} : ∀ (d : PyData) (v : V), Rp G v d → inert d = true → TrS G v d []
  | .none, _, h, _ => by cases h; exact .non
  | .bool b, _, h, _ => by cases h; exact .bl b
  | .int i, _, h, _ => by cases h; exact .int i
  | .str x, _, h, _ => by cases h; exact .str x
  | .list ds, _, h, i => nomatch i
  | .tuple ds, _, h, i => by
    cases h with
    | tup h1 h2 => exact .tup h1 (inert_trAll ds _ h2 i)
  | .dict _, _, h, _ => nomatch h
theorem inert_trAll {G : Hp} : ∀ (ds : List PyData) (vs : List V), RpAll G vs ds → inertAll ds = true → TrSAll G vs ds []
  | [], _, h, _ => by cases h; exact .nil
  | d :: ds, _, h, i => by
    have i : (inert d && inertAll ds) = true := i
    rw [Bool.and_eq_true] at i
    cases h with
    | cons h1 h2 => exact .cons (S := []) (T := []) (inert_tr d _ h1 i.1) (inert_trAll ds _ h2 i.2)
end
mutual
/-- depth below n, no list too long -/
def fitD : Nat → PyData → Bool
  | 0, _ => false
  | n + 1, .list ds => decide (ds.length ≤ 100000) && fitAll n ds
  | n + 1, .tuple ds => decide (ds.length ≤ 100000) && fitAll n ds
  | _ + 1, .dict _ => false
  | _ + 1, .str x => SeqAt.shaped (.str x)
  | _ + 1, _ => true
def fitAll : Nat → List PyData → Bool
  | _, [] => true
  | n, d :: ds => fitD n d && fitAll n ds
end
theorem fitAll_mem {n : Nat} : ∀ {ds : List PyData}, fitAll n ds = true → ∀ d ∈ ds, fitD n d = true
  | [], _, d, h => nomatch h
  | e :: ds, i, d, h => by
    have i : (fitD n e && fitAll n ds) = true := by unfold fitAll at i; exact i
    rw [Bool.and_eq_true] at i
    rcases List.mem_cons.mp h with rfl | h
    · exact i.1
    · exact fitAll_mem i.2 d h
theorem fitAll_of {n : Nat} : ∀ {ds : List PyData}, (∀ d ∈ ds, fitD n d = true) → fitAll n ds = true
  | [], _ => by unfold fitAll; rfl
  | e :: ds, h => by
    unfold fitAll
    rw [h e List.mem_cons_self, fitAll_of fun d hd => h d (List.mem_cons_of_mem _ hd)]
    rfl

/-! ### slots -/
inductive Sl where
  | no
  | val (d : PyData)
  /-- a list of one's own -/
  | own (ds : List PyData)
  /-- a list of the caller's that may be changed -/
  | pur (ds : List PyData)
  /-- a dict of one's own -/
  | dic (kvs : List (Key × PyData))
  /-- the script -/
  | scr (K : PySem.W.Frag) (ns : List Int)
  /-- data that lean on nothing new -/
  | bas (d : PyData)
  /-- data whose lists are all new and no two of them one -/
  | tld (d : PyData)
  /-- a list of one's own whose items are lists of one's own, at bs -/
  | mat (bs : List Addr) (dss : List (List PyData))
abbrev Rho := List Sl
def Sl.mt : Sl → Bool
  | .own _ => true
  | .pur _ => true
  | .dic _ => true
  | .mat _ _ => true
  | _ => false
def Sl.isM : Sl → Bool
  | .mat _ _ => true
  | _ => false
/-- what an entry of a def knows: what its data lean on, the heap, the addresses that it may change; pin: objects that are under way -/
structure Co where
  G0 : Hp
  H0 : Hp
  P : List Addr
  pin : List (Addr × HO)
structure Fin (c : Co) (G H : Hp) : Prop where
  g0 : Ex c.G0 G
  fr : ∀ a, c.H0 a ≠ none → c.G0 a = none → G a = none
  gh : Ex G H
  hh : ∀ a o, c.H0 a = some o → a ∉ c.P → H a = some o
  dom : ∀ a, c.H0 a ≠ none → H a ≠ none
inductive KvRp (G : Hp) : List (Key × V) → List (Key × PyData) → Prop where
  | nil : KvRp G [] []
  | cons {k : Key} {v : V} {d : PyData} {r : List (Key × V)} {s : List (Key × PyData)} : Rp G v d → KvRp G r s → KvRp G ((k, v) :: r) ((k, d) :: s)
def SlOk (c : Co) (G H : Hp) (x : Option (Option V)) : Sl → Prop
  | .no => True
  | .val d => ∃ v, x = some (some v) ∧ Rp G v d
  | .own ds => ∃ a xs, x = some (some (.ref a)) ∧ H a = some (.lst xs) ∧ RpAll G xs ds ∧ G a = none ∧ c.H0 a = none
  | .pur ds => ∃ a xs, x = some (some (.ref a)) ∧ H a = some (.lst xs) ∧ RpAll G xs ds ∧ G a = none ∧ a ∈ c.P
  | .dic kvs => ∃ a kws, x = some (some (.ref a)) ∧ H a = some (.dK kws) ∧ KvRp G kws kvs ∧ G a = none ∧ c.H0 a = none
  | .scr K ns => ∃ a, x = some (some (.ref a)) ∧ ((∃ o, c.H0 a = some (.frz o (.lst (ns.map V.int))) ∧ a ∉ c.P) ∨ ∀ H' : Hp, SqL K H' a (ns.map V.int))
  | .bas d => ∃ v, x = some (some v) ∧ Rp c.G0 v d
  | .tld d => ∃ v S, x = some (some v) ∧ TrS G v d S ∧ S.Nodup ∧ ∀ a ∈ S, c.H0 a = none
  | .mat bs dss => ∃ a, x = some (some (.ref a)) ∧ H a = some (.lst (bs.map V.ref)) ∧ G a = none ∧ c.H0 a = none ∧ bs.Nodup ∧ bs.length = dss.length ∧ ∀ (k : Nat) (b : Addr) (ds : List PyData), bs[k]? = some b → dss[k]? = some ds → ∃ ys, H b = some (.lst ys) ∧ RpAll G ys ds ∧ G b = none ∧ c.H0 b = none
/-- the lists within such lists lie apart -/
def Mats (P : List (Addr × HO)) (σ : L2.St) (ρ : Rho) : Prop := ∀ (i : Nat) (bs : List Addr) (dss : List (List PyData)), ρ[i]? = some (.mat bs dss) →
  (∀ (j : Nat) (s : Sl), ρ[j]? = some s → s.mt = true → ∀ b ∈ bs, σ[j]? ≠ some (some (.ref b))) ∧ (∀ (j : Nat) (bs' : List Addr) (dss' : List (List PyData)), j ≠ i → ρ[j]? = some (.mat bs' dss') → ∀ b ∈ bs, b ∉ bs') ∧ ∀ q ∈ P, q.1 ∉ bs
theorem Mats.sub {P P' : List (Addr × HO)} {σ σ' : L2.St} {ρ ρ' : Rho} (m : Mats P σ ρ) (h : ∀ (i : Nat) (s : Sl), ρ'[i]? = some s → s.mt = true → ρ[i]? = some s ∧ σ'[i]? = σ[i]?) (hP : ∀ q ∈ P', q ∈ P) : Mats P' σ' ρ' := fun i bs dss hi => by
  obtain ⟨h1, e1⟩ := h i _ hi rfl
  obtain ⟨a, b, d⟩ := m i bs dss h1
  exact ⟨fun j s hj mj x hx => by rw [(h j s hj mj).2]; exact a j s (h j s hj mj).1 mj x hx, fun j bs' dss' hji hj => b j bs' dss' hji (h j _ hj rfl).1, fun q hq => d q (hP q hq)⟩
theorem Mats.no {P : List (Addr × HO)} {σ : L2.St} {ρ : Rho} (h : ∀ (i : Nat) (s : Sl), ρ[i]? = some s → s.isM = false) : Mats P σ ρ := fun i bs dss hi => nomatch h i _ hi
structure Rep (c : Co) (G : Hp) (σ : L2.St) (H : Hp) (ρ : Rho) : Prop extends Fin c G H where
  len : ρ.length = σ.length
  ok : ∀ (i : Nat) (s : Sl), ρ[i]? = some s → SlOk c G H (σ[i]?) s
  sep : ∀ (i j : Nat) (s t : Sl), i ≠ j → ρ[i]? = some s → ρ[j]? = some t → s.mt = true → t.mt = true → σ[i]? ≠ σ[j]?
  pins : ∀ q ∈ c.pin, H q.1 = some q.2 ∧ G q.1 = none ∧ ∀ (i : Nat) (s : Sl), ρ[i]? = some s → s.mt = true → σ[i]? ≠ some (some (.ref q.1))
  mats : Mats c.pin σ ρ

theorem KvRp.up {G G' : Hp} (e : Ex G G') : ∀ {a : List (Key × V)} {b : List (Key × PyData)}, KvRp G a b → KvRp G' a b
  | _, _, .nil => .nil
  | _, _, .cons h t => .cons (h.up e) (KvRp.up e t)

section
variable {c : Co} {G G' H H' : Hp} {σ : L2.St} {ρ : Rho}
/-- the address of a slot that may be changed -/
theorem SlOk.adr {x : Option (Option V)} {s : Sl} (h : SlOk c G H x s) (m : s.mt = true) : ∃ a, x = some (some (.ref a)) ∧ G a = none ∧ H a ≠ none := by
  cases s with
  | no => cases m
  | val _ => cases m
  | scr _ _ => cases m
  | bas _ => cases m
  | tld _ => cases m
  | own ds => obtain ⟨a, xs, h1, h2, _, h4, _⟩ := h; exact ⟨a, h1, h4, by rw [h2]; exact fun z => nomatch z⟩
  | pur ds => obtain ⟨a, xs, h1, h2, _, h4, _⟩ := h; exact ⟨a, h1, h4, by rw [h2]; exact fun z => nomatch z⟩
  | dic ds => obtain ⟨a, xs, h1, h2, _, h4, _⟩ := h; exact ⟨a, h1, h4, by rw [h2]; exact fun z => nomatch z⟩
  | mat bs dss => obtain ⟨a, h1, h2, h4, _⟩ := h; exact ⟨a, h1, h4, by rw [h2]; exact fun z => nomatch z⟩
/-- the lists within -/
theorem SlOk.inn {x : Option (Option V)} {bs : List Addr} {dss : List (List PyData)} (h : SlOk c G H x (.mat bs dss)) : ∀ b ∈ bs, G b = none ∧ H b ≠ none ∧ c.H0 b = none := fun b hb => by
  obtain ⟨a, _, _, _, _, _, hl, k⟩ := h
  obtain ⟨n, hn⟩ := List.getElem?_of_mem hb
  have ln := (List.getElem?_eq_some_iff.mp hn).1
  obtain ⟨ys, k1, _, k3, k4⟩ := k n b _ hn (List.getElem?_eq_getElem (by rw [← hl]; exact ln))
  exact ⟨k3, by rw [k1]; exact fun z => (nomatch z), k4⟩
/-- data grow, the object of the slot stays -/
theorem SlOk.go {x : Option (Option V)} {s : Sl} (h : SlOk c G H x s) (e : Ex G G') (k : ∀ a o, x = some (some (.ref a)) → s.mt = true → H a = some o → H' a = some o ∧ G' a = none) (k2 : ∀ bs dss, s = .mat bs dss → ∀ b ∈ bs, ∀ o, H b = some o → H' b = some o ∧ G' b = none) : SlOk c G' H' x s := by
  cases s with
  | no => trivial
  | val d => obtain ⟨v, h1, h2⟩ := h; exact ⟨v, h1, h2.up e⟩
  | scr K ns => exact h
  | bas _ => exact h
  | tld d => obtain ⟨v, S, h1, h2, h3⟩ := h; exact ⟨v, S, h1, TrS.mono e d v S h2, h3⟩
  | own ds => obtain ⟨a, xs, h1, h2, h3, h4, h5⟩ := h; exact ⟨a, xs, h1, (k a _ h1 rfl h2).1, h3.up e, (k a _ h1 rfl h2).2, h5⟩
  | pur ds => obtain ⟨a, xs, h1, h2, h3, h4, h5⟩ := h; exact ⟨a, xs, h1, (k a _ h1 rfl h2).1, h3.up e, (k a _ h1 rfl h2).2, h5⟩
  | dic ds => obtain ⟨a, xs, h1, h2, h3, h4, h5⟩ := h; exact ⟨a, xs, h1, (k a _ h1 rfl h2).1, h3.up e, (k a _ h1 rfl h2).2, h5⟩
  | mat bs dss =>
    obtain ⟨a, h1, h2, h3, h4, h5, h6, h7⟩ := h
    refine ⟨a, h1, (k a _ h1 rfl h2).1, (k a _ h1 rfl h2).2, h4, h5, h6, fun n b ds hb hd => ?_⟩
    obtain ⟨ys, q1, q2, q3, q4⟩ := h7 n b ds hb hd
    obtain ⟨p1, p2⟩ := k2 bs dss rfl b (List.mem_of_getElem? hb) _ q1
    exact ⟨ys, p1, q2.up e, p2, q4⟩
/-- the data and the heap grow, all that stood stands; new data lie at new addresses -/
theorem Rep.grow (r : Rep c G σ H ρ) (e : Ex G G') (k : Ex H H') (n : ∀ a, H a ≠ none → G a = none → G' a = none) (gh : Ex G' H') : Rep c G' σ H' ρ where
  g0 := r.g0.trans e
  fr := fun a h1 h2 => n a (r.dom a h1) (r.fr a h1 h2)
  gh := gh
  hh := fun a o h1 h2 => k a o (r.hh a o h1 h2)
  dom := fun a h => by
    have h1 := r.dom a h
    intro z
    cases q : H a with
    | none => exact h1 q
    | some o =>
      rw [k a o q] at z
      cases z
  len := r.len
  ok := fun i s h => by
    refine (r.ok i s h).go e (fun a o h1 h2 h3 => ?_) ?_
    · obtain ⟨b, h4, h5, h6⟩ := (r.ok i s h).adr h2
      rw [h1] at h4
      cases h4
      exact ⟨k _ o h3, n _ h6 h5⟩
    · intro bs dss z b hb o ho
      subst z
      obtain ⟨q1, q2, _⟩ := (r.ok i _ h).inn b hb
      exact ⟨k _ o ho, n _ q2 q1⟩
  sep := r.sep
  pins := fun q hq => by
    obtain ⟨h1, h2, h3⟩ := r.pins q hq
    exact ⟨k _ _ h1, n _ (by rw [h1]; exact fun z => nomatch z) h2, h3⟩
  mats := r.mats
/-- a new object -/
def Out (G H : Hp) (u : V) (d : PyData) (H' : Hp) : Prop := (H' = H ∧ Rp G u d) ∨ ∃ p o, H p = none ∧ H' = upd H p o ∧ u = .ref p ∧ Rp (upd G p o) u d
theorem none_up {G H : Hp} (gh : Ex G H) {p : Addr} (h : H p = none) : G p = none := by
  cases q : G p with
  | none => rfl
  | some o =>
    rw [gh p o q] at h
    cases h
theorem Rep.new (r : Rep c G σ H ρ) {p : Addr} {o : HO} (hp : H p = none) : Rep c (upd G p o) σ (upd H p o) ρ := by
  have gp : G p = none := none_up r.gh hp
  refine r.grow (Ex.new gp) (Ex.new hp) (fun a h1 h2 => ?_) (fun a u h => ?_)
  · rw [upd_ne (fun z => h1 (by rw [z]; exact hp))]
    exact h2
  · by_cases z : a = p
    · subst z
      rw [upd_same] at h ⊢
      exact h
    · rw [upd_ne z] at h ⊢
      exact r.gh a u h
/-- a new object that is under way: no data lean on it -/
theorem Rep.newH (r : Rep c G σ H ρ) {p : Addr} {o : HO} (hp : H p = none) : Rep c G σ (upd H p o) ρ :=
  r.grow (Ex.refl G) (Ex.new hp) (fun a _ h2 => h2) (r.gh.trans (Ex.new hp))
theorem Rep.out (r : Rep c G σ H ρ) {u : V} {d : PyData} (o : Out G H u d H') : ∃ G', Ex G G' ∧ Rep c G' σ H' ρ ∧ Rp G' u d := by
  rcases o with ⟨rfl, h⟩ | ⟨p, o, hp, rfl, rfl, h⟩
  · exact ⟨G, Ex.refl G, r, h⟩
  · exact ⟨upd G p o, Ex.new (none_up r.gh hp), r.new hp, h⟩
theorem get_set {α : Type} {l : List α} {i j : Nat} {x y : α} (h : (l.set i x)[j]? = some y) : (j = i ∧ y = x ∧ i < l.length) ∨ (j ≠ i ∧ l[j]? = some y) := by
  by_cases e : i = j
  · subst e
    by_cases hi : i < l.length
    · rw [List.getElem?_set_self hi] at h
      exact .inl ⟨rfl, (Option.some.inj h).symm, hi⟩
    · rw [List.getElem?_eq_none (by rw [List.length_set]; omega)] at h
      cases h
  · rw [List.getElem?_set_ne e] at h
    exact .inr ⟨fun z => e z.symm, h⟩
theorem set_at {σ : L2.St} {i j : Nat} {x : Option V} (h : j ≠ i) : (σ.set i x)[j]? = σ[j]? := List.getElem?_set_ne (fun z => h z.symm)
/-- a slot gets a value -/
theorem Rep.setV (r : Rep c G σ H ρ) {i : Nat} {v : V} {d : PyData} (h : Rp G v d) : Rep c G (σ.set i (some v)) H (ρ.set i (.val d)) where
  g0 := r.g0
  fr := r.fr
  gh := r.gh
  hh := r.hh
  dom := r.dom
  len := by rw [List.length_set, List.length_set, r.len]
  ok := fun j s hs => by
    rcases get_set hs with ⟨rfl, rfl, hi⟩ | ⟨hj, hs⟩
    · rw [List.getElem?_set_self (by rw [← r.len]; exact hi)]
      exact ⟨v, rfl, h⟩
    · rw [set_at hj]
      exact r.ok j s hs
  sep := fun j l s t hjl h1 h2 m1 m2 => by
    rcases get_set h1 with ⟨_, rfl, _⟩ | ⟨hj, h1⟩
    · cases m1
    · rcases get_set h2 with ⟨_, rfl, _⟩ | ⟨hl, h2⟩
      · cases m2
      · rw [set_at hj, set_at hl]
        exact r.sep j l s t hjl h1 h2 m1 m2
  pins := fun q hq => by
    obtain ⟨h1, h2, h3⟩ := r.pins q hq
    refine ⟨h1, h2, fun j s hs m => ?_⟩
    rcases get_set hs with ⟨_, rfl, _⟩ | ⟨hj, hs⟩
    · cases m
    · rw [set_at hj]
      exact h3 j s hs m
  mats := r.mats.sub (fun j s hs m => by
    rcases get_set hs with ⟨_, rfl, _⟩ | ⟨hj, hs⟩
    · cases m
    · exact ⟨hs, set_at hj⟩) fun q hq => hq
/-- a slot is forgotten -/
theorem Rep.setNo (r : Rep c G σ H ρ) {i : Nat} {x : Option V} : Rep c G (σ.set i x) H (ρ.set i .no) where
  g0 := r.g0
  fr := r.fr
  gh := r.gh
  hh := r.hh
  dom := r.dom
  len := by rw [List.length_set, List.length_set, r.len]
  ok := fun j s hs => by
    rcases get_set hs with ⟨rfl, rfl, hi⟩ | ⟨hj, hs⟩
    · trivial
    · rw [set_at hj]
      exact r.ok j s hs
  sep := fun j l s t hjl h1 h2 m1 m2 => by
    rcases get_set h1 with ⟨_, rfl, _⟩ | ⟨hj, h1⟩
    · cases m1
    · rcases get_set h2 with ⟨_, rfl, _⟩ | ⟨hl, h2⟩
      · cases m2
      · rw [set_at hj, set_at hl]
        exact r.sep j l s t hjl h1 h2 m1 m2
  pins := fun q hq => by
    obtain ⟨h1, h2, h3⟩ := r.pins q hq
    refine ⟨h1, h2, fun j s hs m => ?_⟩
    rcases get_set hs with ⟨_, rfl, _⟩ | ⟨hj, hs⟩
    · cases m
    · rw [set_at hj]
      exact h3 j s hs m
  mats := r.mats.sub (fun j s hs m => by
    rcases get_set hs with ⟨_, rfl, _⟩ | ⟨hj, hs⟩
    · cases m
    · exact ⟨hs, set_at hj⟩) fun q hq => hq
/-- what is under way at p comes into a slot -/
theorem Rep.setM (r : Rep { c with pin := (p, o) :: c.pin } G σ H ρ) {i : Nat} {s : Sl} (h : s.mt = true) (ok : SlOk c G H (some (some (.ref p))) s) (hp : ∀ q ∈ c.pin, q.1 ≠ p) (hn : s.isM = false := by rfl) : Rep c G (σ.set i (some (.ref p))) H (ρ.set i s) where
  g0 := r.g0
  fr := r.fr
  gh := r.gh
  hh := r.hh
  dom := r.dom
  len := by rw [List.length_set, List.length_set, r.len]
  ok := fun j t hs => by
    rcases get_set hs with ⟨rfl, rfl, hi⟩ | ⟨hj, hs⟩
    · rw [List.getElem?_set_self (by rw [← r.len]; exact hi)]
      exact ok
    · rw [set_at hj]
      exact r.ok j t hs
  sep := fun j l t u hjl h1 h2 m1 m2 => by
    obtain ⟨_, _, h3⟩ := r.pins (p, o) List.mem_cons_self
    rcases get_set h1 with ⟨e1, _, hi⟩ | ⟨hj, k1⟩
    · rcases get_set h2 with ⟨e2, _, _⟩ | ⟨hl, k2⟩
      · exact absurd (e1.trans e2.symm) hjl
      · rw [e1, List.getElem?_set_self (by rw [← r.len]; exact hi), set_at hl]
        exact fun z => h3 l u k2 m2 z.symm
    · rcases get_set h2 with ⟨e2, _, hi⟩ | ⟨hl, k2⟩
      · rw [e2, List.getElem?_set_self (by rw [← r.len]; exact hi), set_at hj]
        exact fun z => h3 j t k1 m1 z
      · rw [set_at hj, set_at hl]
        exact r.sep j l t u hjl k1 k2 m1 m2
  pins := fun q hq => by
    obtain ⟨h1, h2, h3⟩ := r.pins q (List.mem_cons_of_mem _ hq)
    refine ⟨h1, h2, fun j t hs m => ?_⟩
    rcases get_set hs with ⟨rfl, rfl, hi⟩ | ⟨hj, hs⟩
    · rw [List.getElem?_set_self (by rw [← r.len]; exact hi)]
      intro z
      have z2 : p = q.1 := by
        have := Option.some.inj (Option.some.inj z)
        cases this
        rfl
      exact hp q hq z2.symm
    · rw [set_at hj]
      exact h3 j t hs m
  mats := fun k bs dss hk => by
    rcases get_set hk with ⟨_, e, _⟩ | ⟨hk1, hk⟩
    · rw [← e] at hn; cases hn
    · obtain ⟨a, b, d⟩ := r.mats k bs dss hk
      refine ⟨fun j t hj m x hx => ?_, fun j bs' dss' hji hj => ?_, fun q hq => d q (List.mem_cons_of_mem _ hq)⟩
      · rcases get_set hj with ⟨e1, _, hi⟩ | ⟨hj1, hj⟩
        · rw [e1, List.getElem?_set_self (by rw [← r.len]; exact hi)]
          intro z
          have z2 : p = x := by
            have := Option.some.inj (Option.some.inj z)
            cases this
            rfl
          exact d (p, o) List.mem_cons_self (by rw [z2]; exact hx)
        · rw [set_at hj1]
          exact a j t hj m x hx
      · rcases get_set hj with ⟨_, e, _⟩ | ⟨_, hj⟩
        · rw [← e] at hn; cases hn
        · exact b j bs' dss' hji hj
/-- an object under way -/
theorem Rep.pinN (r : Rep c G σ H ρ) {p : Addr} {o : HO} (hp : H p = none) : Rep { c with pin := (p, o) :: c.pin } G σ (upd H p o) ρ := by
  have q := r.newH (o := o) hp
  refine ⟨⟨q.g0, q.fr, q.gh, q.hh, q.dom⟩, q.len, fun i s h => ?_, q.sep, fun z hz => ?_, ?_⟩
  · have := q.ok i s h
    cases s <;> exact this
  · rcases List.mem_cons.mp hz with rfl | hz
    · refine ⟨upd_same, none_up r.gh hp, fun i s h m z => ?_⟩
      obtain ⟨a, h1, _, h3⟩ := (r.ok i s h).adr m
      rw [z] at h1
      cases h1
      exact h3 hp
    · exact q.pins z hz
  · intro i bs dss hi
    obtain ⟨a, b, d⟩ := r.mats i bs dss hi
    refine ⟨a, b, fun z hz => ?_⟩
    rcases List.mem_cons.mp hz with rfl | hz
    · exact fun m => ((r.ok i _ hi).inn _ m).2.1 hp
    · exact d z hz
theorem Rep.unpin {z : Addr × HO} (r : Rep { c with pin := z :: c.pin } G σ H ρ) : Rep c G σ H ρ := by
  refine ⟨⟨r.g0, r.fr, r.gh, r.hh, r.dom⟩, r.len, fun i s h => ?_, r.sep, fun q hq => r.pins q (List.mem_cons_of_mem _ hq), r.mats.sub (fun _ _ h _ => ⟨h, rfl⟩) fun q hq => List.mem_cons_of_mem _ hq⟩
  have := r.ok i s h
  cases s <;> exact this
/-- what is under way becomes data -/
theorem Rep.settle {p : Addr} {o : HO} (r : Rep { c with pin := (p, o) :: c.pin } G σ H ρ) (h0 : c.H0 p = none) (hp : ∀ q ∈ c.pin, q.1 ≠ p) : Ex G (upd G p o) ∧ Rep c (upd G p o) σ H ρ := by
  obtain ⟨h1, h2, h3⟩ := r.pins (p, o) List.mem_cons_self
  have e : Ex G (upd G p o) := Ex.new h2
  refine ⟨e, ⟨⟨r.g0.trans e, fun a k1 k2 => ?_, fun a u h => ?_, r.hh, r.dom⟩, r.len, fun i s h => ?_, r.sep, fun q hq => ?_, r.mats.sub (fun _ _ h _ => ⟨h, rfl⟩) fun q hq => List.mem_cons_of_mem _ hq⟩⟩
  · rw [upd_ne (fun z => k1 (by rw [z]; exact h0))]
    exact r.fr a k1 k2
  · by_cases z : a = p
    · subst z
      rw [upd_same] at h
      rw [← h]
      exact h1
    · rw [upd_ne z] at h
      exact r.gh a u h
  · have k := r.ok i s h
    have k' : SlOk c G H (σ[i]?) s := by cases s <;> exact k
    refine k'.go e (fun a u z m ha => ⟨ha, ?_⟩) fun bs dss es b hb u hu => ⟨hu, ?_⟩
    · obtain ⟨b, q1, q2, _⟩ := k'.adr m
      rw [z] at q1
      cases q1
      rw [upd_ne (fun y => h3 i s h m (by rw [z, y]))]
      exact q2
    · subst es
      rw [upd_ne (fun y => (r.mats i bs dss h).2.2 (p, o) List.mem_cons_self (by rw [← y]; exact hb))]
      exact (k'.inn b hb).1
  · obtain ⟨q1, q2, q3⟩ := r.pins q (List.mem_cons_of_mem _ hq)
    refine ⟨q1, ?_, q3⟩
    rw [upd_ne (hp q hq)]
    exact q2
/-- a list of one's own becomes data -/
theorem Rep.freeze (r : Rep c G σ H ρ) {i : Nat} {ds : List PyData} (h : ρ[i]? = some (.own ds)) : ∃ v G', σ[i]? = some (some v) ∧ Ex G G' ∧ Rep c G' σ H (ρ.set i (.val (.list ds))) ∧ Rp G' v (.list ds) := by
  obtain ⟨a, xs, h1, h2, h3, h4, h5⟩ := r.ok i _ h
  have e : Ex G (upd G a (.lst xs)) := Ex.new h4
  have ra : Rp (upd G a (.lst xs)) (.ref a) (.list ds) := .lst upd_same (h3.up e)
  have oth : ∀ j s, j ≠ i → ρ[j]? = some s → s.mt = true → ∀ b, σ[j]? = some (some (.ref b)) → b ≠ a := fun j s hj hs m b hb z => by
    refine r.sep j i s _ hj hs h m rfl ?_
    rw [hb, h1, z]
  refine ⟨.ref a, upd G a (.lst xs), h1, e, ⟨⟨r.g0.trans e, fun b k1 k2 => ?_, fun b u hb => ?_, r.hh, r.dom⟩, ?_, fun j s hs => ?_, fun j l s t hjl k1 k2 m1 m2 => ?_, fun q hq => ?_, r.mats.sub (fun j s hs m => by
    rcases get_set hs with ⟨_, rfl, _⟩ | ⟨_, hs⟩
    · cases m
    · exact ⟨hs, rfl⟩) fun q hq => hq⟩, ra⟩
  · rw [upd_ne (fun z => k1 (by rw [z]; exact h5))]
    exact r.fr b k1 k2
  · by_cases z : b = a
    · subst z
      rw [upd_same] at hb
      rw [← hb]
      exact h2
    · rw [upd_ne z] at hb
      exact r.gh b u hb
  · rw [List.length_set]
    exact r.len
  · rcases get_set hs with ⟨rfl, rfl, hi⟩ | ⟨hj, hs⟩
    · exact ⟨.ref a, h1, ra⟩
    · refine (r.ok j s hs).go e (fun b u z m hb => ⟨hb, ?_⟩) fun bs dss es b hb u hu => ⟨hu, ?_⟩
      · obtain ⟨b', q1, q2, _⟩ := (r.ok j s hs).adr m
        rw [z] at q1
        cases q1
        rw [upd_ne (oth j s hj hs m b z)]
        exact q2
      · subst es
        rw [upd_ne (fun y => (r.mats j bs dss hs).1 i _ h rfl b hb (by rw [h1, y]))]
        exact ((r.ok j _ hs).inn b hb).1
  · rcases get_set k1 with ⟨_, rfl, _⟩ | ⟨hj, k1⟩
    · cases m1
    · rcases get_set k2 with ⟨_, rfl, _⟩ | ⟨hl, k2⟩
      · cases m2
      · exact r.sep j l s t hjl k1 k2 m1 m2
  · obtain ⟨q1, q2, q3⟩ := r.pins q hq
    refine ⟨q1, ?_, fun j s hs m => ?_⟩
    · rw [upd_ne (fun z => q3 i _ h rfl (by rw [h1, z]))]
      exact q2
    · rcases get_set hs with ⟨_, rfl, _⟩ | ⟨hj, hs⟩
      · cases m
      · exact q3 j s hs m
/-- the object of a slot is changed -/
theorem Rep.chg (r : Rep c G σ H ρ) {i : Nat} {s t : Sl} {a : Addr} {o : HO} (h : ρ[i]? = some s) (m : s.mt = true) (hm : t.mt = true) (ha : σ[i]? = some (some (.ref a))) (hp : c.H0 a = none ∨ a ∈ c.P) (ok : SlOk c G (upd H a o) (some (some (.ref a))) t) (hn : t.isM = false := by rfl) : Rep c G σ (upd H a o) (ρ.set i t) where
  g0 := r.g0
  fr := r.fr
  gh := fun b u hb => by
    obtain ⟨a', q1, q2, _⟩ := (r.ok i s h).adr m
    rw [ha] at q1
    cases q1
    rw [upd_ne (ne_of_none hb q2)]
    exact r.gh b u hb
  hh := fun b u h1 h2 => by
    have z : b ≠ a := fun z => by
      rcases hp with hp | hp
      · rw [z, hp] at h1
        cases h1
      · exact h2 (by rw [z]; exact hp)
    rw [upd_ne z]
    exact r.hh b u h1 h2
  dom := fun b h1 => by
    by_cases z : b = a
    · rw [z, upd_same]
      exact fun y => nomatch y
    · rw [upd_ne z]
      exact r.dom b h1
  len := by rw [List.length_set]; exact r.len
  ok := fun j u hs => by
    rcases get_set hs with ⟨rfl, rfl, hi⟩ | ⟨hj, hs⟩
    · rw [ha]
      exact ok
    · refine (r.ok j u hs).go (Ex.refl G) (fun b w z mu hb => ?_) fun bs dss es b hb w hw => ?_
      · obtain ⟨b', q1, q2, _⟩ := (r.ok j u hs).adr mu
        rw [z] at q1
        cases q1
        refine ⟨?_, q2⟩
        rw [upd_ne (fun y => r.sep j i u s hj hs h mu m (by rw [z, ha, y]))]
        exact hb
      · subst es
        refine ⟨?_, ((r.ok j _ hs).inn b hb).1⟩
        rw [upd_ne (fun y => (r.mats j bs dss hs).1 i s h m b hb (by rw [ha, y]))]
        exact hw
  sep := fun j l u w hjl h1 h2 m1 m2 => by
    have fix : ∀ {j : Nat} {u : Sl}, (ρ.set i t)[j]? = some u → u.mt = true → ∃ u', ρ[j]? = some u' ∧ u'.mt = true := fun {j u} q mu => by
      rcases get_set q with ⟨rfl, rfl, _⟩ | ⟨_, q⟩
      · exact ⟨s, h, m⟩
      · exact ⟨u, q, mu⟩
    obtain ⟨u', k1, k2⟩ := fix h1 m1
    obtain ⟨w', k3, k4⟩ := fix h2 m2
    exact r.sep j l u' w' hjl k1 k3 k2 k4
  pins := fun q hq => by
    obtain ⟨q1, q2, q3⟩ := r.pins q hq
    refine ⟨?_, q2, fun j u hs mu => ?_⟩
    · rw [upd_ne (fun z => q3 i s h m (by rw [ha, z]))]
      exact q1
    · rcases get_set hs with ⟨rfl, rfl, _⟩ | ⟨_, hs⟩
      · exact q3 j s h m
      · exact q3 j u hs mu
  mats := fun k bs dss hk => by
    rcases get_set hk with ⟨_, e, _⟩ | ⟨hk1, hk⟩
    · rw [← e] at hn; cases hn
    · obtain ⟨x, y, z⟩ := r.mats k bs dss hk
      refine ⟨fun j u hj mu b hb => ?_, fun j bs' dss' hji hj => ?_, z⟩
      · rcases get_set hj with ⟨rfl, rfl, _⟩ | ⟨_, hj⟩
        · exact x j s h m b hb
        · exact x j u hj mu b hb
      · rcases get_set hj with ⟨_, e, _⟩ | ⟨_, hj⟩
        · rw [← e] at hn; cases hn
        · exact y j bs' dss' hji hj
end
end DL

set_option Elab.async false
set_option linter.all false
set_option maxRecDepth 100000
set_option maxHeartbeats 1000000
/-! DL2: the judgements over data: expressions, tests, arguments. -/
namespace DL
open PySem L2 Evl PyProof.Rows

/-! ### weaker readings -/
section
variable {X : Cx} {e : Expr} {es : List Expr} {st : Stmt} {sts : List Stmt}
theorem pe_imp {t t' : TE} (h : PE X e t) (k : ∀ σ H Q, t' σ H Q → t σ H Q) : PE X e t' := ⟨fun pins s σ H Q I q => h.run pins s σ H Q I (k σ H Q q)⟩
theorem pt_imp {t t' : TT} (h : PT X e t) (k : ∀ σ H Q, t' σ H Q → t σ H Q) : PT X e t' := ⟨fun pins s σ H Q I q => h.run pins s σ H Q I (k σ H Q q)⟩
theorem pw_imp {t t' : TT} (h : PW X e t) (k : ∀ σ H Q, t' σ H Q → t σ H Q) : PW X e t' := ⟨fun wh pins s σ H Q I q => h.run wh pins s σ H Q I (k σ H Q q)⟩
theorem pa_imp {t t' : TA} (h : PA X es t) (k : ∀ σ H Q, t' σ H Q → t σ H Q) : PA X es t' := ⟨fun pos pins s σ H Q I q => h.run pos pins s σ H Q I (k σ H Q q)⟩
theorem pi_imp {tg : Expr} {t t' : TI} (h : PI X tg e t) (k : ∀ σ H Q, t' σ H Q → t σ H Q) : PI X tg e t' := ⟨fun pins s σ H Q I q => h.run pins s σ H Q I (k σ H Q q)⟩
theorem pg_imp {t t' : TG} (h : PG X e t) (k : ∀ v σ H Q, t' v σ H Q → t v σ H Q) : PG X e t' := ⟨fun pins s σ H v u Q I r q => h.run pins s σ H v u Q I r (k v σ H Q q)⟩
theorem ps_imp {t t' : TS} (h : PS X st t) (k : ∀ D σ H, t' D σ H → t D σ H) : PS X st t' := ⟨fun pins s σ H D I q => h.run pins s σ H D I (k D σ H q)⟩
theorem pss_imp {t t' : TS} (h : PSs X sts t) (k : ∀ D σ H, t' D σ H → t D σ H) : PSs X sts t' := ⟨fun pins s σ H D I q => h.run pins s σ H D I (k D σ H q)⟩
theorem or_i {op : Value → Value → Sem Value} {r1 r2 : R2} (h1 : OpR X op r1) (h2 : OpR X op r2) : OpR X op (fun x y H Q => r1 x y H Q ∨ r2 x y H Q) :=
  fun pins s σ H x y v u Q I rx ry h => h.elim (fun q => h1 pins s σ H x y v u Q I rx ry q) fun q => h2 pins s σ H x y v u Q I rx ry q
theorem or_c {f : Value} {r1 r2 : List V → Hp → VK → Prop} (h1 : CallR X f r1) (h2 : CallR X f r2) : CallR X f (fun x H Q => r1 x H Q ∨ r2 x H Q) :=
  fun pins s σ H x v Q I rx h => h.elim (fun q => h1 pins s σ H x v Q I rx q) fun q => h2 pins s σ H x v Q I rx q
theorem or_sl {r1 r2 : V → Option Int → Option Int → Hp → VK → Prop} (h1 : SlR X r1) (h2 : SlR X r2) : SlR X (fun x l u H Q => r1 x l u H Q ∨ r2 x l u H Q) :=
  fun pins s σ H x v vl vu lo hi sl Q I rx a b c h => h.elim (fun q => h1 pins s σ H x v vl vu lo hi sl Q I rx a b c q) fun q => h2 pins s σ H x v vl vu lo hi sl Q I rx a b c q
theorem pi_or {tg : Expr} {t u : TI} (h1 : PI X tg e t) (h2 : PI X tg e u) : PI X tg e (fun σ H R => t σ H R ∨ u σ H R) :=
  ⟨fun pins s σ H R I h => h.elim (fun q => h1.run pins s σ H R I q) fun q => h2.run pins s σ H R I q⟩
end

/-! ### what is read -/
/-- data, or a list of one's own -/
def Rv (G H : Hp) (v : V) (d : PyData) : Prop := Rp G v d ∨ ∃ a xs ds, v = .ref a ∧ d = .list ds ∧ H a = some (.lst xs) ∧ RpAll G xs ds
theorem Rv.lst {G H : Hp} {v : V} {ds : List PyData} (e : Ex G H) (h : Rv G H v (.list ds)) : ∃ a xs, v = .ref a ∧ H a = some (.lst xs) ∧ RpAll G xs ds := by
  rcases h with h | ⟨a, xs, es, h1, h2, h3, h4⟩
  · cases h with
    | lst q1 q2 => exact ⟨_, _, rfl, e _ _ q1, q2⟩
  · cases h2
    exact ⟨a, xs, h1, h3, h4⟩
theorem Rv.tup {G H : Hp} {v : V} {ds : List PyData} (e : Ex G H) (h : Rv G H v (.tuple ds)) : ∃ a xs, v = .ref a ∧ H a = some (.tup xs) ∧ RpAll G xs ds := by
  rcases h with h | ⟨a, xs, es, h1, h2, h3, h4⟩
  · cases h with
    | tup q1 q2 => exact ⟨_, _, rfl, e _ _ q1, q2⟩
  · cases h2
theorem Rv.int {G H : Hp} {v : V} {i : Int} (h : Rv G H v (.int i)) : v = .int i := by
  rcases h with h | ⟨a, xs, es, h1, h2, h3, h4⟩
  · cases h; rfl
  · cases h2
theorem Rv.bl {G H : Hp} {v : V} {i : Bool} (h : Rv G H v (.bool i)) : v = .bl i := by
  rcases h with h | ⟨a, xs, es, h1, h2, h3, h4⟩
  · cases h; rfl
  · cases h2
theorem Rv.str {G H : Hp} {v : V} {i : Str} (h : Rv G H v (.str i)) : v = .str i := by
  rcases h with h | ⟨a, xs, es, h1, h2, h3, h4⟩
  · cases h; rfl
  · cases h2
theorem Rv.non {G H : Hp} {v : V} (h : Rv G H v .none) : v = .non := by
  rcases h with h | ⟨a, xs, es, h1, h2, h3, h4⟩
  · cases h; rfl
  · cases h2
theorem Rv.dp {K : PySem.W.Frag} {G H : Hp} {v : V} {d : PyData} (e : Ex G H) (h : Rv G H v d) : Dp K H v d := by
  rcases h with h | ⟨a, xs, ds, rfl, rfl, h3, h4⟩
  · exact Rp.dp0 e d v h
  · exact .lst (SqL.of h3) (RpAll.dp0 e ds xs h4)

/-! ### the readings -/
abbrev DE := Rho → (PyData → Rho → Prop) → Prop
abbrev DN := Rho → (List PyData → Rho → Prop) → Prop
abbrev DT := Rho → (Bool → Rho → Prop) → Prop
/-- a value that is data -/
def tD (de : DE) : TE := fun σ H Q => ∃ c G ρ Q', Rep c G σ H ρ ∧ de ρ Q' ∧ ∀ d ρ' G' H' v, Q' d ρ' → Ex G G' → Rep c G' σ H' ρ' → Rp G' v d → Q v H'
/-- a value that is read at once -/
def tR (de : DE) : TE := fun σ H Q => ∃ c G ρ Q', Rep c G σ H ρ ∧ de ρ Q' ∧ ∀ d ρ' G' H' v, Q' d ρ' → Ex G G' → Rep c G' σ H' ρ' → Rv G' H' v d → Q v H'
def freeAt (c : Co) (p : Addr) : Prop := c.H0 p = none ∧ ∀ q ∈ c.pin, q.1 ≠ p
/-- a new list, not leaned on yet -/
def tN (dn : DN) : TE := fun σ H Q => ∃ c G ρ Q', Rep c G σ H ρ ∧ dn ρ Q' ∧ ∀ ds ρ' G' H' p xs, Q' ds ρ' → Ex G G' → Rep { c with pin := (p, .lst xs) :: c.pin } G' σ H' ρ' → freeAt c p → RpAll G' xs ds → Q (.ref p) H'
def tT (dt : DT) : TT := fun σ H Q => ∃ c G ρ Q', Rep c G σ H ρ ∧ dt ρ Q' ∧ ∀ b ρ' G' H', Q' b ρ' → Ex G G' → Rep c G' σ H' ρ' → Q b H'
def tAd (da : DN) : TA := fun σ H Q => ∃ c G ρ Q', Rep c G σ H ρ ∧ da ρ Q' ∧ ∀ ds ρ' G' H' vs, Q' ds ρ' → Ex G G' → Rep c G' σ H' ρ' → RpAll G' vs ds → Q vs H'
abbrev PD (X : Cx) (e : Expr) (de : DE) : Prop := PE X e (tD de)
abbrev PR (X : Cx) (e : Expr) (de : DE) : Prop := PE X e (tR de)
abbrev PN (X : Cx) (e : Expr) (dn : DN) : Prop := PE X e (tN dn)
abbrev PTD (X : Cx) (e : Expr) (dt : DT) : Prop := PT X e (tT dt)
abbrev PAD (X : Cx) (es : List Expr) (da : DN) : Prop := PA X es (tAd da)
def asD (dn : DN) : DE := fun ρ Q => dn ρ fun ds ρ' => Q (.list ds) ρ'

section
variable {X : Cx} {e a b : Expr} {es : List Expr} {pos : Pos} {de da db : DE}
theorem pd_r (h : PD X e de) : PR X e de := pe_imp h fun σ H Q ⟨c, G, ρ, Q', r, hd, k⟩ => ⟨c, G, ρ, Q', r, hd, fun d ρ' G' H' v q e r' h' => k d ρ' G' H' v q e r' (.inl h')⟩
theorem pn_d {dn : DN} (h : PN X e dn) : PD X e (asD dn) := pe_imp h fun σ H Q ⟨c, G, ρ, Q', r, hd, k⟩ => ⟨c, G, ρ, _, r, hd, fun ds ρ' G' H' p xs q e r' f h' => by
  obtain ⟨e2, r2⟩ := r'.settle f.1 f.2
  exact k (.list ds) ρ' _ H' (.ref p) q (e.trans e2) r2 (.lst upd_same (h'.up e2))⟩
/-! ### names, constants -/
def rd (ρ : Rho) (i : Nat) (k : PyData → Prop) : Prop := match ρ[i]? with
  | some (.val d) => k d
  | some (.bas d) => k d
  | some (.tld d) => k d
  | some (.own ds) => k (.list ds)
  | some (.pur ds) => k (.list ds)
  | _ => False
theorem rd_some {c : Co} {G H : Hp} {σ : L2.St} {ρ : Rho} {i : Nat} {k : PyData → Prop} (r : Rep c G σ H ρ) (h : rd ρ i k) : ∃ v d, σ[i]? = some (some v) ∧ Rv G H v d ∧ k d := by
  unfold rd at h
  cases q : ρ[i]? with
  | none => rw [q] at h; exact h.elim
  | some s =>
    rw [q] at h
    have o := r.ok i s q
    cases s with
    | no => exact h.elim
    | val d => obtain ⟨v, h1, h2⟩ := o; exact ⟨v, d, h1, .inl h2, h⟩
    | own ds => obtain ⟨a, xs, h1, h2, h3, _, _⟩ := o; exact ⟨_, _, h1, .inr ⟨a, xs, ds, rfl, rfl, h2, h3⟩, h⟩
    | pur ds => obtain ⟨a, xs, h1, h2, h3, _, _⟩ := o; exact ⟨_, _, h1, .inr ⟨a, xs, ds, rfl, rfl, h2, h3⟩, h⟩
    | dic kvs => exact h.elim
    | mat _ _ => exact h.elim
    | scr _ _ => exact h.elim
    | bas d => obtain ⟨v, h1, h2⟩ := o; exact ⟨v, d, h1, .inl (h2.up r.g0), h⟩
    | tld d => obtain ⟨v, S, h1, h2, _⟩ := o; exact ⟨v, d, h1, .inl (TrS.rp d v S h2), h⟩
def dRd (i : Nat) : DE := fun ρ Q => rd ρ i fun d => Q d ρ
def dVar (i : Nat) : DE := fun ρ Q => match ρ[i]? with
  | some (.val d) => Q d ρ
  | some (.bas d) => Q d ρ
  | some (.tld d) => Q d ρ
  | some (.own ds) => Q (.list ds) (ρ.set i (.val (.list ds)))
  | _ => False
def dC (d : PyData) : DE := fun ρ Q => Q d ρ
theorem pr_var (i : Nat) {x : Str} {pos : Pos} (hN : X.N[i]? = some x := by rfl) (hv : Vis X.env.scope x := by first | exact Or.inl rfl | exact Or.inr (Or.inl rfl) | exact Or.inr (Or.inr rfl)) (hd : (x == ("__debug__" : Str)) = false := by decide)
    (hcd : (x == ("__classdict__" : Str)) = false := by decide) : PR X (.Name x pos) (dRd i) := pe_imp (pe_var hN hv hd hcd) fun σ H Q ⟨c, G, ρ, Q', r, h, k⟩ => by
  obtain ⟨v, d, h1, h2, h3⟩ := rd_some r h
  exact ⟨v, h1, k d ρ G H v h3 (Ex.refl G) r h2⟩
theorem pd_var (i : Nat) {x : Str} {pos : Pos} (hN : X.N[i]? = some x := by rfl) (hv : Vis X.env.scope x := by first | exact Or.inl rfl | exact Or.inr (Or.inl rfl) | exact Or.inr (Or.inr rfl)) (hd : (x == ("__debug__" : Str)) = false := by decide)
    (hcd : (x == ("__classdict__" : Str)) = false := by decide) : PD X (.Name x pos) (dVar i) := pe_imp (pe_var hN hv hd hcd) fun σ H Q ⟨c, G, ρ, Q', r, h, k⟩ => by
  unfold dVar at h
  cases q : ρ[i]? with
  | none => rw [q] at h; exact h.elim
  | some s =>
    rw [q] at h
    cases s with
    | no => exact h.elim
    | val d =>
      obtain ⟨v, h1, h2⟩ := r.ok i _ q
      exact ⟨v, h1, k d ρ G H v h (Ex.refl G) r h2⟩
    | own ds =>
      obtain ⟨v, G', h1, h2, h3, h4⟩ := r.freeze q
      exact ⟨v, h1, k _ _ G' H v h h2 h3 h4⟩
    | pur ds => exact h.elim
    | mat _ _ => exact h.elim
    | dic kvs => exact h.elim
    | scr _ _ => exact h.elim
    | bas d =>
      obtain ⟨v, h1, h2⟩ := r.ok i _ q
      exact ⟨v, h1, k d ρ G H v h (Ex.refl G) r (h2.up r.g0)⟩
    | tld d =>
      obtain ⟨v, S, h1, h2, _⟩ := r.ok i _ q
      exact ⟨v, h1, k d ρ G H v h (Ex.refl G) r (TrS.rp d v S h2)⟩
theorem pd_int {i : Int} {j : Nat} : PD X (.Constant (.int i) j pos) (dC (.int i)) := pe_imp pe_int fun σ H Q ⟨c, G, ρ, Q', r, h, k⟩ => k _ ρ G H _ h (Ex.refl G) r (.int i)
theorem pd_bl {b : Bool} {j : Nat} : PD X (.Constant (.bool b) j pos) (dC (.bool b)) := pe_imp pe_bl fun σ H Q ⟨c, G, ρ, Q', r, h, k⟩ => k _ ρ G H _ h (Ex.refl G) r (.bl b)
theorem pd_non {j : Nat} : PD X (.Constant .none j pos) (dC .none) := pe_imp pe_non fun σ H Q ⟨c, G, ρ, Q', r, h, k⟩ => k _ ρ G H _ h (Ex.refl G) r .non
theorem pd_str {x : Str} {j : Nat} : PD X (.Constant (.str x) j pos) (dC (.str x)) := pe_imp pe_str fun σ H Q ⟨c, G, ρ, Q', r, h, k⟩ => k _ ρ G H _ h (Ex.refl G) r (.str x)

/-! ### operators -/
abbrev D2 := PyData → PyData → (PyData → Prop) → Prop
abbrev D1 := PyData → (PyData → Prop) → Prop
def ROp (r : R2) (f : D2) : Prop := ∀ (G H : Hp) (v w : V) (x y : PyData) (Q : VK) (Q' : PyData → Prop), Ex G H → Rv G H v x → Rv G H w y → f x y Q' → (∀ d u H', Out G H u d H' → Q' d → Q u H') → r v w H Q
def RU1 (r : V → Hp → VK → Prop) (f : D1) : Prop := ∀ (G H : Hp) (v : V) (x : PyData) (Q : VK) (Q' : PyData → Prop), Ex G H → Rv G H v x → f x Q' → (∀ d u H', Out G H u d H' → Q' d → Q u H') → r v H Q
def RC1 (r : List V → Hp → VK → Prop) (f : D1) : Prop := RU1 (fun v => r [v]) f
def RC2 (r : List V → Hp → VK → Prop) (f : D2) : Prop := ROp (fun v w => r [v, w]) f
def dBin (f : D2) (da db : DE) : DE := fun ρ Q => da ρ fun x ρ1 => db ρ1 fun y ρ2 => f x y fun d => Q d ρ2
/-- the left one a name: what it holds when the right one has come -/
def dBinV (f : D2) (i : Nat) (db : DE) : DE := fun ρ Q => rd ρ i fun _ => db ρ fun y ρ2 => rd ρ2 i fun x => f x y fun d => Q d ρ2
def dUn (f : D1) (da : DE) : DE := fun ρ Q => da ρ fun x ρ1 => f x fun d => Q d ρ1
theorem op_core {r : R2} {f : D2} (hr : ROp r f) {σ : L2.St} {H : Hp} {Q : VK} (h : tD (dBin f da db) σ H Q) : tOp r (tD da) (tR db) σ H Q := by
  obtain ⟨c, G, ρ, Q', rp, hd, k⟩ := h
  refine ⟨c, G, ρ, _, rp, hd, fun x ρ1 G1 H1 v q1 e1 r1 hx => ?_⟩
  refine ⟨c, G1, ρ1, _, r1, q1, fun y ρ2 G2 H2 w q2 e2 r2 hy => ?_⟩
  refine hr G2 H2 v w x y _ _ r2.gh (.inl (hx.up e2)) hy q2 fun d u H' o q3 => ?_
  obtain ⟨G3, e3, r3, h3⟩ := r2.out o
  exact k d ρ2 G3 H' u q3 ((e1.trans e2).trans e3) r3 h3
theorem opV_core {r : R2} {f : D2} {i : Nat} (hr : ROp r f) {σ : L2.St} {H : Hp} {Q : VK} (h : tD (dBinV f i db) σ H Q) : tOp r (tVar i) (tR db) σ H Q := by
  obtain ⟨c, G, ρ, Q', rp, hd, k⟩ := h
  obtain ⟨v, d0, h1, _, hd⟩ := rd_some rp hd
  refine ⟨v, h1, c, G, ρ, _, rp, hd, fun y ρ2 G2 H2 w q2 e2 r2 hy => ?_⟩
  obtain ⟨v', x, h2, h3, q3⟩ := rd_some r2 q2
  rw [h1] at h2
  cases h2
  refine hr G2 H2 v w x y _ _ r2.gh h3 hy q3 fun d u H' o q4 => ?_
  obtain ⟨G3, e3, r3, h5⟩ := r2.out o
  exact k d ρ2 G3 H' u q4 (e2.trans e3) r3 h5
theorem pd_op {op : Operator} {r : R2} {f : D2} (ho : OpR X (binaryOp op) r) (hr : ROp r f) (ha : PD X a da) (hb : PR X b db) : PD X (.BinOp a op b pos) (dBin f da db) := pe_imp (pe_op ho ha hb) fun _ _ _ h => op_core hr h
theorem pd_opV (i : Nat) {x : Str} {p : Pos} {op : Operator} {r : R2} {f : D2} (ho : OpR X (binaryOp op) r) (hr : ROp r f) (hb : PR X b db) (hN : X.N[i]? = some x := by rfl) (hv : Vis X.env.scope x := by first | exact Or.inl rfl | exact Or.inr (Or.inl rfl) | exact Or.inr (Or.inr rfl)) (hd : (x == ("__debug__" : Str)) = false := by decide)
    (hcd : (x == ("__classdict__" : Str)) = false := by decide) : PD X (.BinOp (.Name x p) op b pos) (dBinV f i db) := pe_imp (pe_op ho (pe_var hN hv hd hcd) hb) fun _ _ _ h => opV_core hr h
theorem pd_cmp {op : CmpOp} {r : R2} {f : D2} (ho : OpR X (compareOp op) r) (hr : ROp r f) (ha : PD X a da) (hb : PR X b db) (hm : behindInMarks op b = false := by first | exact nomark _ | rfl) : PD X (.Compare a [op] [b] pos) (dBin f da db) := pe_imp (pe_cmpR ho ha hb hm) fun _ _ _ h => op_core hr h
theorem pd_cmpV (i : Nat) {x : Str} {p : Pos} {op : CmpOp} {r : R2} {f : D2} (ho : OpR X (compareOp op) r) (hr : ROp r f) (hb : PR X b db) (hm : behindInMarks op b = false := by first | exact nomark _ | rfl) (hN : X.N[i]? = some x := by rfl) (hv : Vis X.env.scope x := by first | exact Or.inl rfl | exact Or.inr (Or.inl rfl) | exact Or.inr (Or.inr rfl)) (hd : (x == ("__debug__" : Str)) = false := by decide)
    (hcd : (x == ("__classdict__" : Str)) = false := by decide) : PD X (.Compare (.Name x p) [op] [b] pos) (dBinV f i db) := pe_imp (pe_cmpR ho (pe_var hN hv hd hcd) hb hm) fun _ _ _ h => opV_core hr h
theorem pd_ix {r : R2} {f : D2} (ho : IxR X r) (hr : ROp r f) (ha : PD X a da) (hb : PR X b db) (hs : PlainIx b := by intro _ _; rfl) : PD X (.Subscript a b pos) (dBin f da db) := pe_imp (pe_ix ho ha hb hs) fun _ _ _ h => op_core hr h
theorem pd_ixV (i : Nat) {x : Str} {p : Pos} {r : R2} {f : D2} (ho : IxR X r) (hr : ROp r f) (hb : PR X b db) (hs : PlainIx b := by intro _ _; rfl) (hN : X.N[i]? = some x := by rfl) (hv : Vis X.env.scope x := by first | exact Or.inl rfl | exact Or.inr (Or.inl rfl) | exact Or.inr (Or.inr rfl)) (hd : (x == ("__debug__" : Str)) = false := by decide)
    (hcd : (x == ("__classdict__" : Str)) = false := by decide) : PD X (.Subscript (.Name x p) b pos) (dBinV f i db) := pe_imp (pe_ix ho (pe_var hN hv hd hcd) hb hs) fun _ _ _ h => opV_core hr h
theorem pd_un {op : UnaryOp} {r : V → Hp → VK → Prop} {f : D1} (ho : UnR X (unaryOp op) r) (hr : RU1 r f) (ha : PR X a da) : PD X (.UnaryOp op a pos) (dUn f da) := pe_imp (pe_un ho ha) fun σ H Q ⟨c, G, ρ, Q', rp, hd, k⟩ => by
  refine ⟨c, G, ρ, _, rp, hd, fun x ρ1 G1 H1 v q1 e1 r1 hx => ?_⟩
  refine hr G1 H1 v x _ _ r1.gh hx q1 fun d u H' o q3 => ?_
  obtain ⟨G3, e3, r3, h3⟩ := r1.out o
  exact k d ρ1 G3 H' u q3 (e1.trans e3) r3 h3
/-! ### calls of what is built in, by one or two values -/
theorem c1_core {r : List V → Hp → VK → Prop} {f : D1} (hr : RC1 r f) {σ : L2.St} {H : Hp} {Q : VK} (h : tD (dUn f da) σ H Q) : tCB r (tCons (tR da) tNil) σ H Q := by
  obtain ⟨c, G, ρ, Q', rp, hd, k⟩ := h
  refine ⟨c, G, ρ, _, rp, hd, fun x ρ1 G1 H1 v q1 e1 r1 hx => ?_⟩
  refine hr G1 H1 v x _ _ r1.gh hx q1 fun d u H' o q3 => ?_
  obtain ⟨G3, e3, r3, h3⟩ := r1.out o
  exact k d ρ1 G3 H' u q3 (e1.trans e3) r3 h3
theorem c2_core {r : List V → Hp → VK → Prop} {f : D2} (hr : RC2 r f) {σ : L2.St} {H : Hp} {Q : VK} (h : tD (dBin f da db) σ H Q) : tCB r (tCons (tD da) (tCons (tR db) tNil)) σ H Q := by
  obtain ⟨c, G, ρ, Q', rp, hd, k⟩ := h
  refine ⟨c, G, ρ, _, rp, hd, fun x ρ1 G1 H1 v q1 e1 r1 hx => ?_⟩
  refine ⟨c, G1, ρ1, _, r1, q1, fun y ρ2 G2 H2 w q2 e2 r2 hy => ?_⟩
  refine hr G2 H2 v w x y _ _ r2.gh (.inl (hx.up e2)) hy q2 fun d u H' o q3 => ?_
  obtain ⟨G3, e3, r3, h3⟩ := r2.out o
  exact k d ρ2 G3 H' u q3 ((e1.trans e2).trans e3) r3 h3
theorem pd_cb1 {r : List V → Hp → VK → Prop} {f : D1} {id : String} {x : Str} {p : Pos} (hc : CallR X (.builtin id) r) (hr : RC1 r f) (hm : X.mg x = none) (ha : PR X a da) (hg : Gl X x := by rfl) (hv : bootBuiltins x = some (.builtin id) := by decide +kernel) (hn : x ≠ "__name__" := by decide) (hdb : (x == ("__debug__" : Str)) = false := by decide) (hs : starEach [a] X.env = (false, eval a X.env) :: starEach [] X.env := by rfl) (hpl : (backTo pos (starEach [] X.env)).any (·.1) = false := by rfl) :
    PD X (.Call (.Name x p) [a] [] pos) (dUn f da) := pe_imp (pe_callB hc hg hm hv (pa_cons ha pa_nil hs) hn hdb hs hpl) fun _ _ _ h => c1_core hr h
theorem pd_cb2 {r : List V → Hp → VK → Prop} {f : D2} {id : String} {x : Str} {p : Pos} (hc : CallR X (.builtin id) r) (hr : RC2 r f) (hm : X.mg x = none) (ha : PD X a da) (hb : PR X b db) (hg : Gl X x := by rfl) (hv : bootBuiltins x = some (.builtin id) := by decide +kernel) (hn : x ≠ "__name__" := by decide) (hdb : (x == ("__debug__" : Str)) = false := by decide) (hs : starEach [a, b] X.env = (false, eval a X.env) :: starEach [b] X.env := by rfl) (hs2 : starEach [b] X.env = (false, eval b X.env) :: starEach [] X.env := by rfl) (hpl : (backTo pos (starEach [b] X.env)).any (·.1) = false := by rfl) :
    PD X (.Call (.Name x p) [a, b] [] pos) (dBin f da db) := pe_imp (pe_callB hc hg hm hv (pa_cons ha (pa_cons hb pa_nil hs2) hs) hn hdb hs hpl) fun _ _ _ h => c2_core hr h
theorem pd_ct1 {r : List V → Hp → VK → Prop} {f : D1} {T : String} {x : Str} {p : Pos} (hc : CallR X (.type T) r) (hr : RC1 r f) (hm : X.mg x = none) (ha : PR X a da) (hg : Gl X x := by rfl) (hv : bootBuiltins x = some (.type T) := by decide +kernel) (hn : x ≠ "__name__" := by decide) (hdb : (x == ("__debug__" : Str)) = false := by decide) (hs : starEach [a] X.env = (false, eval a X.env) :: starEach [] X.env := by rfl) (hpl : (backTo pos (starEach [] X.env)).any (·.1) = false := by rfl) :
    PD X (.Call (.Name x p) [a] [] pos) (dUn f da) := pe_imp (pe_callTy hc hg hm hv (pa_cons ha pa_nil hs) hn hdb hs hpl) fun _ _ _ h => c1_core hr h
/-! ### and, or, not, if -/
def dAnd (da db : DE) : DE := fun ρ Q => da ρ fun x ρ1 => match x with
  | .bool true => db ρ1 Q
  | .bool false => Q (.bool false) ρ1
  | _ => False
def dOr (da db : DE) : DE := fun ρ Q => da ρ fun x ρ1 => match x with
  | .bool true => Q (.bool true) ρ1
  | .bool false => db ρ1 Q
  | _ => False
def dNot (da : DE) : DE := fun ρ Q => da ρ fun x ρ1 => match x with
  | .bool c => Q (.bool (!c)) ρ1
  | _ => False
theorem pd_one {op} (h : PD X a da) : PD X (.BoolOp op [a] pos) da := pe_one h
theorem pd_and {rest : List Expr} (ha : PD X a da) (hb : PD X (.BoolOp .And (b :: rest) pos) db) : PD X (.BoolOp .And (a :: b :: rest) pos) (dAnd da db) := pe_imp (pe_and ha hb) fun σ H Q ⟨c, G, ρ, Q', rp, hd, k⟩ => by
  refine ⟨c, G, ρ, _, rp, hd, fun x ρ1 G1 H1 v q1 e1 r1 hx => ?_⟩
  cases x with
  | bool y =>
    cases hx
    refine ⟨y, rfl, ?_⟩
    cases y with
    | true => exact ⟨c, G1, ρ1, Q', r1, q1, fun d ρ2 G2 H2 w q2 e2 r2 h2 => k d ρ2 G2 H2 w q2 (e1.trans e2) r2 h2⟩
    | false => exact k _ ρ1 G1 H1 _ q1 e1 r1 (.bl false)
  | _ => exact q1.elim
theorem pd_or {rest : List Expr} (ha : PD X a da) (hb : PD X (.BoolOp .Or (b :: rest) pos) db) : PD X (.BoolOp .Or (a :: b :: rest) pos) (dOr da db) := pe_imp (pe_or ha hb) fun σ H Q ⟨c, G, ρ, Q', rp, hd, k⟩ => by
  refine ⟨c, G, ρ, _, rp, hd, fun x ρ1 G1 H1 v q1 e1 r1 hx => ?_⟩
  cases x with
  | bool y =>
    cases hx
    refine ⟨y, rfl, ?_⟩
    cases y with
    | false => exact ⟨c, G1, ρ1, Q', r1, q1, fun d ρ2 G2 H2 w q2 e2 r2 h2 => k d ρ2 G2 H2 w q2 (e1.trans e2) r2 h2⟩
    | true => exact k _ ρ1 G1 H1 _ q1 e1 r1 (.bl true)
  | _ => exact q1.elim
theorem pd_not (ha : PD X a da) : PD X (.UnaryOp .Not a pos) (dNot da) := pe_imp (pe_not ha) fun σ H Q ⟨c, G, ρ, Q', rp, hd, k⟩ => by
  refine ⟨c, G, ρ, _, rp, hd, fun x ρ1 G1 H1 v q1 e1 r1 hx => ?_⟩
  cases x with
  | bool y =>
    cases hx
    exact ⟨y, rfl, k _ ρ1 G1 H1 _ q1 e1 r1 (.bl (!y))⟩
  | _ => exact q1.elim
def dIf (dt : DT) (da db : DE) : DE := fun ρ Q => dt ρ fun b ρ1 => match b with
  | true => da ρ1 Q
  | false => db ρ1 Q
theorem pd_if {t : Expr} {dt : DT} (ht : PTD X t dt) (ha : PD X a da) (hb : PD X b db) : PD X (.IfExp t a b pos) (dIf dt da db) := pe_imp (pe_ifExp ht ha hb) fun σ H Q ⟨c, G, ρ, Q', rp, hd, k⟩ => by
  refine ⟨c, G, ρ, _, rp, hd, fun b ρ1 G1 H1 q1 e1 r1 => ?_⟩
  cases b with
  | true => exact ⟨c, G1, ρ1, Q', r1, q1, fun d ρ2 G2 H2 w q2 e2 r2 h2 => k d ρ2 G2 H2 w q2 (e1.trans e2) r2 h2⟩
  | false => exact ⟨c, G1, ρ1, Q', r1, q1, fun d ρ2 G2 H2 w q2 e2 r2 h2 => k d ρ2 G2 H2 w q2 (e1.trans e2) r2 h2⟩
/-- two comparisons in a row -/
def dChain (f g : D2) (da db dc : DE) : DE := fun ρ Q => da ρ fun x ρ1 => db ρ1 fun y ρ2 => f x y fun z => match z with
  | .bool true => dc ρ2 fun w ρ3 => g y w fun d => Q d ρ3
  | .bool false => Q (.bool false) ρ2
  | _ => False
theorem pd_chain {e3 : Expr} {dc : DE} {op op' : CmpOp} {r r' : R2} {f g : D2} (ho : OpR X (compareOp op) r) (ho' : OpR X (compareOp op') r') (hr : ROp r f) (hr' : ROp r' g) (ha : PD X a da) (hb : PD X b db) (hc : PR X e3 dc) (hm : lastMarks [op, op'] [b, e3] = false := by rfl) : PD X (.Compare a [op, op'] [b, e3] pos) (dChain f g da db dc) := pe_imp (pe_chain ho ho' ha hb hc hm) fun σ H Q ⟨c, G, ρ, Q', rp, hd, k⟩ => by
  refine ⟨c, G, ρ, _, rp, hd, fun x ρ1 G1 H1 v q1 e1 r1 hx => ?_⟩
  refine ⟨c, G1, ρ1, _, r1, q1, fun y ρ2 G2 H2 w q2 e2 r2 hy => ?_⟩
  refine hr G2 H2 v w x y _ _ r2.gh (.inl (hx.up e2)) (.inl hy) q2 fun d u H' o q3 => ?_
  obtain ⟨G3, e3, r3, h3⟩ := r2.out o
  cases d with
  | bool z =>
    cases h3
    refine ⟨z, rfl, ?_⟩
    cases z with
    | false => exact k _ ρ2 G3 H' _ q3 ((e1.trans e2).trans e3) r3 (.bl false)
    | true =>
      refine ⟨c, G3, ρ2, _, r3, q3, fun w' ρ3 G4 H4 w2 q4 e4 r4 h4 => ?_⟩
      refine hr' G4 H4 w w2 y w' _ _ r4.gh (.inl (hy.up (e3.trans e4))) h4 q4 fun d u H' o q5 => ?_
      obtain ⟨G5, e5, r5, h5⟩ := r4.out o
      exact k d ρ3 G5 H' u q5 ((((e1.trans e2).trans e3).trans e4).trans e5) r5 h5
  | _ => exact q3.elim

/-! ### tests -/
def dB (da : DE) : DT := fun ρ Q => da ρ fun x ρ1 => match x with
  | .bool c => Q c ρ1
  | _ => False
theorem tb_core {σ : L2.St} {H : Hp} {Q : Bool → Hp → Prop} (h : tT (dB da) σ H Q) : tB (tD da) σ H Q := by
  obtain ⟨c, G, ρ, Q', rp, hd, k⟩ := h
  refine ⟨c, G, ρ, _, rp, hd, fun x ρ1 G1 H1 v q1 e1 r1 hx => ?_⟩
  cases x with
  | bool y =>
    cases hx
    exact ⟨y, rfl, k y ρ1 G1 H1 q1 e1 r1⟩
  | _ => exact q1.elim
theorem ptd_val (h : PD X e da) (he : ∀ whole, isTrue e X.env whole = (do let v ← whole; standAt e.pos; holding [v] (truthy v)) := by intro _; rfl) : PTD X e (dB da) := pt_imp (pt_val h he) fun _ _ _ h => tb_core h
theorem tTest_tB (t : TE) (σ : L2.St) (H : Hp) (Q : Bool → Hp → Prop) : tTest t σ H Q = tB t σ H Q := rfl
theorem ptd_cmp {op : CmpOp} {r : R2} {f : D2} (ho : OpR X (compareOp op) r) (hr : ROp r f) (ha : PD X a da) (hb : PR X b db) (hm : behindInMarks op b = false := by first | exact nomark _ | rfl) : PTD X (.Compare a [op] [b] pos) (dB (dBin f da db)) :=
  pt_imp (pt_cmpR ho ha hb hm) fun σ H Q h => by
    obtain ⟨c, G, ρ, Q', rp, hd, k⟩ := h
    exact op_core hr ⟨c, G, ρ, _, rp, hd, fun x ρ1 G1 H1 v q1 e1 r1 hx => by
      cases x with
      | bool y =>
        cases hx
        exact ⟨y, rfl, k y ρ1 G1 H1 q1 e1 r1⟩
      | _ => exact q1.elim⟩
theorem ptd_cmpV (i : Nat) {x : Str} {p : Pos} {op : CmpOp} {r : R2} {f : D2} (ho : OpR X (compareOp op) r) (hr : ROp r f) (hb : PR X b db) (hm : behindInMarks op b = false := by first | exact nomark _ | rfl) (hN : X.N[i]? = some x := by rfl) (hv : Vis X.env.scope x := by first | exact Or.inl rfl | exact Or.inr (Or.inl rfl) | exact Or.inr (Or.inr rfl)) (hd : (x == ("__debug__" : Str)) = false := by decide)
    (hcd : (x == ("__classdict__" : Str)) = false := by decide) : PTD X (.Compare (.Name x p) [op] [b] pos) (dB (dBinV f i db)) :=
  pt_imp (pt_cmpR ho (pe_var hN hv hd hcd) hb hm) fun σ H Q h => by
    obtain ⟨c, G, ρ, Q', rp, hd, k⟩ := h
    exact opV_core hr ⟨c, G, ρ, _, rp, hd, fun x ρ1 G1 H1 v q1 e1 r1 hx => by
      cases x with
      | bool y =>
        cases hx
        exact ⟨y, rfl, k y ρ1 G1 H1 q1 e1 r1⟩
      | _ => exact q1.elim⟩
def dTAnd (dt du : DT) : DT := fun ρ Q => dt ρ fun b ρ1 => match b with
  | true => du ρ1 Q
  | false => Q false ρ1
def dTOr (dt du : DT) : DT := fun ρ Q => dt ρ fun b ρ1 => match b with
  | true => Q true ρ1
  | false => du ρ1 Q
def dTNot (dt : DT) : DT := fun ρ Q => dt ρ fun b ρ1 => Q (!b) ρ1
abbrev PWD (X : Cx) (e : Expr) (dt : DT) : Prop := PW X e (tT dt)
variable {dt du : DT} {rest : List Expr}
theorem pwd_and1 (ha : PTD X a dt) : PWD X (.BoolOp .And [a] pos) dt := pw_and1 ha
theorem pwd_or1 (ha : PTD X a dt) : PWD X (.BoolOp .Or [a] pos) dt := pw_or1 ha
theorem pwd_and (ha : PTD X a dt) (hb : PWD X (.BoolOp .And (b :: rest) pos) du) : PWD X (.BoolOp .And (a :: b :: rest) pos) (dTAnd dt du) := pw_imp (pw_and ha hb) fun σ H Q ⟨c, G, ρ, Q', rp, hd, k⟩ => by
  refine ⟨c, G, ρ, _, rp, hd, fun b ρ1 G1 H1 q1 e1 r1 => ?_⟩
  cases b with
  | true => exact ⟨c, G1, ρ1, Q', r1, q1, fun d ρ2 G2 H2 q2 e2 r2 => k d ρ2 G2 H2 q2 (e1.trans e2) r2⟩
  | false => exact k _ ρ1 G1 H1 q1 e1 r1
theorem pwd_or (ha : PTD X a dt) (hb : PWD X (.BoolOp .Or (b :: rest) pos) du) : PWD X (.BoolOp .Or (a :: b :: rest) pos) (dTOr dt du) := pw_imp (pw_or ha hb) fun σ H Q ⟨c, G, ρ, Q', rp, hd, k⟩ => by
  refine ⟨c, G, ρ, _, rp, hd, fun b ρ1 G1 H1 q1 e1 r1 => ?_⟩
  cases b with
  | false => exact ⟨c, G1, ρ1, Q', r1, q1, fun d ρ2 G2 H2 q2 e2 r2 => k d ρ2 G2 H2 q2 (e1.trans e2) r2⟩
  | true => exact k _ ρ1 G1 H1 q1 e1 r1
theorem ptd_w (h : PWD X e dt) : PTD X e dt := PW.pt h
theorem ptd_not (ha : PTD X a dt) : PTD X (.UnaryOp .Not a pos) (dTNot dt) := pt_imp (pt_not ha) fun σ H Q ⟨c, G, ρ, Q', rp, hd, k⟩ =>
  ⟨c, G, ρ, _, rp, hd, fun b ρ1 G1 H1 q1 e1 r1 => k _ ρ1 G1 H1 q1 e1 r1⟩

/-! ### arguments -/
def daNil : DN := fun ρ Q => Q [] ρ
def daCons (de : DE) (da : DN) : DN := fun ρ Q => de ρ fun x ρ1 => da ρ1 fun xs ρ2 => Q (x :: xs) ρ2
theorem pad_nil : PAD X [] daNil := pa_imp pa_nil fun σ H Q ⟨c, G, ρ, Q', rp, hd, k⟩ => k [] ρ G H [] hd (Ex.refl G) rp .nil
theorem pad_cons {ds : DN} (ha : PD X a da) (hr : PAD X es ds) (hs : starEach (a :: es) X.env = (false, eval a X.env) :: starEach es X.env := by rfl) : PAD X (a :: es) (daCons da ds) := pa_imp (pa_cons ha hr hs) fun σ H Q ⟨c, G, ρ, Q', rp, hd, k⟩ => by
  refine ⟨c, G, ρ, _, rp, hd, fun x ρ1 G1 H1 v q1 e1 r1 hx => ?_⟩
  exact ⟨c, G1, ρ1, _, r1, q1, fun ys ρ2 G2 H2 vs q2 e2 r2 hy => k (x :: ys) ρ2 G2 H2 (v :: vs) q2 (e1.trans e2) r2 (.cons (hx.up e2) hy)⟩
/-! ### displays -/
def dTup (da : DN) : DE := fun ρ Q => da ρ fun ds ρ1 => ds.length ≤ 100000 ∧ Q (.tuple ds) ρ1
def dLst (da : DN) : DN := fun ρ Q => da ρ fun ds ρ1 => ds.length ≤ 100000 ∧ Q ds ρ1
theorem pd_tup {k : Nat} {da : DN} (h : PAD X es da) : PD X (.Tuple es k pos) (dTup da) := pe_imp (pe_tup h) fun σ H Q ⟨c, G, ρ, Q', rp, hd, k⟩ => by
  refine ⟨c, G, ρ, _, rp, hd, fun ds ρ1 G1 H1 vs ⟨hl, q1⟩ e1 r1 hx => ⟨sz_of (by rw [hx.len]; exact hl), fun p hp => ?_⟩⟩
  have e2 : Ex G1 (upd G1 p (.tup vs)) := Ex.new (none_up r1.gh hp)
  exact k _ ρ1 _ _ _ q1 (e1.trans e2) (r1.new hp) (.tup upd_same (hx.up e2))
theorem Rep.free {c : Co} {G H : Hp} {σ : L2.St} {ρ : Rho} (r : Rep c G σ H ρ) {p : Addr} (hp : H p = none) : freeAt c p := by
  refine ⟨?_, fun q hq z => ?_⟩
  · cases q : c.H0 p with
    | none => rfl
    | some o => exact absurd hp (r.dom p (by rw [q]; exact fun z => nomatch z))
  · rw [← z, (r.pins q hq).1] at hp
    cases hp
theorem pn_lst {da : DN} (h : PAD X es da) : PN X (.List es pos) (dLst da) := pe_imp (pe_lst h) fun σ H Q ⟨c, G, ρ, Q', rp, hd, k⟩ => by
  refine ⟨c, G, ρ, _, rp, hd, fun ds ρ1 G1 H1 vs ⟨hl, q1⟩ e1 r1 hx => ⟨sz_of (by rw [hx.len]; exact hl), fun p hp => ?_⟩⟩
  exact k _ ρ1 G1 _ p vs q1 e1 (r1.pinN hp) (r1.free hp) hx
end
end DL

set_option Elab.async false
set_option linter.all false
set_option maxRecDepth 100000
set_option maxHeartbeats 1000000
/-! DL3: statements, loops, comprehensions, calls and defs over data. -/
namespace DL
open PySem L2 Evl PyProof.Rows RZ

/-! ### what is walked -/
/-- from every heap that holds G the items come in turn -/
def Gives (G : Hp) (J : It) (items : List PyData) : Prop := ∃ (Gd : Hp → Prop) (Y : Nat → Hp → V → Hp → Prop), Walk J items.length Gd Y ∧ (∀ H, Ex G H → Gd H) ∧
  ∀ i H x H' d, Ex G H → Y i H x H' → items[i]? = some d → ∀ G1, Ex G G1 → Ex G1 H → Out G1 H x d H'
def iD (di : DN) : TI := fun σ H R => ∃ c G ρ R', Rep c G σ H ρ ∧ di ρ R' ∧ ∀ items ρ' G' H' J, R' items ρ' → Ex G G' → Rep c G' σ H' ρ' → Gives G' J items → R J H'
abbrev PID (X : Cx) (tg e : Expr) (di : DN) : Prop := PI X tg e (iD di)
/-- a target; the slots it may set -/
abbrev DG := PyData → Rho → (Rho → Prop) → Prop
def gD (is : List Nat) (dg : DG) : TG := fun v σ H Q => ∃ c G ρ d Q', Rep c G σ H ρ ∧ Rp G v d ∧ dg d ρ Q' ∧ ∀ σ' ρ', Q' ρ' → Rep c G σ' H ρ' → (σ'.length = σ.length ∧ ∀ j, j ∉ is → σ'[j]? = σ[j]?) → Q σ' H
abbrev PGD (X : Cx) (t : Expr) (is : List Nat) (dg : DG) : Prop := PG X t (gD is dg)
def gDs (is : List Nat) (dg : List PyData → Rho → (Rho → Prop) → Prop) : TGs := fun vs σ H Q => ∃ c G ρ ds Q', Rep c G σ H ρ ∧ RpAll G vs ds ∧ dg ds ρ Q' ∧ ∀ σ' ρ', Q' ρ' → Rep c G σ' H ρ' → (σ'.length = σ.length ∧ ∀ j, j ∉ is → σ'[j]? = σ[j]?) → Q σ' H
abbrev PGsD (X : Cx) (ts : List Expr) (is : List Nat) (dg : List PyData → Rho → (Rho → Prop) → Prop) : Prop := PGs X ts (gDs is dg)
def dgName (i : Nat) : DG := fun d ρ Q => Q (ρ.set i (.val d))
def dgNil : List PyData → Rho → (Rho → Prop) → Prop := fun ds ρ Q => match ds with
  | [] => Q ρ
  | _ => False
def dgCons (dg : DG) (dr : List PyData → Rho → (Rho → Prop) → Prop) : List PyData → Rho → (Rho → Prop) → Prop := fun ds ρ Q => match ds with
  | d :: r => dg d ρ fun ρ1 => dr r ρ1 Q
  | _ => False
def dgTup (dr : List PyData → Rho → (Rho → Prop) → Prop) : DG := fun d ρ Q => match d with
  | .tuple ds => dr ds ρ Q
  | _ => False
section
variable {X : Cx} {e : Expr} {es : List Expr} {pos : Pos}
theorem pgd_name (i : Nat) {x : Str} (hN : X.N.Nodup) (hi : X.N[i]? = some x := by rfl) (hx : Loc X.env.scope x := by first | exact Or.inl rfl | exact Or.inr rfl) (hf : X.fn x = true ∨ X.env.scope.names.lookup x = some .local := by first | exact .inl rfl | exact .inr rfl) : PGD X (.Name x pos) [i] (dgName i) :=
  pg_imp (pg_name hN hi hx hf) fun v σ H Q ⟨c, G, ρ, d, Q', r, hv, hd, k⟩ => k _ _ hd (r.setV hv) ⟨by rw [List.length_set], fun j hj => set_at (fun z => hj (by rw [z]; exact List.mem_singleton.mpr rfl))⟩
theorem pgsd_nil : PGsD X [] [] dgNil := ⟨fun pins s σ H vs us Q I r ⟨c, G, ρ, ds, Q', rp, hv, hd, k⟩ => by
  cases hv with
  | nil => exact pgs_nil.run pins s σ H [] us Q I r ⟨rfl, k σ ρ hd rp ⟨rfl, fun _ _ => rfl⟩⟩
  | cons _ _ => exact hd.elim⟩
theorem pgsd_cons {is js : List Nat} {dg : DG} {dr : List PyData → Rho → (Rho → Prop) → Prop} (h1 : PGD X e is dg) (h2 : PGsD X es js dr) (hs : (assignEach (e :: es) X.env).map (·.2) = assign e X.env :: (assignEach es X.env).map (·.2) := by rfl) : PGsD X (e :: es) (is ++ js) (dgCons dg dr) :=
  ⟨fun pins s σ H vs us Q I r ⟨c, G, ρ, ds, Q', rp, hv, hd, k⟩ => by
    cases hv with
    | nil => exact hd.elim
    | cons v1 v2 =>
      refine (pgs_cons h1 h2 hs).run pins s σ H _ us Q I r ⟨_, _, rfl, c, G, ρ, _, _, rp, v1, hd, fun σ1 ρ1 q1 r1 l1 => ?_⟩
      refine ⟨c, G, ρ1, _, Q', r1, v2, q1, fun σ2 ρ2 q2 r2 l2 => k σ2 ρ2 q2 r2 ⟨l2.1.trans l1.1, fun j hj => ?_⟩⟩
      rw [l2.2 j (fun z => hj (List.mem_append_right _ z)), l1.2 j (fun z => hj (List.mem_append_left _ z))]⟩
theorem pgd_tup {is : List Nat} {dr : List PyData → Rho → (Rho → Prop) → Prop} {k n : Nat} (hc : X.calm = true) (h : PGsD X es is dr) (hl : ∀ ds ρ Q, dr ds ρ Q → ds.length = n) (hn : (assignEach es X.env).length = n := by rfl) (hst : (assignEach es X.env).findIdx? (·.1) = none := by rfl) : PGD X (.Tuple es k pos) is (dgTup dr) :=
  pg_imp (pg_tup hc h hn hst) fun v σ H Q ⟨c, G, ρ, d, Q', rp, hv, hd, k⟩ => by
    cases hv with
    | tup a b => exact ⟨_, _, rfl, SqT.of (rp.gh _ _ a), by rw [b.len]; exact hl _ _ _ hd, c, G, ρ, _, Q', rp, b, hd, k⟩
    | _ => exact hd.elim
theorem len_nil : ∀ ds ρ Q, dgNil ds ρ Q → ds.length = 0 := fun ds ρ Q h => by
  cases ds with
  | nil => rfl
  | cons _ _ => exact h.elim
theorem len_cons {dg : DG} {dr : List PyData → Rho → (Rho → Prop) → Prop} {n : Nat} (hm : ∀ d ρ (Q : Rho → Prop), dg d ρ Q → ∃ ρ', Q ρ') (h : ∀ ds ρ Q, dr ds ρ Q → ds.length = n) : ∀ ds ρ Q, dgCons dg dr ds ρ Q → ds.length = n + 1 := fun ds ρ Q q => by
  cases ds with
  | nil => exact q.elim
  | cons d r =>
    obtain ⟨ρ', q'⟩ := hm d ρ _ q
    rw [List.length_cons, h r ρ' Q q']
theorem any_name {i : Nat} : ∀ d ρ (Q : Rho → Prop), dgName i d ρ Q → ∃ ρ', Q ρ' := fun _ _ _ h => ⟨_, h⟩
theorem any_tup {dr : List PyData → Rho → (Rho → Prop) → Prop} (hm : ∀ ds ρ (Q : Rho → Prop), dr ds ρ Q → ∃ ρ', Q ρ') : ∀ d ρ (Q : Rho → Prop), dgTup dr d ρ Q → ∃ ρ', Q ρ' := fun d ρ Q h => by
  cases d with
  | tuple ds => exact hm ds ρ Q h
  | _ => exact h.elim
theorem any_nil : ∀ ds ρ (Q : Rho → Prop), dgNil ds ρ Q → ∃ ρ', Q ρ' := fun ds ρ Q h => by
  cases ds with
  | nil => exact ⟨_, h⟩
  | cons _ _ => exact h.elim
theorem any_cons {dg : DG} {dr : List PyData → Rho → (Rho → Prop) → Prop} (h1 : ∀ d ρ (Q : Rho → Prop), dg d ρ Q → ∃ ρ', Q ρ') (h2 : ∀ ds ρ (Q : Rho → Prop), dr ds ρ Q → ∃ ρ', Q ρ') : ∀ ds ρ (Q : Rho → Prop), dgCons dg dr ds ρ Q → ∃ ρ', Q ρ' := fun ds ρ Q q => by
  cases ds with
  | nil => exact q.elim
  | cons d r =>
    obtain ⟨ρ', q'⟩ := h1 d ρ _ q
    exact h2 r ρ' Q q'
/-! ### sources -/
def dListOf (de : DE) : DN := fun ρ Q => de ρ fun d ρ1 => match d with
  | .list ds => Q ds ρ1
  | _ => False
theorem gives_list {K : PySem.W.Frag} {G : Hp} {a : Addr} {xs : List V} {ds : List PyData} (h : G a = some (.lst xs)) (r : RpAll G xs ds) : Gives G (Itl K a) ds := by
  refine ⟨fun H => SqL K H a xs, YAt xs, by rw [← r.len]; exact walk_list, fun H e => SqL.of (e _ _ h), fun i H x H' d e y hd G1 e1 e2 => ?_⟩
  obtain ⟨rfl, hx⟩ := y
  obtain ⟨v, h1, h2⟩ := r.at hd
  rw [hx] at h1
  cases h1
  exact .inl ⟨rfl, h2.up e1⟩
theorem gives_tup {K : PySem.W.Frag} {G : Hp} {a : Addr} {xs : List V} {ds : List PyData} (h : G a = some (.tup xs)) (r : RpAll G xs ds) : Gives G (Itt K a) ds := by
  refine ⟨fun H => SqT K H a xs, YAt xs, by rw [← r.len]; exact walk_tup, fun H e => SqT.of (e _ _ h), fun i H x H' d e y hd G1 e1 e2 => ?_⟩
  obtain ⟨rfl, hx⟩ := y
  obtain ⟨v, h1, h2⟩ := r.at hd
  rw [hx] at h1
  cases h1
  exact .inl ⟨rfl, h2.up e1⟩
theorem pid_list {tg : Expr} {de : DE} (h : PD X e de) : PID X tg e (dListOf de) := pi_imp (pi_list h) fun σ H R ⟨c, G, ρ, R', rp, hd, k⟩ => by
  refine ⟨c, G, ρ, _, rp, hd, fun d ρ1 G1 H1 v q1 e1 r1 hx => ?_⟩
  cases hx with
  | lst a b => exact ⟨_, rfl, ⟨_, SqL.of (r1.gh _ _ a)⟩, k _ ρ1 G1 H1 _ q1 e1 r1 (gives_list a b)⟩
  | _ => exact q1.elim
/-- a name, of a list or of a tuple -/
def dSeqVar (i : Nat) : DN := fun ρ Q => match ρ[i]? with
  | some (.val (.list ds)) => Q ds ρ
  | some (.val (.tuple ds)) => Q ds ρ
  | some (.own ds) => Q ds (ρ.set i (.val (.list ds)))
  | _ => False
theorem pid_var {tg : Expr} (i : Nat) {x : Str} {pos : Pos} (hN : X.N[i]? = some x := by rfl) (hv : Vis X.env.scope x := by first | exact Or.inl rfl | exact Or.inr (Or.inl rfl) | exact Or.inr (Or.inr rfl)) (hd : (x == ("__debug__" : Str)) = false := by decide)
    (hcd : (x == ("__classdict__" : Str)) = false := by decide) : PID X tg (.Name x pos) (dSeqVar i) := pi_imp (pi_or (pi_list (pe_var hN hv hd hcd)) (pi_tup (pe_var hN hv hd hcd))) fun σ H R ⟨c, G, ρ, R', rp, h, k⟩ => by
  unfold dSeqVar at h
  cases q : ρ[i]? with
  | none => rw [q] at h; exact h.elim
  | some s =>
    rw [q] at h
    cases s with
    | val d =>
      obtain ⟨v, h1, h2⟩ := rp.ok i _ q
      cases h2 with
      | lst a b => exact .inl ⟨_, h1, _, rfl, ⟨_, SqL.of (rp.gh _ _ a)⟩, k _ ρ G H _ h (Ex.refl G) rp (gives_list a b)⟩
      | tup a b => exact .inr ⟨_, h1, _, rfl, ⟨_, SqT.of (rp.gh _ _ a)⟩, k _ ρ G H _ h (Ex.refl G) rp (gives_tup a b)⟩
      | _ => exact h.elim
    | own ds =>
      obtain ⟨v, G', h1, h2, h3, h4⟩ := rp.freeze q
      cases h4 with
      | lst a b => exact .inl ⟨_, h1, _, rfl, ⟨_, SqL.of (h3.gh _ _ a)⟩, k _ _ G' H _ h h2 h3 (gives_list a b)⟩
    | _ => exact h.elim
def rngD (lo : Int) (n : Nat) : List PyData := (List.range n).map fun (i : Nat) => PyData.int (lo + (i : Int))
theorem rngD_len (lo : Int) (n : Nat) : (rngD lo n).length = n := by unfold rngD; rw [List.length_map, List.length_range]
theorem gives_range {G : Hp} {lo : Int} {n : Nat} : Gives G (Itr lo n) (rngD lo n) := by
  refine ⟨fun _ => True, YFn fun i => .int (lo + i), by rw [rngD_len]; exact walk_range, fun _ _ => trivial, fun i H x H' d e y hd G1 e1 e2 => ?_⟩
  obtain ⟨rfl, rfl⟩ := y
  unfold rngD at hd
  rw [List.getElem?_map] at hd
  cases q : (List.range n)[i]? with
  | none => rw [q] at hd; cases hd
  | some j =>
    rw [q] at hd
    have hj : j = i := by
      obtain ⟨h1, h2⟩ := List.getElem?_eq_some_iff.mp q
      rw [List.getElem_range] at h2
      exact h2.symm
    subst hj
    cases hd
    exact .inl ⟨rfl, .int _⟩
def dRange1 (da : DE) : DN := fun ρ Q => da ρ fun x ρ1 => match x with
  | .int n => -(2 ^ 62) ≤ n ∧ n < 2 ^ 62 ∧ Q (rngD 0 n.toNat) ρ1
  | _ => False
def dRange2 (da db : DE) : DN := fun ρ Q => da ρ fun x ρ1 => db ρ1 fun y ρ2 => match x, y with
  | .int lo, .int n => (-(2 ^ 62) ≤ lo ∧ lo < 2 ^ 62 ∧ -(2 ^ 62) ≤ n ∧ n < 2 ^ 62) ∧ Q (rngD lo (n - lo).toNat) ρ2
  | _, _ => False
variable {a b tg : Expr} {p : Pos} {da db de : DE}
theorem pid_range1 (hm : X.mg "range" = none) (ha : PD X a da) (hg : Gl X "range" := by rfl) (hs : starEach [a] X.env = [(false, eval a X.env)] := by rfl) : PID X tg (.Call (.Name "range" p) [a] [] pos) (dRange1 da) :=
  pi_imp (pi_range1 hg hm (pa_cons ha pa_nil (by rw [hs]; rfl)) hs) fun σ H R ⟨c, G, ρ, R', rp, hd, k⟩ => by
    refine ⟨c, G, ρ, _, rp, hd, fun x ρ1 G1 H1 v q1 e1 r1 hx => ?_⟩
    cases hx with
    | int n => exact ⟨n, rfl, q1.1, q1.2.1, k _ ρ1 G1 H1 _ q1.2.2 e1 r1 gives_range⟩
    | _ => exact q1.elim
theorem pid_range2 (hm : X.mg "range" = none) (ha : PD X a da) (hb : PD X b db) (hg : Gl X "range" := by rfl) (hs : starEach [a, b] X.env = [(false, eval a X.env), (false, eval b X.env)] := by rfl) (hs2 : starEach [b] X.env = [(false, eval b X.env)] := by rfl) : PID X tg (.Call (.Name "range" p) [a, b] [] pos) (dRange2 da db) :=
  pi_imp (pi_range2 hg hm (pa_cons ha (pa_cons hb pa_nil (by rw [hs2]; rfl)) (by rw [hs, hs2])) hs hs2) fun σ H R ⟨c, G, ρ, R', rp, hd, k⟩ => by
    refine ⟨c, G, ρ, _, rp, hd, fun x ρ1 G1 H1 v q1 e1 r1 hx => ?_⟩
    refine ⟨c, G1, ρ1, _, r1, q1, fun y ρ2 G2 H2 w q2 e2 r2 hy => ?_⟩
    cases hx with
    | int lo =>
      cases hy with
      | int n => exact ⟨lo, n, rfl, q2.1, k _ ρ2 G2 H2 _ q2.2 (e1.trans e2) r2 gives_range⟩
      | _ => exact q2.elim
    | _ => exact q2.elim
/-- pairs of a number and an item -/
def enumD : Nat → List PyData → List PyData
  | _, [] => []
  | k, d :: r => .tuple [.int (k : Int), d] :: enumD (k + 1) r
theorem enumD_len : ∀ (k : Nat) (ds : List PyData), (enumD k ds).length = ds.length
  | _, [] => rfl
  | k, d :: r => by
    show (enumD (k + 1) r).length + 1 = r.length + 1
    rw [enumD_len]
theorem enumD_at : ∀ (k : Nat) (ds : List PyData) (i : Nat) (e : PyData), (enumD k ds)[i]? = some e → ∃ d, ds[i]? = some d ∧ e = .tuple [.int ((k + i : Nat) : Int), d]
  | _, [], _, _, h => by
    have : ([] : List PyData)[0]? = none := rfl
    unfold enumD at h
    simp at h
  | k, d :: r, 0, e, h => ⟨d, rfl, (Option.some.inj h).symm⟩
  | k, d :: r, i + 1, e, h => by
    obtain ⟨d', h1, h2⟩ := enumD_at (k + 1) r i e h
    refine ⟨d', h1, ?_⟩
    rw [h2, show k + 1 + i = k + (i + 1) by omega]
theorem out_pair {G H : Hp} {T : Addr} {x y : V} {d e : PyData} (hT : H T = none) (gh : Ex G H) (h1 : Rp G x d) (h2 : Rp G y e) : Out G H (.ref T) (.tuple [d, e]) (upd H T (.tup [x, y])) := by
  have ex : Ex G (upd G T (.tup [x, y])) := Ex.new (none_up gh hT)
  exact .inr ⟨T, _, hT, rfl, rfl, .tup upd_same (.cons (h1.up ex) (.cons (h2.up ex) .nil))⟩
theorem gives_enum {K : PySem.W.Frag} {G : Hp} {a : Addr} {xs : List V} {ds : List PyData} (h : G a = some (.lst xs)) (r : RpAll G xs ds) : Gives G (Ite K a) (enumD 0 ds) := by
  refine ⟨fun H => SqL K H a xs, YPair (fun i => some (.int (i : Nat))) (fun i => xs[i]?), by rw [enumD_len, ← r.len]; exact walk_enum, fun H e => SqL.of (e _ _ h), fun i H x H' d e y hd G1 e1 e2 => ?_⟩
  obtain ⟨T, u, v, rfl, hT, rfl, hu, hv⟩ := y
  obtain ⟨d', h1, rfl⟩ := enumD_at 0 ds i d hd
  obtain ⟨v', h2, h3⟩ := r.at h1
  have e3 := hv.symm.trans h2
  cases e3
  cases hu
  rw [show (0 + i : Nat) = i by omega]
  exact out_pair hT e2 (.int _) (h3.up e1)
def dEnum (da : DE) : DN := fun ρ Q => da ρ fun x ρ1 => match x with
  | .list ds => Q (enumD 0 ds) ρ1
  | _ => False
theorem pid_enum {elts : List Expr} {kk : Nat} {tpos : Pos} (hm : X.mg "enumerate" = none) (ha : PD X a da) (hg : Gl X "enumerate" := by rfl) (hs : starEach [a] X.env = [(false, eval a X.env)] := by rfl) : PID X (.Tuple elts kk tpos) (.Call (.Name "enumerate" p) [a] [] pos) (dEnum da) :=
  pi_imp (pi_enum hg hm (pa_cons ha pa_nil (by rw [hs]; rfl)) hs) fun σ H R ⟨c, G, ρ, R', rp, hd, k⟩ => by
    refine ⟨c, G, ρ, _, rp, hd, fun x ρ1 G1 H1 v q1 e1 r1 hx => ?_⟩
    cases hx with
    | lst h1 h2 => exact ⟨_, _, rfl, SqL.of (r1.gh _ _ h1), k _ ρ1 G1 H1 _ q1 e1 r1 (gives_enum h1 h2)⟩
    | _ => exact q1.elim
def zipD : List PyData → List PyData → List PyData
  | d :: r, e :: s => .tuple [d, e] :: zipD r s
  | _, _ => []
theorem zipD_len : ∀ (ds es : List PyData), (zipD ds es).length = min ds.length es.length
  | [], es => by unfold zipD; simp
  | d :: r, [] => by unfold zipD; simp
  | d :: r, e :: s => by
    show (zipD r s).length + 1 = min (r.length + 1) (s.length + 1)
    rw [zipD_len]
    omega
theorem zipD_at : ∀ (ds es : List PyData) (i : Nat) (x : PyData), (zipD ds es)[i]? = some x → ∃ d e, ds[i]? = some d ∧ es[i]? = some e ∧ x = .tuple [d, e]
  | [], es, _, _, h => by unfold zipD at h; simp at h
  | d :: r, [], _, _, h => by unfold zipD at h; simp at h
  | d :: r, e :: s, 0, x, h => ⟨d, e, rfl, rfl, (Option.some.inj h).symm⟩
  | d :: r, e :: s, i + 1, x, h => zipD_at r s i x h
theorem gives_zip {K : PySem.W.Frag} {G : Hp} {a b : Addr} {xs ys : List V} {ds es : List PyData} (h : G a = some (.lst xs)) (r : RpAll G xs ds) (h' : G b = some (.lst ys)) (r' : RpAll G ys es) : Gives G (Itz K a b) (zipD ds es) := by
  refine ⟨fun H => SqL K H a xs ∧ SqL K H b ys, YPair (fun i => xs[i]?) (fun i => ys[i]?), walk_zip (by rw [zipD_len, r.len, r'.len]), fun H e => ⟨SqL.of (e _ _ h), SqL.of (e _ _ h')⟩, fun i H x H' d e y hd G1 e1 e2 => ?_⟩
  obtain ⟨T, u, v, rfl, hT, rfl, hu, hv⟩ := y
  obtain ⟨d', d2, h1, h2, rfl⟩ := zipD_at ds es i d hd
  obtain ⟨u', k1, k2⟩ := r.at h1
  obtain ⟨v', k3, k4⟩ := r'.at h2
  have e3 := hu.symm.trans k1
  cases e3
  have e4 := hv.symm.trans k3
  cases e4
  exact out_pair hT e2 (k2.up e1) (k4.up e1)
theorem walk_zipT {K : PySem.W.Frag} {a b : Addr} {xs ys : List V} {n : Nat} (hn : n = min xs.length ys.length) : Walk (ItzT K a b) n (fun H => SqT K H a xs ∧ SqT K H b ys) (YPair (fun i => xs[i]?) (fun i => ys[i]?)) := by
  subst hn
  refine ⟨fun i _ hi q => ?_, fun _ q => ⟨xs, ys, q.1, q.2, by omega⟩, fun i H v H' _ q y => ?_⟩
  · have h1 : i < xs.length := by omega
    have h2 : i < ys.length := by omega
    exact ⟨xs, ys, xs[i], ys[i], q.1, q.2, by simp [h1], by simp [h2]⟩
  · obtain ⟨T, x, z, h1, h2, h3, h4, h5⟩ := y
    exact ⟨T, x, z, h1, h2, h3, h4 xs q.1, h5 ys q.2⟩
theorem gives_zipT {K : PySem.W.Frag} {G : Hp} {a b : Addr} {xs ys : List V} {ds es : List PyData} (h : G a = some (.tup xs)) (r : RpAll G xs ds) (h' : G b = some (.tup ys)) (r' : RpAll G ys es) : Gives G (ItzT K a b) (zipD ds es) := by
  refine ⟨fun H => SqT K H a xs ∧ SqT K H b ys, YPair (fun i => xs[i]?) (fun i => ys[i]?), walk_zipT (by rw [zipD_len, r.len, r'.len]), fun H e => ⟨SqT.of (e _ _ h), SqT.of (e _ _ h')⟩, fun i H x H' d e y hd G1 e1 e2 => ?_⟩
  obtain ⟨T, u, v, rfl, hT, rfl, hu, hv⟩ := y
  obtain ⟨d', d2, h1, h2, rfl⟩ := zipD_at ds es i d hd
  obtain ⟨u', k1, k2⟩ := r.at h1
  obtain ⟨v', k3, k4⟩ := r'.at h2
  have e3 := hu.symm.trans k1
  cases e3
  have e4 := hv.symm.trans k3
  cases e4
  exact out_pair hT e2 (k2.up e1) (k4.up e1)
def dZip (da db : DE) : DN := fun ρ Q => da ρ fun x ρ1 => db ρ1 fun y ρ2 => match x, y with
  | .list ds, .list es => Q (zipD ds es) ρ2
  | .tuple ds, .tuple es => Q (zipD ds es) ρ2
  | _, _ => False
theorem pid_zip {elts : List Expr} {kk : Nat} {tpos : Pos} (hm : X.mg "zip" = none) (ha : PD X a da) (hb : PD X b db) (hg : Gl X "zip" := by rfl) (hs : starEach [a, b] X.env = (false, eval a X.env) :: starEach [b] X.env := by rfl) (hs2 : starEach [b] X.env = (false, eval b X.env) :: starEach [] X.env := by rfl) (hpl : (backTo pos (starEach [b] X.env)).any (·.1) = false := by rfl) :
    PID X (.Tuple elts kk tpos) (.Call (.Name "zip" p) [a, b] [] pos) (dZip da db) :=
  pi_imp (pi_zipA hg hm (pa_cons ha (pa_cons hb pa_nil hs2) hs) hs hpl) fun σ H R ⟨c, G, ρ, R', rp, hd, k⟩ => by
    refine ⟨c, G, ρ, _, rp, hd, fun x ρ1 G1 H1 v q1 e1 r1 hx => ?_⟩
    refine ⟨c, G1, ρ1, _, r1, q1, fun y ρ2 G2 H2 w q2 e2 r2 hy => ?_⟩
    cases hx with
    | lst h1 h2 =>
      cases hy with
      | lst h3 h4 => exact ⟨_, _, _, _, rfl, .inl ⟨SqL.of (r2.gh _ _ (e2 _ _ h1)), SqL.of (r2.gh _ _ h3), k _ ρ2 G2 H2 _ q2 (e1.trans e2) r2 (gives_zip (e2 _ _ h1) (h2.up e2) h3 h4)⟩⟩
      | _ => exact q2.elim
    | tup h1 h2 =>
      cases hy with
      | tup h3 h4 => exact ⟨_, _, _, _, rfl, .inr ⟨SqT.of (r2.gh _ _ (e2 _ _ h1)), SqT.of (r2.gh _ _ h3), k _ ρ2 G2 H2 _ q2 (e1.trans e2) r2 (gives_zipT (e2 _ _ h1) (h2.up e2) h3 h4)⟩⟩
      | _ => exact q2.elim
    | _ => exact q2.elim
end
/-! ### comprehensions -/
def wipeR (ρ : Rho) : List Nat → Rho
  | [] => ρ
  | v :: vs => (wipeR ρ vs).set v .no
theorem Rep.wiped {c : Co} {G H : Hp} {σ : L2.St} {ρ : Rho} (r : Rep c G σ H ρ) : ∀ vs : List Nat, Rep c G (L2.wipe σ vs) H (wipeR ρ vs)
  | [] => r
  | v :: vs => (Rep.wiped r vs).setNo
theorem wipe_at {σ : L2.St} {j : Nat} : ∀ {vs : List Nat}, j ∉ vs → (L2.wipe σ vs)[j]? = σ[j]?
  | [], _ => rfl
  | v :: vs, h => by
    show ((L2.wipe σ vs).set v none)[j]? = σ[j]?
    rw [set_at (fun z => h (by rw [z]; exact List.mem_cons_self)), wipe_at (fun z => h (List.mem_cons_of_mem _ z))]
theorem wipe_in {σ : L2.St} {j : Nat} : ∀ {vs : List Nat}, j ∈ vs → (L2.wipe σ vs)[j]? = if j < σ.length then some none else none
  | v :: vs, h => by
    show ((L2.wipe σ vs).set v none)[j]? = _
    by_cases e : v = j
    · subst e
      by_cases hl : v < σ.length
      · rw [List.getElem?_set_self (by rw [wipe_length]; exact hl), if_pos hl]
      · rw [if_neg hl, List.getElem?_eq_none (by rw [List.length_set, wipe_length]; omega)]
    · rw [List.getElem?_set_ne e]
      rcases List.mem_cons.mp h with z | z
      · exact absurd z.symm e
      · exact wipe_in z
theorem wipe_same {σ σ' : L2.St} {is vs : List Nat} (l : σ'.length = σ.length) (h : ∀ j, j ∉ is → σ'[j]? = σ[j]?) (hs : ∀ j ∈ is, j ∈ vs) : L2.wipe σ' vs = L2.wipe σ vs := by
  refine List.ext_getElem? fun j => ?_
  by_cases hj : j ∈ vs
  · rw [wipe_in hj, wipe_in hj, l]
  · rw [wipe_at hj, wipe_at hj]
    exact h j fun z => hj (hs j z)
theorem wipeR_no {ρ : Rho} {j : Nat} : ∀ {vs : List Nat}, j ∈ vs → (wipeR ρ vs)[j]? = none ∨ (wipeR ρ vs)[j]? = some .no
  | v :: vs, h => by
    show ((wipeR ρ vs).set v .no)[j]? = none ∨ ((wipeR ρ vs).set v .no)[j]? = some .no
    by_cases e : v = j
    · subst e
      by_cases hl : v < (wipeR ρ vs).length
      · exact .inr (List.getElem?_set_self hl)
      · exact .inl (List.getElem?_eq_none (by rw [List.length_set]; omega))
    · rw [List.getElem?_set_ne e]
      rcases List.mem_cons.mp h with z | z
      · exact absurd z.symm e
      · exact wipeR_no z
/-- behind the block: its own slots are told of no more -/
theorem Rep.unwipe {c : Co} {G H : Hp} {σ : L2.St} {ρ : Rho} {vs : List Nat} (r : Rep c G (L2.wipe σ vs) H ρ) (h : ∀ j ∈ vs, ρ[j]? = none ∨ ρ[j]? = some .no) : Rep c G σ H ρ := by
  have at_ : ∀ (j : Nat) (s : Sl), ρ[j]? = some s → s ≠ .no → (L2.wipe σ vs)[j]? = σ[j]? := fun j s hs hn => wipe_at fun z => by
    rcases h j z with q | q
    · rw [q] at hs; cases hs
    · rw [q] at hs; cases hs; exact hn rfl
  refine ⟨⟨r.g0, r.fr, r.gh, r.hh, r.dom⟩, by rw [r.len, wipe_length], fun i s hs => ?_, fun i j s t hij h1 h2 m1 m2 => ?_, fun q hq => ?_, r.mats.sub (fun i s hs m => ⟨hs, (at_ i s hs (fun z => by rw [z] at m; cases m)).symm⟩) fun q hq => hq⟩
  · have o := r.ok i s hs
    cases s with
    | no => trivial
    | _ => rw [at_ i _ hs (fun z => by cases z)] at o; exact o
  · rw [← at_ i s h1 (fun z => by rw [z] at m1; cases m1), ← at_ j t h2 (fun z => by rw [z] at m2; cases m2)]
    exact r.sep i j s t hij h1 h2 m1 m2
  · obtain ⟨a, b, d⟩ := r.pins q hq
    refine ⟨a, b, fun i s hs m => ?_⟩
    rw [← at_ i s hs (fun z => by rw [z] at m; cases m)]
    exact d i s hs m
/-- [e for g in i if t]: vs the block's own slots -/
def dLc (di : DN) (dg : DG) (dt : DT) (de : DE) (vs : List Nat) : DN := fun ρ Q => di ρ fun items ρ1 => ∃ I : Nat → Rho → List PyData → Prop, I 0 (wipeR ρ1 vs) [] ∧
  (∀ i x ρ acc, items[i]? = some x → I i ρ acc → dg x ρ fun ρ2 => dt ρ2 fun b ρ3 => match b with
    | true => de ρ3 fun y ρ4 => acc.length < 100000 ∧ I (i + 1) (wipeR ρ4 vs) (acc ++ [y])
    | false => I (i + 1) (wipeR ρ3 vs) acc) ∧
  ∀ ρ acc, I items.length ρ acc → Q acc (wipeR ρ vs)
theorem wipe_idem (σ : L2.St) (vs : List Nat) : L2.wipe (L2.wipe σ vs) vs = L2.wipe σ vs := by
  refine List.ext_getElem? fun j => ?_
  by_cases hj : j ∈ vs
  · rw [wipe_in hj, wipe_in hj, wipe_length]
  · rw [wipe_at hj]
theorem wipeR_idem (ρ : Rho) (vs : List Nat) : ∀ j ∈ vs, (wipeR ρ vs)[j]? = none ∨ (wipeR ρ vs)[j]? = some .no := fun j h => wipeR_no h
/-- what is under way changes -/
theorem Rep.repin {c : Co} {G H : Hp} {σ : L2.St} {ρ : Rho} {D : Addr} {o o' : HO} (r : Rep { c with pin := (D, o) :: c.pin } G σ H ρ) (f : freeAt c D) : Rep { c with pin := (D, o') :: c.pin } G σ (upd H D o') ρ := by
  obtain ⟨p1, p2, p3⟩ := r.pins (D, o) List.mem_cons_self
  refine ⟨⟨r.g0, r.fr, fun a u h => ?_, fun a u h1 h2 => ?_, fun a h => ?_⟩, r.len, fun i s hs => ?_, r.sep, fun q hq => ?_, fun i bs dss hi => ?_⟩
  · rw [upd_ne (ne_of_none h p2)]
    exact r.gh a u h
  · rw [upd_ne (ne_of_none h1 f.1)]
    exact r.hh a u h1 h2
  · by_cases z : a = D
    · rw [z, upd_same]
      exact fun y => nomatch y
    · rw [upd_ne z]
      exact r.dom a h
  · have k := r.ok i s hs
    have k' : SlOk { c with pin := (D, o') :: c.pin } G H (σ[i]?) s := by cases s <;> exact k
    refine k'.go (Ex.refl G) (fun a u z m ha => ?_) fun bs dss es b hb u hu => ?_
    · obtain ⟨b, q1, q2, _⟩ := k'.adr m
      rw [z] at q1
      cases q1
      refine ⟨?_, q2⟩
      rw [upd_ne (fun y => p3 i s hs m (by rw [z, y]))]
      exact ha
    · subst es
      refine ⟨?_, (k'.inn b hb).1⟩
      rw [upd_ne (fun y => (r.mats i bs dss hs).2.2 (D, o) List.mem_cons_self (by rw [← y]; exact hb))]
      exact hu
  · rcases List.mem_cons.mp hq with rfl | hq
    · exact ⟨upd_same, p2, p3⟩
    · obtain ⟨q1, q2, q3⟩ := r.pins q (List.mem_cons_of_mem _ hq)
      refine ⟨?_, q2, q3⟩
      rw [upd_ne (f.2 q hq)]
      exact q1
  · obtain ⟨x, y, z⟩ := r.mats i bs dss hi
    refine ⟨x, y, fun q hq => ?_⟩
    rcases List.mem_cons.mp hq with rfl | hq
    · exact z (D, o) List.mem_cons_self
    · exact z q (List.mem_cons_of_mem _ hq)
theorem lc_go {wi : TI} {di : DN} {dg : DG} {dt : DT} {de : DE} {is vs : List Nat} (hs : ∀ j ∈ is, j ∈ vs) {σ : L2.St} {H : Hp} {Q : VK} (h : tN (dLc di dg dt de vs) σ H Q) : tLc (iD di) (gD is dg) (tT dt) (tD de) vs σ H Q := by
  obtain ⟨c, G, ρ, Q', rp, hd, k⟩ := h
  refine ⟨c, G, ρ, _, rp, hd, fun items ρ1 G1 H1 J q1 e1 r1 gv D hD => ?_⟩
  obtain ⟨I, i0, step, fin⟩ := q1
  obtain ⟨Gd, Y, W, hG, hY⟩ := gv
  have fr := r1.free hD
  -- the state of a turn
  let Pv : Nat → Hp → Prop := fun i H' => ∃ G' ρ' acc xs, Ex G1 G' ∧ Rep { c with pin := (D, .lst xs) :: c.pin } G' (L2.wipe σ vs) H' (wipeR ρ' vs) ∧ RpAll G' xs acc ∧ I i (wipeR ρ' vs) acc
  have h0 : Pv 0 (upd H1 D (.lst [])) := ⟨G1, ρ1, [], [], Ex.refl G1, (r1.pinN hD).wiped vs, .nil, i0⟩
  refine lc_it W Pv h0 (fun i H' _ ⟨G', ρ', acc, xs, e, r, _, _⟩ => hG H' (e.trans r.gh)) (fun i x H' H'' hi p y => ?_) (fun H' p => ?_)
  · obtain ⟨G', ρ', acc, xs, e, r, ra, hI⟩ := p
    obtain ⟨d, hdi⟩ : ∃ d, items[i]? = some d := ⟨_, List.getElem?_eq_getElem hi⟩
    obtain ⟨G2, e2, r2, hx⟩ := r.out (hY i H' x H'' d (e.trans r.gh) y hdi G' e r.gh)
    refine ⟨_, G2, _, d, _, r2, hx, step i d _ acc hdi hI, fun σ2 ρ2 q2 r3 l2 => ?_⟩
    have hw : L2.wipe σ2 vs = L2.wipe σ vs := by rw [wipe_same l2.1 l2.2 hs, wipe_idem]
    refine ⟨hw, _, G2, ρ2, _, r3, q2, fun b ρ3 G3 H3 q3 e3 r4 => ?_⟩
    cases b with
    | false =>
      show Pv (i + 1) H3
      have r5 := r4.wiped vs
      rw [hw] at r5
      exact ⟨G3, ρ3, acc, xs, (e.trans e2).trans e3, r5, ra.up (e2.trans e3), q3⟩
    | true =>
      show tD de σ2 H3 _
      refine ⟨_, G3, ρ3, _, r4, q3, fun y ρ4 G4 H4 w q4 e4 r5 hy => ?_⟩
      have r6 := (r5.repin (o' := .lst (xs ++ [w])) fr).wiped vs
      rw [hw] at r6
      refine ⟨xs, (r5.pins _ List.mem_cons_self).1, sz_lt (by rw [ra.len]; exact q4.1), ?_⟩
      exact ⟨G4, ρ4, acc ++ [y], xs ++ [w], ((e.trans e2).trans e3).trans e4, r6, (ra.up ((e2.trans e3).trans e4)).app (.cons hy .nil), q4.2⟩
  · obtain ⟨G', ρ', acc, xs, e, r, ra, hI⟩ := p
    refine k acc _ G' H' D xs (fin _ acc hI) (e1.trans e) ?_ fr ra
    have r5 := r.wiped vs
    rw [wipe_idem] at r5
    exact r5.unwipe fun j hj => wipeR_no hj
section
variable {X : Cx}
abbrev PTsD (X : Cx) (ifs : List Expr) (dt : DT) : Prop := PTs X ifs (tT dt)
def dYes : DT := fun ρ Q => Q true ρ
theorem ptsd_nil : PTsD X [] dYes := ⟨fun pins s σ H Q I ⟨c, G, ρ, Q', rp, hd, k⟩ => pts_nil.run pins s σ H Q I (k true ρ G H hd (Ex.refl G) rp)⟩
theorem ptsd_one {e : Expr} {dt : DT} (h : PTD X e dt) : PTsD X [e] dt := pts_one h
theorem pn_lc {elt tg iter : Expr} {ifs : List Expr} {scope : Scope} {own : List (Str × Nat)} {pos : Pos} {di : DN} {dg : DG} {dt : DT} {de : DE} {is : List Nat} (hc : X.calm = true) (hN : X.N.Nodup) (hi : PID X tg iter di) (ok : BlkOk X.N X.env.scope scope own)
    (hg : ∀ (s : Shared) (H : Hp) (C : Addr) (cl : List (Str × Addr)) (fp : List Addr), PGD (X.blk s H scope (compEnvC scope cl C X.env) fp) tg is dg) (ht : ∀ (s : Shared) (H : Hp) (C : Addr) (cl : List (Str × Addr)) (fp : List Addr), PTsD (X.blk s H scope (compEnvC scope cl C X.env) fp) ifs dt)
    (he : ∀ (s : Shared) (H : Hp) (C : Addr) (cl : List (Str × Addr)) (fp : List Addr), PD (X.blk s H scope (compEnvC scope cl C X.env) fp) elt de) (hj : ∀ j ∈ is, j ∈ own.map (·.2) := by decide) (hs : ∀ x, foldedSetIterable iter X.env x = pure x := by intro _; rfl) :
    PN X (.ListComp elt [⟨tg, iter, ifs, 0⟩] scope pos) (dLc di dg dt de (own.map (·.2))) := pe_imp (pe_lc hc hN hi ok hg ht he hs) fun _ _ _ h => lc_go (wi := iD di) hj h
end
end DL

set_option Elab.async false
set_option linter.all false
set_option maxRecDepth 100000
set_option maxHeartbeats 1000000
/-! DL4: statements and defs over data. -/
namespace DL
open PySem L2 Evl PyProof.Rows RZ

structure DEnds where
  nx : Rho → Prop
  /-- true: what is handed back is new -/
  rt : Bool → PyData → Rho → Prop
  bk : Rho → Prop := fun _ => False
  ct : Rho → Prop := fun _ => False
abbrev DS := DEnds → Rho → Prop
structure EndsOk (c : Co) (G : Hp) (D : Ends) (D' : DEnds) : Prop where
  nx : ∀ σ G' H ρ, D'.nx ρ → Ex G G' → Rep c G' σ H ρ → D.nx σ H
  rt : ∀ σ G' H ρ n d v, D'.rt n d ρ → Ex G G' → Rep c G' σ H ρ → Rp G' v d → (n = true → ∀ a, v = .ref a → c.H0 a = none) → D.rt v H
  bk : ∀ σ G' H ρ, D'.bk ρ → Ex G G' → Rep c G' σ H ρ → D.bk σ H
  ct : ∀ σ G' H ρ, D'.ct ρ → Ex G G' → Rep c G' σ H ρ → D.ct σ H
theorem EndsOk.up {c : Co} {G G' : Hp} {D : Ends} {D' : DEnds} (h : EndsOk c G D D') (e : Ex G G') : EndsOk c G' D D' :=
  ⟨fun σ G2 H ρ a b => h.nx σ G2 H ρ a (e.trans b), fun σ G2 H ρ n d v a b => h.rt σ G2 H ρ n d v a (e.trans b), fun σ G2 H ρ a b => h.bk σ G2 H ρ a (e.trans b), fun σ G2 H ρ a b => h.ct σ G2 H ρ a (e.trans b)⟩
def tS (ds : DS) : TS := fun D σ H => ∃ c G ρ D', Rep c G σ H ρ ∧ ds D' ρ ∧ EndsOk c G D D'
abbrev PSD (X : Cx) (st : Stmt) (ds : DS) : Prop := PS X st (tS ds)
abbrev PSsD (X : Cx) (sts : List Stmt) (ds : DS) : Prop := PSs X sts (tS ds)
def dNext : DS := fun D ρ => D.nx ρ
def dSeq (a b : DS) : DS := fun D ρ => a { D with nx := b D } ρ
def dBreak : DS := fun D ρ => D.bk ρ
def dCont : DS := fun D ρ => D.ct ρ
def dDrop (de : DE) : DS := fun D ρ => de ρ fun _ ρ1 => D.nx ρ1
def dRet (de : DE) : DS := fun D ρ => de ρ fun d ρ1 => D.rt false d ρ1
def dRetF (de : DE) : DS := fun D ρ => de ρ fun d ρ1 => D.rt true d ρ1
def dRetN : DS := fun D ρ => D.rt false .none ρ
def dIfS (dt : DT) (a b : DS) : DS := fun D ρ => dt ρ fun k ρ1 => match k with
  | true => a D ρ1
  | false => b D ρ1
def dSet (i : Nat) (de : DE) : DS := fun D ρ => de ρ fun d ρ1 => D.nx (ρ1.set i (.val d))
def dSetN (i : Nat) (dn : DN) : DS := fun D ρ => dn ρ fun ds ρ1 => D.nx (ρ1.set i (.own ds))
def dNever : DS := fun _ _ => False
section
variable {X : Cx} {st : Stmt} {rest sts : List Stmt} {a b : DS} {e : Expr} {de da db : DE} {dn : DN} {pos : Pos}
theorem pssd_nil : PSsD X [] dNext := pss_imp pss_nil fun D σ H ⟨c, G, ρ, D', r, h, k⟩ => k.nx σ G H ρ h (Ex.refl G) r
theorem pssd_cons (h1 : PSD X st a) (h2 : PSsD X rest b) : PSsD X (st :: rest) (dSeq a b) := pss_imp (pss_cons h1 h2) fun D σ H ⟨c, G, ρ, D', r, h, k⟩ =>
  ⟨c, G, ρ, _, r, h, ⟨fun σ' G' H' ρ' q e r' => ⟨c, G', ρ', D', r', q, k.up e⟩, k.rt, k.bk, k.ct⟩⟩
theorem pssd_one (h1 : PSD X st a) : PSsD X [st] a := pss_one h1
theorem psd_pass : PSD X (.Pass pos) dNext := ps_imp ps_pass fun D σ H ⟨c, G, ρ, D', r, h, k⟩ => k.nx σ G H ρ h (Ex.refl G) r
theorem psd_break : PSD X (.Break pos) dBreak := ps_imp ps_break fun D σ H ⟨c, G, ρ, D', r, h, k⟩ => k.bk σ G H ρ h (Ex.refl G) r
theorem psd_cont : PSD X (.Continue pos) dCont := ps_imp ps_continue fun D σ H ⟨c, G, ρ, D', r, h, k⟩ => k.ct σ G H ρ h (Ex.refl G) r
theorem psd_never : PSD X st dNever := ps_imp ps_never fun D σ H ⟨c, G, ρ, D', r, h, k⟩ => h
theorem pssd_never : PSsD X sts dNever := pss_imp pss_never fun D σ H ⟨c, G, ρ, D', r, h, k⟩ => h
theorem psd_drop (he : PD X e de) (hs : swapsWith e none pos.line X.env = pure false := by rfl) : PSD X (.Expr e pos) (dDrop de) := ps_imp (ps_expr he hs) fun D σ H ⟨c, G, ρ, D', r, h, k⟩ =>
  ⟨c, G, ρ, _, r, h, fun d ρ1 G1 H1 v q1 e1 r1 hx => k.nx σ G1 H1 ρ1 q1 e1 r1⟩
theorem psd_ret (he : PD X e de) : PSD X (.Return (some e) pos) (dRet de) := ps_imp (ps_ret he) fun D σ H ⟨c, G, ρ, D', r, h, k⟩ =>
  ⟨c, G, ρ, _, r, h, fun d ρ1 G1 H1 v q1 e1 r1 hx => k.rt σ G1 H1 ρ1 _ d v q1 e1 r1 hx (fun z => nomatch z)⟩
theorem psd_retN : PSD X (.Return none pos) dRetN := ps_imp ps_retN fun D σ H ⟨c, G, ρ, D', r, h, k⟩ => k.rt σ G H ρ _ _ _ h (Ex.refl G) r .non (fun z => nomatch z)
/-- a value that is data, and new where it is an object -/
def tF (de : DE) : TE := fun σ H Q => ∃ c G ρ Q', Rep c G σ H ρ ∧ de ρ Q' ∧ ∀ d ρ' G' H' v, Q' d ρ' → Ex G G' → Rep c G' σ H' ρ' → Rp G' v d → (∀ a, v = .ref a → c.H0 a = none ∧ G a = none) → Q v H'
abbrev PF (X : Cx) (e : Expr) (de : DE) : Prop := PE X e (tF de)
def dOwn (i : Nat) : DE := fun ρ Q => match ρ[i]? with
  | some (.own ds) => Q (.list ds) (ρ.set i (.val (.list ds)))
  | _ => False
theorem pf_own (i : Nat) {x : Str} {pos : Pos} (hN : X.N[i]? = some x := by rfl) (hv : Vis X.env.scope x := by first | exact Or.inl rfl | exact Or.inr (Or.inl rfl) | exact Or.inr (Or.inr rfl)) (hd : (x == ("__debug__" : Str)) = false := by decide)
    (hcd : (x == ("__classdict__" : Str)) = false := by decide) : PF X (.Name x pos) (dOwn i) := pe_imp (pe_var hN hv hd hcd) fun σ H Q ⟨c, G, ρ, Q', r, h, k⟩ => by
  unfold dOwn at h
  cases q : ρ[i]? with
  | none => rw [q] at h; exact h.elim
  | some s =>
    rw [q] at h
    cases s with
    | own ds =>
      obtain ⟨a, xs, g1, g2, g3, g4, g5⟩ := r.ok i _ q
      obtain ⟨v, G', h1, h2, h3, h4⟩ := r.freeze q
      refine ⟨v, h1, k _ _ G' H v h h2 h3 h4 fun b e => ?_⟩
      rw [h1, e] at g1
      cases g1
      exact ⟨g5, g4⟩
    | _ => exact h.elim
theorem pf_n (h : PN X e dn) : PF X e (asD dn) := pe_imp h fun σ H Q ⟨c, G, ρ, Q', r, hd, k⟩ => ⟨c, G, ρ, _, r, hd, fun ds ρ' G' H' p xs q e r' f h' => by
  obtain ⟨e2, r2⟩ := r'.settle f.1 f.2
  exact k (.list ds) ρ' _ H' (.ref p) q (e.trans e2) r2 (.lst upd_same (h'.up e2)) fun a z => by
    cases z
    exact ⟨f.1, by
      have := (r'.pins _ List.mem_cons_self).2.1
      cases y : G p with
      | none => rfl
      | some o => rw [e p o y] at this; cases this⟩⟩
theorem psd_retF (he : PF X e de) : PSD X (.Return (some e) pos) (dRetF de) := ps_imp (ps_ret he) fun D σ H ⟨c, G, ρ, D', r, h, k⟩ =>
  ⟨c, G, ρ, _, r, h, fun d ρ1 G1 H1 v q1 e1 r1 hx f => k.rt σ G1 H1 ρ1 _ d v q1 e1 r1 hx fun _ a z => (f a z).1⟩
theorem psd_if {t : Expr} {p q : List Stmt} {dt : DT} (ht : PTD X t dt) (ha : PSsD X p a) (hb : PSsD X q b) : PSD X (.If t p q pos) (dIfS dt a b) := ps_imp (ps_if ht ha hb) fun D σ H ⟨c, G, ρ, D', r, h, k⟩ => by
  refine ⟨c, G, ρ, _, r, h, fun b ρ1 G1 H1 q1 e1 r1 => ?_⟩
  cases b with
  | true => exact ⟨c, G1, ρ1, D', r1, q1, k.up e1⟩
  | false => exact ⟨c, G1, ρ1, D', r1, q1, k.up e1⟩
theorem psd_set (i : Nat) {x : Str} {p : Pos} (hN : X.N.Nodup) (he : PD X e de) (hi : X.N[i]? = some x := by rfl) (hx : Loc X.env.scope x := by first | exact Or.inl rfl | exact Or.inr rfl) (hs : swapsWith e (some (.Name x p)) pos.line X.env = pure false := by rfl) (hf : X.fn x = true ∨ X.env.scope.names.lookup x = some .local := by first | exact .inl rfl | exact .inr rfl) :
    PSD X (.Assign [.Name x p] e pos) (dSet i de) := ps_imp (ps_set hN hi hx he hs hf) fun D σ H ⟨c, G, ρ, D', r, h, k⟩ =>
  ⟨c, G, ρ, _, r, h, fun d ρ1 G1 H1 v q1 e1 r1 hx => k.nx _ G1 H1 _ q1 e1 (r1.setV hx)⟩
theorem psd_setN (i : Nat) {x : Str} {p : Pos} (hN : X.N.Nodup) (he : PN X e dn) (hi : X.N[i]? = some x := by rfl) (hx : Loc X.env.scope x := by first | exact Or.inl rfl | exact Or.inr rfl) (hs : swapsWith e (some (.Name x p)) pos.line X.env = pure false := by rfl) (hf : X.fn x = true ∨ X.env.scope.names.lookup x = some .local := by first | exact .inl rfl | exact .inr rfl) :
    PSD X (.Assign [.Name x p] e pos) (dSetN i dn) := ps_imp (ps_set hN hi hx he hs hf) fun D σ H ⟨c, G, ρ, D', r, h, k⟩ =>
  ⟨c, G, ρ, _, r, h, fun ds ρ1 G1 H1 p xs q1 e1 r1 f hx => k.nx _ G1 H1 _ q1 e1 (r1.setM (s := .own ds) rfl ⟨p, xs, rfl, (r1.pins _ List.mem_cons_self).1, hx, (r1.pins _ List.mem_cons_self).2.1, f.1⟩ f.2)⟩
/-- name = [..] on one line -/
theorem psd_setLc (i : Nat) {y : Str} {py : Pos} {elt tg iter : Expr} {ifs : List Expr} {scope : Scope} {own : List (Str × Nat)} {spos : Pos} {di : DN} {dg : DG} {dt : DT} {is : List Nat} (hc : X.calm = true) (hN : X.N.Nodup)
    (hi : PID X tg iter di) (ok : BlkOk X.N X.env.scope scope own)
    (hg : ∀ (s : Shared) (H : Hp) (C : Addr) (cl : List (Str × Addr)) (fp : List Addr), PGD (X.blk s H scope (compEnvC scope cl C X.env) fp) tg is dg) (ht : ∀ (s : Shared) (H : Hp) (C : Addr) (cl : List (Str × Addr)) (fp : List Addr), PTsD (X.blk s H scope (compEnvC scope cl C X.env) fp) ifs dt)
    (he : ∀ (s : Shared) (H : Hp) (C : Addr) (cl : List (Str × Addr)) (fp : List Addr), PD (X.blk s H scope (compEnvC scope cl C X.env) fp) elt de) (hy : X.N[i]? = some y := by rfl) (hyl : X.env.scope.names.lookup y = some .local := by rfl)
    (hsw : swapsWith (.ListComp elt [⟨tg, iter, ifs, 0⟩] scope pos) (some (.Name y py)) spos.line X.env = pure true := by exact sw_true rfl rfl rfl (by decide +kernel)) (hj : ∀ j ∈ is, j ∈ own.map (·.2) := by decide) (hs : ∀ x, foldedSetIterable iter X.env x = pure x := by intro _; rfl) :
    PSD X (.Assign [.Name y py] (.ListComp elt [⟨tg, iter, ifs, 0⟩] scope pos) spos) (dSet i (asD (dLc di dg dt de (own.map (·.2))))) :=
  ps_imp (ps_setLc hc hN hy hyl hsw hi ok hg ht he hs) fun D σ H ⟨c, G, ρ, D', r, h, k⟩ => lc_go (wi := iD di) hj ⟨c, G, ρ, _, r, h, fun ds ρ' G' H' p xs q e r' f h' => by
    obtain ⟨e2, r2⟩ := r'.settle f.1 f.2
    exact k.nx _ _ H' _ q (e.trans e2) (r2.setV (.lst upd_same (h'.up e2)))⟩
theorem psd_setLcN (i : Nat) {y : Str} {py : Pos} {elt tg iter : Expr} {ifs : List Expr} {scope : Scope} {own : List (Str × Nat)} {spos : Pos} {di : DN} {dg : DG} {dt : DT} {is : List Nat} (hc : X.calm = true) (hN : X.N.Nodup)
    (hi : PID X tg iter di) (ok : BlkOk X.N X.env.scope scope own)
    (hg : ∀ (s : Shared) (H : Hp) (C : Addr) (cl : List (Str × Addr)) (fp : List Addr), PGD (X.blk s H scope (compEnvC scope cl C X.env) fp) tg is dg) (ht : ∀ (s : Shared) (H : Hp) (C : Addr) (cl : List (Str × Addr)) (fp : List Addr), PTsD (X.blk s H scope (compEnvC scope cl C X.env) fp) ifs dt)
    (he : ∀ (s : Shared) (H : Hp) (C : Addr) (cl : List (Str × Addr)) (fp : List Addr), PD (X.blk s H scope (compEnvC scope cl C X.env) fp) elt de) (hy : X.N[i]? = some y := by rfl) (hyl : X.env.scope.names.lookup y = some .local := by rfl)
    (hsw : swapsWith (.ListComp elt [⟨tg, iter, ifs, 0⟩] scope pos) (some (.Name y py)) spos.line X.env = pure true := by exact sw_true rfl rfl rfl (by decide +kernel)) (hj : ∀ j ∈ is, j ∈ own.map (·.2) := by decide) (hs : ∀ x, foldedSetIterable iter X.env x = pure x := by intro _; rfl) :
    PSD X (.Assign [.Name y py] (.ListComp elt [⟨tg, iter, ifs, 0⟩] scope pos) spos) (dSetN i (dLc di dg dt de (own.map (·.2)))) :=
  ps_imp (ps_setLc hc hN hy hyl hsw hi ok hg ht he hs) fun D σ H ⟨c, G, ρ, D', r, h, k⟩ => lc_go (wi := iD di) hj ⟨c, G, ρ, _, r, h, fun ds ρ' G' H' p xs q e r' f h' =>
    k.nx _ G' H' _ q e (r'.setM (s := .own ds) rfl ⟨p, xs, rfl, (r'.pins _ List.mem_cons_self).1, h', (r'.pins _ List.mem_cons_self).2.1, f.1⟩ f.2)⟩
/-- a, b = a tuple -/
def dUnp (de : DE) (dg : DG) : DS := fun D ρ => de ρ fun d ρ1 => dg d ρ1 D.nx
theorem psd_unp {tg : Expr} {is : List Nat} {dg : DG} (he : PD X e de) (hg : PGD X tg is dg) (hs : swapsWithSole [tg] e pos.line X.env = pure false := by rfl) (hw : swappedStores [tg] e X.env = pure none := by rfl)
    (h1 : (assignEach [tg] X.env).map (·.2) = [assign tg X.env] := by rfl) : PSD X (.Assign [tg] e pos) (dUnp de dg) := ps_imp (ps_asg he hg hs hw h1) fun D σ H ⟨c, G, ρ, D', r, h, k⟩ =>
  ⟨c, G, ρ, _, r, h, fun d ρ1 G1 H1 v q1 e1 r1 hx => ⟨c, G1, ρ1, d, _, r1, hx, q1, fun σ' ρ' q2 r2 _ => k.nx _ G1 H1 _ q2 e1 r2⟩⟩
/-- a, b = x, y -/
def dPar (i j : Nat) (da db : DE) : DS := fun D ρ => da ρ fun x ρ1 => db ρ1 fun y ρ2 => D.nx ((ρ2.set i (.val x)).set j (.val y))
def dParN (i j : Nat) (dn : DN) (db : DE) : DS := fun D ρ => dn ρ fun xs ρ1 => db ρ1 fun y ρ2 => D.nx ((ρ2.set i (.own xs)).set j (.val y))
variable {e1 e2 : Expr}
theorem psd_par (i j : Nat) {x y : Str} {px py pt : Pos} {kt k2 pt2} (hc : X.calm = true) (hN : X.N.Nodup) (ha : PD X e1 da) (hb : PD X e2 db) (hi : X.N[i]? = some x := by rfl) (hj : X.N[j]? = some y := by rfl) (hij : i ≠ j := by decide)
    (hx : X.env.scope.names.lookup x = some .local := by rfl) (hy : X.env.scope.names.lookup y = some .local := by rfl) (hs1 : starEach [e1, e2] X.env = (false, eval e1 X.env) :: starEach [e2] X.env := by rfl) (hs2 : starEach [e2] X.env = (false, eval e2 X.env) :: starEach [] X.env := by rfl)
    (hw : swappedStores [.Tuple [.Name x px, .Name y py] kt pt] (.Tuple [e1, e2] k2 pt2) X.env = pure (some [x, y]) := by rfl) (hs : swapsWithSole [.Tuple [.Name x px, .Name y py] kt pt] (.Tuple [e1, e2] k2 pt2) pos.line X.env = pure false := by rfl) :
    PSD X (.Assign [.Tuple [.Name x px, .Name y py] kt pt] (.Tuple [e1, e2] k2 pt2) pos) (dPar i j da db) := ps_imp (ps_par hc hN hi hj hij hx hy (pa_cons ha (pa_cons hb pa_nil hs2) hs1) hw hs) fun D σ H ⟨c, G, ρ, D', r, h, k⟩ =>
  ⟨c, G, ρ, _, r, h, fun d ρ1 G1 H1 v q1 f1 r1 hx => ⟨c, G1, ρ1, _, r1, q1, fun d2 ρ2 G2 H2 w q2 f2 r2 hy => ⟨v, w, rfl, k.nx _ G2 H2 _ q2 (f1.trans f2) ((r2.setV (hx.up f2)).setV hy)⟩⟩⟩
theorem psd_parN (i j : Nat) {x y : Str} {px py pt : Pos} {kt k2 pt2} (hc : X.calm = true) (hN : X.N.Nodup) (ha : PN X e1 dn) (hb : PD X e2 db) (hi : X.N[i]? = some x := by rfl) (hj : X.N[j]? = some y := by rfl) (hij : i ≠ j := by decide)
    (hx : X.env.scope.names.lookup x = some .local := by rfl) (hy : X.env.scope.names.lookup y = some .local := by rfl) (hs1 : starEach [e1, e2] X.env = (false, eval e1 X.env) :: starEach [e2] X.env := by rfl) (hs2 : starEach [e2] X.env = (false, eval e2 X.env) :: starEach [] X.env := by rfl)
    (hw : swappedStores [.Tuple [.Name x px, .Name y py] kt pt] (.Tuple [e1, e2] k2 pt2) X.env = pure (some [x, y]) := by rfl) (hs : swapsWithSole [.Tuple [.Name x px, .Name y py] kt pt] (.Tuple [e1, e2] k2 pt2) pos.line X.env = pure false := by rfl) :
    PSD X (.Assign [.Tuple [.Name x px, .Name y py] kt pt] (.Tuple [e1, e2] k2 pt2) pos) (dParN i j dn db) := ps_imp (ps_par hc hN hi hj hij hx hy (pa_cons ha (pa_cons hb pa_nil hs2) hs1) hw hs) fun D σ H ⟨c, G, ρ, D', r, h, k⟩ =>
  ⟨c, G, ρ, _, r, h, fun ds ρ1 G1 H1 p xs q1 f1 r1 f hx => ⟨{ c with pin := (p, .lst xs) :: c.pin }, G1, ρ1, _, r1, q1, fun d2 ρ2 G2 H2 w q2 f2 r2 hy => ⟨_, w, rfl, k.nx _ G2 H2 _ q2 (f1.trans f2)
    ((r2.setM (s := .own ds) rfl ⟨p, xs, rfl, (r2.pins _ List.mem_cons_self).1, hx.up f2, (r2.pins _ List.mem_cons_self).2.1, f.1⟩ f.2).setV hy)⟩⟩⟩
def dPar3N (i j l : Nat) (dn : DN) (db dc : DE) : DS := fun D ρ => dn ρ fun xs ρ1 => db ρ1 fun y ρ2 => dc ρ2 fun z ρ3 => D.nx (((ρ3.set i (.own xs)).set j (.val y)).set l (.val z))
theorem psd_par3N (i j l : Nat) {x y z : Str} {e3 : Expr} {dc : DE} {px py pz pt : Pos} {kt k2 pt2} (hc : X.calm = true) (hN : X.N.Nodup) (ha : PN X e1 dn) (hb : PD X e2 db) (hd : PD X e3 dc) (hi : X.N[i]? = some x := by rfl) (hj : X.N[j]? = some y := by rfl) (hl : X.N[l]? = some z := by rfl) (hij : i ≠ j := by decide) (hil : i ≠ l := by decide) (hjl : j ≠ l := by decide)
    (hx : X.env.scope.names.lookup x = some .local := by rfl) (hy : X.env.scope.names.lookup y = some .local := by rfl) (hz : X.env.scope.names.lookup z = some .local := by rfl) (hs1 : starEach [e1, e2, e3] X.env = (false, eval e1 X.env) :: starEach [e2, e3] X.env := by rfl) (hs2 : starEach [e2, e3] X.env = (false, eval e2 X.env) :: starEach [e3] X.env := by rfl) (hs3 : starEach [e3] X.env = (false, eval e3 X.env) :: starEach [] X.env := by rfl)
    (hw : swappedStores [.Tuple [.Name x px, .Name y py, .Name z pz] kt pt] (.Tuple [e1, e2, e3] k2 pt2) X.env = pure (some [x, y, z]) := by rfl) (hs : swapsWithSole [.Tuple [.Name x px, .Name y py, .Name z pz] kt pt] (.Tuple [e1, e2, e3] k2 pt2) pos.line X.env = pure false := by rfl) :
    PSD X (.Assign [.Tuple [.Name x px, .Name y py, .Name z pz] kt pt] (.Tuple [e1, e2, e3] k2 pt2) pos) (dPar3N i j l dn db dc) := ps_imp (ps_par3 hc hN hi hj hl hij hil hjl hx hy hz (pa_cons ha (pa_cons hb (pa_cons hd pa_nil hs3) hs2) hs1) hw hs) fun D σ H ⟨c, G, ρ, D', r, h, k⟩ =>
  ⟨c, G, ρ, _, r, h, fun ds ρ1 G1 H1 p xs q1 f1 r1 f hx => ⟨{ c with pin := (p, .lst xs) :: c.pin }, G1, ρ1, _, r1, q1, fun d2 ρ2 G2 H2 w q2 f2 r2 hy => ⟨_, G2, ρ2, _, r2, q2, fun d3 ρ3 G3 H3 w3 q3 f3 r3 hz => ⟨_, w, w3, rfl, k.nx _ G3 H3 _ q3 ((f1.trans f2).trans f3)
    (((r3.setM (s := .own ds) rfl ⟨p, xs, rfl, (r3.pins _ List.mem_cons_self).1, hx.up (f2.trans f3), (r3.pins _ List.mem_cons_self).2.1, f.1⟩ f.2).setV (hy.up f3)).setV hz)⟩⟩⟩⟩
/-! ### what is changed in place -/
/-- the list of a slot that may be changed -/
def own (ρ : Rho) (i : Nat) (k : List PyData → (List PyData → Rho) → Prop) : Prop := match ρ[i]? with
  | some (.own ds) => k ds fun es => ρ.set i (.own es)
  | some (.pur ds) => k ds fun es => ρ.set i (.pur es)
  | _ => False
theorem own_some {c : Co} {G H : Hp} {σ : L2.St} {ρ : Rho} {i : Nat} {k : List PyData → (List PyData → Rho) → Prop} (r : Rep c G σ H ρ) (h : own ρ i k) : ∃ a xs ds put, σ[i]? = some (some (.ref a)) ∧ H a = some (.lst xs) ∧ RpAll G xs ds ∧ k ds put ∧
    ∀ ys es, RpAll G ys es → Rep c G σ (upd H a (.lst ys)) (put es) := by
  unfold own at h
  cases q : ρ[i]? with
  | none => rw [q] at h; exact h.elim
  | some s =>
    rw [q] at h
    have o := r.ok i s q
    cases s with
    | own ds =>
      obtain ⟨a, xs, h1, h2, h3, h4, h5⟩ := o
      exact ⟨a, xs, ds, _, h1, h2, h3, h, fun ys es hy => r.chg q rfl rfl h1 (.inl h5) ⟨a, ys, rfl, upd_same, hy, h4, h5⟩⟩
    | pur ds =>
      obtain ⟨a, xs, h1, h2, h3, h4, h5⟩ := o
      exact ⟨a, xs, ds, _, h1, h2, h3, h, fun ys es hy => r.chg q rfl rfl h1 (.inr h5) ⟨a, ys, rfl, upd_same, hy, h4, h5⟩⟩
    | _ => exact h.elim
/-- x.append(e) -/
def dApp (i : Nat) (de : DE) : DS := fun D ρ => own ρ i fun _ _ => de ρ fun d ρ1 => own ρ1 i fun ds put => ds.length < 100000 ∧ D.nx (put (ds ++ [d]))
theorem psd_app (i : Nat) {x : Str} {p apos cpos : Pos} (he : PD X e de) (hN : X.N[i]? = some x := by rfl) (hv : Vis X.env.scope x := by first | exact Or.inl rfl | exact Or.inr (Or.inl rfl) | exact Or.inr (Or.inr rfl)) (hd : (x == ("__debug__" : Str)) = false := by decide)
    (hcd : (x == ("__classdict__" : Str)) = false := by decide) (hp : PE X (.Call (.Attribute (.Name x p) "append" apos) [e] [] cpos) (tBM X.K "list" rAppend (tVar i) (tCons (tD de) tNil))) (hs : swapsWith (.Call (.Attribute (.Name x p) "append" apos) [e] [] cpos) none pos.line X.env = pure false := by rfl) :
    PSD X (.Expr (.Call (.Attribute (.Name x p) "append" apos) [e] [] cpos) pos) (dApp i de) := ps_imp (ps_expr hp hs) fun D σ H ⟨c, G, ρ, D', r, h, k⟩ => by
  obtain ⟨a, xs, ds, put, h1, h2, h3, h4, h5⟩ := own_some r h
  refine ⟨_, h1, Or.inl ⟨rfl, xs, SqL.of h2⟩, c, G, ρ, _, r, h4, fun d ρ1 G1 H1 v q1 e1 r1 hx => ?_⟩
  obtain ⟨a', xs', ds', put', k1, k2, k3, k4, k5⟩ := own_some r1 q1
  rw [h1] at k1
  cases k1
  exact ⟨a, xs', v, rfl, rfl, k2, sz_lt (by rw [k3.len]; exact k4.1), k.nx _ G1 _ _ k4.2 e1 (k5 _ _ (k3.app (.cons hx .nil)))⟩
/-- x[n] = e -/
def dSetIx (i : Nat) (de dk : DE) : DS := fun D ρ => de ρ fun d ρ1 => own ρ1 i fun _ _ => dk ρ1 fun z ρ2 => own ρ2 i fun ds put => match z with
  | .int n => ∃ j, ixN ds.length n = some j ∧ D.nx (put (ds.set j d))
  | _ => False
theorem psd_setIx (i : Nat) {x : Str} {p tpos : Pos} {kx : Expr} {dk : DE} (he : PD X e de) (hk : PD X kx dk) (hN : X.N[i]? = some x := by rfl) (hv : Vis X.env.scope x := by first | exact Or.inl rfl | exact Or.inr (Or.inl rfl) | exact Or.inr (Or.inr rfl)) (hd : (x == ("__debug__" : Str)) = false := by decide)
    (hcd : (x == ("__classdict__" : Str)) = false := by decide) (ha : ∀ v, assign (.Subscript (.Name x p) kx tpos) X.env v = (do
      let ov ← holding [v] (eval (.Name x p) X.env)
      let iv ← holding [v, ov] (eval kx X.env)
      standAt tpos
      holding [v, ov, iv] (setItem ov iv v)
      release [v, ov, iv] []) := by intro _; rfl) (hs : swapsWithSole [.Subscript (.Name x p) kx tpos] e pos.line X.env = pure false := by rfl) (hw : swappedStores [.Subscript (.Name x p) kx tpos] e X.env = pure none := by rfl)
    (h1 : (assignEach [.Subscript (.Name x p) kx tpos] X.env).map (·.2) = [assign (.Subscript (.Name x p) kx tpos) X.env] := by rfl) : PSD X (.Assign [.Subscript (.Name x p) kx tpos] e pos) (dSetIx i de dk) :=
  ps_imp (ps_asg he (pg_sub (pe_var hN hv hd hcd) hk set_list ha) hs hw h1) fun D σ H ⟨c, G, ρ, D', r, h, k⟩ => by
    refine ⟨c, G, ρ, _, r, h, fun d ρ1 G1 H1 v q1 e1 r1 hx => ?_⟩
    obtain ⟨a, xs, ds, put, h1, h2, h3, h4, h5⟩ := own_some r1 q1
    refine ⟨_, h1, c, G1, ρ1, _, r1, h4, fun z ρ2 G2 H2 w q2 e2 r2 hz => ?_⟩
    obtain ⟨a', xs', ds', put', k1, k2, k3, k4, k5⟩ := own_some r2 q2
    rw [h1] at k1
    cases k1
    cases hz with
    | int n =>
      obtain ⟨j, j1, j2⟩ := k4
      exact ⟨a, xs', n, j, rfl, rfl, k2, by rw [k3.len]; exact j1, k.nx _ G2 _ _ j2 (e1.trans e2) (k5 _ _ (k3.put j (hx.up e2)))⟩
    | _ => exact k4.elim
/-- x += e, ints -/
def dAug (i : Nat) (f : Int → Int → Int) (de : DE) : DS := fun D ρ => rd ρ i fun x => de ρ fun y ρ1 => match x, y with
  | .int n, .int m => D.nx (ρ1.set i (.val (.int (f n m))))
  | _, _ => False
theorem psd_aug (i : Nat) {x : Str} {p : Pos} {op : Operator} {f : Int → Int → Int} (ho : PIp X op (ipI f)) (hN : X.N.Nodup) (he : PD X e de) (hi : X.N[i]? = some x := by rfl) (hx : Loc X.env.scope x := by first | exact Or.inl rfl | exact Or.inr rfl) (hf : X.fn x = true ∨ X.env.scope.names.lookup x = some .local := by first | exact .inl rfl | exact .inr rfl) :
    PSD X (.AugAssign (.Name x p) op e pos) (dAug i f de) := ps_imp (ps_aug hN hi hx he ho hf) fun D σ H ⟨c, G, ρ, D', r, h, k⟩ => by
  obtain ⟨v, d, h1, h2, h3⟩ := rd_some r h
  refine ⟨v, h1, c, G, ρ, _, r, h3, fun y ρ1 G1 H1 w q1 e1 r1 hy => ?_⟩
  cases d with
  | int n =>
    cases hy with
    | int m => exact ⟨n, m, h2.int, rfl, k.nx _ G1 _ _ q1 e1 (r1.setV (.int _))⟩
    | _ => exact q1.elim
  | _ => cases y <;> exact q1.elim
/-! ### loops -/
def dWhile (dt : DT) (db : DS) : DS := fun D ρ => ∃ W : Nat → Rho → Prop, (∃ m, W m ρ) ∧ ∀ m ρ, W m ρ → dt ρ fun b ρ1 => match b with
  | true => db { D with nx := fun ρ' => ∃ m', m' < m ∧ W m' ρ', ct := fun ρ' => ∃ m', m' < m ∧ W m' ρ', bk := D.nx } ρ1
  | false => D.nx ρ1
theorem psd_while {t : Expr} {body : List Stmt} {dt : DT} {b : DS} (hp : PassesOwn (model X.prog X.w) X.A X.env X.xe) (ht : PTD X t dt) (hb : PSsD X body b) : PSD X (.While t body [] pos) (dWhile dt b) := ps_imp (ps_while hp ht hb) fun D σ H ⟨c, G, ρ, D', r, h, k⟩ => by
  obtain ⟨W, ⟨m0, w0⟩, turn⟩ := h
  refine ⟨fun m σ' H' => ∃ G' ρ', Ex G G' ∧ Rep c G' σ' H' ρ' ∧ W m ρ', ⟨m0, G, ρ, Ex.refl G, r, w0⟩, fun m σ1 H1 ⟨G1, ρ1, e1, r1, w1⟩ => ?_⟩
  refine ⟨c, G1, ρ1, _, r1, turn m ρ1 w1, fun b ρ2 G2 H2 q2 e2 r2 => ?_⟩
  cases b with
  | false => exact k.nx _ G2 H2 ρ2 q2 (e1.trans e2) r2
  | true =>
    show ∃ N : L2.St → Hp → Prop, _
    refine ⟨fun σ' H' => ∃ m' G' ρ', m' < m ∧ Ex G G' ∧ Rep c G' σ' H' ρ' ∧ W m' ρ', fun σ' H' ⟨m', G', ρ', a1, a2, a3, a4⟩ => ⟨m', a1, G', ρ', a2, a3, a4⟩, c, G2, ρ2, _, r2, q2, ⟨?_, ?_, ?_, ?_⟩⟩
    · exact fun σ' G' H' ρ' ⟨m', a1, a2⟩ e3 r3 => ⟨m', G', ρ', a1, (e1.trans e2).trans e3, r3, a2⟩
    · exact fun σ' G' H' ρ' n d v a e3 r3 hv => k.rt σ' G' H' ρ' n d v a ((e1.trans e2).trans e3) r3 hv
    · exact fun σ' G' H' ρ' a e3 r3 => k.nx σ' G' H' ρ' a ((e1.trans e2).trans e3) r3
    · exact fun σ' G' H' ρ' ⟨m', a1, a2⟩ e3 r3 => ⟨m', G', ρ', a1, (e1.trans e2).trans e3, r3, a2⟩
def dFor (di : DN) (dg : DG) (db : DS) : DS := fun D ρ => di ρ fun items ρ1 => ∃ I : Nat → Rho → Prop, I 0 ρ1 ∧
  (∀ i x ρ, items[i]? = some x → I i ρ → dg x ρ fun ρ' => db { D with nx := I (i + 1), ct := I (i + 1), bk := D.nx } ρ') ∧ ∀ ρ, I items.length ρ → D.nx ρ
theorem psd_for {tg iter : Expr} {body : List Stmt} {di : DN} {dg : DG} {is : List Nat} {b : DS} (hp : PassesOwn (model X.prog X.w) X.A X.env X.xe) (hc : X.calm = true) (hi : PID X tg iter di) (hg : PGD X tg is dg) (hb : PSsD X body b)
    (hs : ∀ x, foldedSetIterable iter X.env x = pure x := by intro _; rfl) : PSD X (.For tg iter body [] pos) (dFor di dg b) := ps_imp (ps_for hp hc hi hg hb hs) fun D σ H ⟨c, G, ρ, D', r, h, k⟩ => by
  refine ⟨c, G, ρ, _, r, h, fun items ρ1 G1 H1 J q1 e1 r1 gv => ?_⟩
  obtain ⟨I, i0, step, fin⟩ := q1
  obtain ⟨Gd, Y, W, hG, hY⟩ := gv
  refine for_it W (fun i σ' H' => ∃ G' ρ', Ex G1 G' ∧ Rep c G' σ' H' ρ' ∧ I i ρ') ⟨G1, ρ1, Ex.refl G1, r1, i0⟩ (fun i σ' H' _ ⟨G', ρ', e, r', _⟩ => hG H' (e.trans r'.gh)) (fun i x σ' H' H'' hi p y => ?_) (fun σ' H' p => ?_)
  · obtain ⟨G', ρ', e, r', hI⟩ := p
    obtain ⟨d, hdi⟩ : ∃ d, items[i]? = some d := ⟨_, List.getElem?_eq_getElem hi⟩
    obtain ⟨G2, e2, r2, hx⟩ := r'.out (hY i H' x H'' d (e.trans r'.gh) y hdi G' e r'.gh)
    refine ⟨c, G2, ρ', d, _, r2, hx, step i d ρ' hdi hI, fun σ2 ρ2 q2 r3 _ => ⟨c, G2, ρ2, _, r3, q2, ⟨?_, ?_, ?_, ?_⟩⟩⟩
    · exact fun σ3 G3 H3 ρ3 a e3 r4 => ⟨G3, ρ3, (e.trans e2).trans e3, r4, a⟩
    · exact fun σ3 G3 H3 ρ3 n d v a e3 r4 hv => k.rt σ3 G3 H3 ρ3 n d v a (((e1.trans e).trans e2).trans e3) r4 hv
    · exact fun σ3 G3 H3 ρ3 a e3 r4 => k.nx σ3 G3 H3 ρ3 a (((e1.trans e).trans e2).trans e3) r4
    · exact fun σ3 G3 H3 ρ3 a e3 r4 => ⟨G3, ρ3, (e.trans e2).trans e3, r4, a⟩
  · obtain ⟨G', ρ', e, r', hI⟩ := p
    exact k.nx _ G' H' ρ' (fin ρ' hI) (e1.trans e) r'
/-- the turns written out -/
def unroll (dg : DG) (db : DS) (D : DEnds) : List PyData → Rho → Prop
  | [], ρ => D.nx ρ
  | x :: r, ρ => dg x ρ fun ρ' => db { D with nx := unroll dg db D r, ct := unroll dg db D r, bk := D.nx } ρ'
theorem for_unroll {di : DN} {dg : DG} {db : DS} {D : DEnds} {items : List PyData} {ρ : Rho} (h : unroll dg db D items ρ) : ∃ I : Nat → Rho → Prop, I 0 ρ ∧
    (∀ i x ρ, items[i]? = some x → I i ρ → dg x ρ fun ρ' => db { D with nx := I (i + 1), ct := I (i + 1), bk := D.nx } ρ') ∧ ∀ ρ, I items.length ρ → D.nx ρ := by
  refine ⟨fun i ρ => unroll dg db D (items.drop i) ρ, h, fun i x ρ hx p => ?_, fun ρ p => ?_⟩
  · obtain ⟨hi, e⟩ := List.getElem?_eq_some_iff.mp hx
    have p2 : unroll dg db D (items.drop i) ρ := p
    rw [List.drop_eq_getElem_cons hi, e] at p2
    exact p2
  · have p2 : unroll dg db D (items.drop items.length) ρ := p
    rw [List.drop_length] at p2
    exact p2
end
end DL

set_option Elab.async false
set_option linter.all false
set_option maxRecDepth 100000
set_option maxHeartbeats 1000000
/-! DL5: what a def promises over data; calls of defs. -/
namespace DL
open PySem L2 Evl PyProof.Rows RZ

abbrev M1 := List PyData → (PyData → Prop) → Prop
abbrev MP := List PyData → List PyData → (PyData → List PyData → Prop) → Prop
/-- from data to data -/
def spD (m : M1) : Sp := fun vs H Q _ => ∃ G ds Q', Ex G H ∧ RpAll G vs ds ∧ m ds Q' ∧ ∀ d G' H' v, Q' d → Fin ⟨G, H, [], []⟩ G' H' → Rp G' v d → Q v H'
/-- the first argument a list that may be changed -/
def spP (m : MP) : Sp := fun vs H Q _ => ∃ G p ws xs ps ds Q', vs = .ref p :: ws ∧ Ex G H ∧ G p = none ∧ H p = some (.lst xs) ∧ RpAll G xs ps ∧ RpAll G ws ds ∧ m ps ds Q' ∧
  ∀ d qs G' H' v ys, Q' d qs → Fin ⟨G, H, [p], []⟩ G' H' → H' p = some (.lst ys) → RpAll G' ys qs → Rp G' v d → Q v H'
def startR (N : List Str) (ds : List PyData) : Rho := ds.map Sl.val ++ List.replicate (N.length - ds.length) Sl.no
def startP (N : List Str) (ps ds : List PyData) : Rho := .pur ps :: (ds.map Sl.val ++ List.replicate (N.length - (ds.length + 1)) Sl.no)

theorem fin_refl {G H : Hp} {P : List Addr} {pin : List (Addr × HO)} (e : Ex G H) : Fin ⟨G, H, P, pin⟩ G H := ⟨Ex.refl G, fun _ _ h => h, e, fun _ _ h _ => h, fun _ h => h⟩
theorem vals_at {G : Hp} : ∀ {vs : List V} {ds : List PyData} {n m : Nat} {i : Nat} {s : Sl}, RpAll G vs ds → (ds.map Sl.val ++ List.replicate n Sl.no)[i]? = some s → s ≠ .no → ∃ v d, (vs.map some ++ List.replicate m Option.none)[i]? = some (some v) ∧ s = .val d ∧ Rp G v d
  | _, _, n, m, i, s, .nil, h, hn => by
    rw [List.map_nil, List.nil_append, List.getElem?_replicate] at h
    split at h
    · cases h; exact absurd rfl hn
    · cases h
  | _, _, n, m, 0, s, .cons r _, h, hn => by
    have e := Option.some.inj h
    subst e
    exact ⟨_, _, rfl, rfl, r⟩
  | _, _, n, m, i + 1, s, .cons _ t, h, hn => vals_at (i := i) (m := m) t h hn
theorem rep_start {G H : Hp} {vs : List V} {ds : List PyData} {N : List Str} (e : Ex G H) (h0 : RpAll G vs ds) : Rep ⟨G, H, [], []⟩ G (start N vs) H (startR N ds) where
  toFin := fin_refl e
  len := by
    unfold L2.start startR
    rw [List.length_append, List.length_append, List.length_map, List.length_map, List.length_replicate, List.length_replicate, h0.len]
  ok := fun i s hs => by
    cases s with
    | no => trivial
    | val d =>
      obtain ⟨v, d', h1, h2, h3⟩ := vals_at (m := N.length - vs.length) h0 hs (fun z => nomatch z)
      cases h2
      exact ⟨v, h1, h3⟩
    | _ => obtain ⟨v, d', h1, h2, h3⟩ := vals_at (m := 0) h0 hs (fun z => nomatch z); cases h2
  sep := fun i j s t _ h1 _ m1 _ => by
    obtain ⟨v, d', _, h2, _⟩ := vals_at (m := 0) h0 h1 (fun z => by rw [z] at m1; cases m1)
    rw [h2] at m1
    cases m1
  pins := fun q hq => by cases hq
  mats := Mats.no fun i s h => by
    cases s with
    | mat _ _ => obtain ⟨v, d', h1, h2, h3⟩ := vals_at (m := 0) h0 h (fun z => nomatch z); cases h2
    | _ => rfl
theorem rep_startP {G H : Hp} {p : Addr} {xs vs : List V} {ps ds : List PyData} {N : List Str} (e : Ex G H) (hp : G p = none) (hx : H p = some (.lst xs)) (hq : RpAll G xs ps) (h : RpAll G vs ds) : Rep ⟨G, H, [p], []⟩ G (start N (.ref p :: vs)) H (startP N ps ds) where
  toFin := fin_refl e
  len := by
    unfold L2.start startP
    rw [List.length_append, List.length_cons, List.length_append, List.length_map, List.length_map, List.length_replicate, List.length_replicate, List.length_cons, h.len]
    omega
  ok := fun i s hs => by
    cases i with
    | zero =>
      have e := Option.some.inj hs
      subst e
      exact ⟨p, xs, rfl, hx, hq, hp, List.mem_singleton.mpr rfl⟩
    | succ i =>
      have hs : (ds.map Sl.val ++ List.replicate (N.length - (ds.length + 1)) Sl.no)[i]? = some s := hs
      cases s with
      | no => trivial
      | val d =>
        obtain ⟨v, d', h1, h2, h3⟩ := vals_at (m := N.length - (.ref p :: vs).length) h hs (fun z => nomatch z)
        cases h2
        exact ⟨v, h1, h3⟩
      | _ => obtain ⟨v, d', h1, h2, h3⟩ := vals_at (m := 0) h hs (fun z => nomatch z); cases h2
  sep := fun i j s t hij h1 h2 m1 m2 => by
    have z : ∀ {i : Nat} {s : Sl}, (startP N ps ds)[i]? = some s → s.mt = true → i = 0 := fun {i s} h1 m1 => by
      cases i with
      | zero => rfl
      | succ i =>
        have h1 : (ds.map Sl.val ++ List.replicate (N.length - (ds.length + 1)) Sl.no)[i]? = some s := h1
        obtain ⟨v, d', _, h2, _⟩ := vals_at (m := 0) h h1 (fun z => by rw [z] at m1; cases m1)
        rw [h2] at m1
        cases m1
    exact absurd ((z h1 m1).trans (z h2 m2).symm) hij
  pins := fun q hq => by cases hq
  mats := Mats.no fun i s hs => by
    cases i with
    | zero =>
      have e := Option.some.inj hs
      subst e
      rfl
    | succ i =>
      have hs : (ds.map Sl.val ++ List.replicate (N.length - (ds.length + 1)) Sl.no)[i]? = some s := hs
      cases s with
      | mat _ _ => obtain ⟨v, d', h1, h2, h3⟩ := vals_at (m := 0) h hs (fun z => nomatch z); cases h2
      | _ => rfl
section
variable {P : Program} {w : World} {K : PySem.W.Frag} {mg : Str → Option Value} {base : Heap} {x qual : Str} {params : Arguments} {body : List Stmt} {scope : Scope} {dvs : List V} {kws : List (Str × V)} {f : Addr} {fd : FuncData} {N ps : List Str} {k : Nat} {bd : DS}
/-- THE RULE for a def from data to data -/
theorem fn_D {m : M1} (F : FunD K x qual params body scope dvs kws f fd) (S : FnScope N ps scope) (hl : ∀ xs Q, m xs Q → xs.length = ps.length)
    (hbody : ∀ (cdv : Value) (A : Around) (outer : List Env) (s : Shared) (H : Hp) (E : XK), Room k (A.deeper (envOfC qual scope s.heap.objs.size f cdv)) → PSsD (cxOf CX0 P w K mg base N qual scope f cdv A outer s H E).nox body bd)
    (hm : ∀ xs Q, m xs Q → bd { nx := fun _ => Q .none, rt := fun _ d _ => Q d } (startR N xs)) : FnOk P w K mg base CX0 (k + 1) f fd ps (spD m) :=
  F.ok S (fun vs H Q E ⟨G, ds, Q', e, h, hq, _⟩ => by rw [h.len]; exact hl ds Q' hq) fun cdv A outer s H vs Q E hr ⟨G, ds, Q', e, h, hq, kk⟩ =>
    ⟨_, (hbody cdv A outer s H E hr).nox, ⟨G, H, [], []⟩, G, startR N ds, _, rep_start e h, hm ds Q' hq, ⟨fun σ G' H' ρ q _ r => kk _ G' H' _ q r.toFin .non, fun σ G' H' ρ _ d v q _ r hv _ => kk d G' H' v q r.toFin hv, fun _ _ _ _ q _ _ => q.elim, fun _ _ _ _ q _ _ => q.elim⟩⟩
/-- from data to data, what comes is new -/
def spN (m : M1) : Sp := fun vs H Q _ => ∃ G ds Q', Ex G H ∧ RpAll G vs ds ∧ m ds Q' ∧ ∀ d G' H' v, Q' d → Fin ⟨G, H, [], []⟩ G' H' → Rp G' v d → (∀ a, v = .ref a → H a = none) → Q v H'
theorem FnOk.ofN {m : M1} (F : FnOk P w K mg base CX0 k f fd ps (spN m)) : FnOk P w K mg base CX0 k f fd ps (spD m) := F.imp fun vs H Q E ⟨G, ds, Q', a, b, c, d⟩ => ⟨G, ds, Q', a, b, c, fun x G' H' v q f r _ => d x G' H' v q f r⟩
theorem fn_N {m : M1} (F : FunD K x qual params body scope dvs kws f fd) (S : FnScope N ps scope) (hl : ∀ xs Q, m xs Q → xs.length = ps.length)
    (hbody : ∀ (cdv : Value) (A : Around) (outer : List Env) (s : Shared) (H : Hp) (E : XK), Room k (A.deeper (envOfC qual scope s.heap.objs.size f cdv)) → PSsD (cxOf CX0 P w K mg base N qual scope f cdv A outer s H E).nox body bd)
    (hm : ∀ xs Q, m xs Q → bd { nx := fun _ => False, rt := fun n d _ => n = true ∧ Q d } (startR N xs)) : FnOk P w K mg base CX0 (k + 1) f fd ps (spN m) :=
  F.ok S (fun vs H Q E ⟨G, ds, Q', e, h, hq, _⟩ => by rw [h.len]; exact hl ds Q' hq) fun cdv A outer s H vs Q E hr ⟨G, ds, Q', e, h, hq, kk⟩ =>
    ⟨_, (hbody cdv A outer s H E hr).nox, ⟨G, H, [], []⟩, G, startR N ds, _, rep_start e h, hm ds Q' hq, ⟨fun σ G' H' ρ q _ r => q.elim, fun σ G' H' ρ n d v q _ r hv fr => kk d G' H' v q.2 r.toFin hv (fr q.1), fun _ _ _ _ q _ _ => q.elim, fun _ _ _ _ q _ _ => q.elim⟩⟩
/-- what the first slot holds in the end -/
def pur0 (ρ : Rho) (k : List PyData → Prop) : Prop := match ρ[(0 : Nat)]? with
  | some (.pur qs) => k qs
  | _ => False
theorem pur0_some {G H G0 : Hp} {p : Addr} {σ : L2.St} {H' : Hp} {ρ : Rho} {k : List PyData → Prop} (r : Rep ⟨G0, H, [p], []⟩ G σ H' ρ) (h : pur0 ρ k) : ∃ ys qs, H' p = some (.lst ys) ∧ RpAll G ys qs ∧ k qs := by
  unfold pur0 at h
  cases q : ρ[(0 : Nat)]? with
  | none => rw [q] at h; exact h.elim
  | some s =>
    rw [q] at h
    have o := r.ok 0 s q
    cases s with
    | pur qs =>
      obtain ⟨a, xs, h1, h2, h3, h4, h5⟩ := o
      have e : a = p := List.mem_singleton.mp h5
      subst e
      exact ⟨xs, qs, h2, h3, h⟩
    | _ => exact h.elim
theorem Fin.frees {c c' : Co} {G H : Hp} (f : Fin c G H) (h1 : c.G0 = c'.G0) (h2 : c.H0 = c'.H0) (h3 : c.P = c'.P) : Fin c' G H := by
  obtain ⟨a, b, d, pin⟩ := c
  obtain ⟨a', b', d', pin'⟩ := c'
  cases h1
  cases h2
  cases h3
  exact ⟨f.g0, f.fr, f.gh, f.hh, f.dom⟩
/-- THE RULE for a def that may change its first argument (its own name of it is never set) -/
theorem fn_P {m : MP} (F : FunD K x qual params body scope dvs kws f fd) (S : FnScope N ps scope) (hl : ∀ qs xs Q, m qs xs Q → xs.length + 1 = ps.length)
    (hbody : ∀ (cdv : Value) (A : Around) (outer : List Env) (s : Shared) (H : Hp) (E : XK), Room k (A.deeper (envOfC qual scope s.heap.objs.size f cdv)) → PSsD (cxOf CX0 P w K mg base N qual scope f cdv A outer s H E).nox body bd)
    (hm : ∀ qs xs Q, m qs xs Q → bd { nx := fun ρ => pur0 ρ (Q .none), rt := fun _ d ρ => pur0 ρ (Q d) } (startP N qs xs)) : FnOk P w K mg base CX0 (k + 1) f fd ps (spP m) :=
  F.ok S (fun vs H Q E ⟨G, p, ws, xs, qs, ds, Q', e1, _, _, _, _, h, hq, _⟩ => by rw [e1, List.length_cons, h.len]; exact hl qs ds Q' hq) fun cdv A outer s H vs Q E hr ⟨G, p, ws, xs, qs, ds, Q', e1, e, gp, hx, hp, h, hq, kk⟩ => by
    subst e1
    refine ⟨_, (hbody cdv A outer s H E hr).nox, ⟨G, H, [p], []⟩, G, startP N qs ds, _, rep_startP e gp hx hp h, hm qs ds Q' hq, ⟨fun σ G' H' ρ q _ r => ?_, fun σ G' H' ρ _ d v q _ r hv _ => ?_, fun _ _ _ _ q _ _ => q.elim, fun _ _ _ _ q _ _ => q.elim⟩⟩
    · obtain ⟨ys, rs, a1, a2, a3⟩ := pur0_some r q
      exact kk _ rs G' H' _ ys a3 r.toFin a1 a2 .non
    · obtain ⟨ys, rs, a1, a2, a3⟩ := pur0_some r q
      exact kk d rs G' H' v ys a3 r.toFin a1 a2 hv
end

/-! ### calls -/
section
variable {c : Co} {G H : Hp} {σ : L2.St} {ρ : Rho}
theorem Rep.called (r : Rep c G σ H ρ) {G' H' : Hp} (f : Fin ⟨G, H, [], []⟩ G' H') : Ex G G' ∧ Rep c G' σ H' ρ :=
  ⟨f.g0, r.grow f.g0 (fun a o h => f.hh a o h (fun z => nomatch z)) f.fr f.gh⟩
/-- behind a call that may have changed the list of a slot -/
theorem own_call {i : Nat} {k : List PyData → (List PyData → Rho) → Prop} (r : Rep c G σ H ρ) (h : own ρ i k) : ∃ a xs ds put, σ[i]? = some (some (.ref a)) ∧ H a = some (.lst xs) ∧ G a = none ∧ RpAll G xs ds ∧ k ds put ∧
    ∀ G' H' ys es, Fin ⟨G, H, [a], []⟩ G' H' → H' a = some (.lst ys) → RpAll G' ys es → Rep c G' σ H' (put es) := by
  have main : ∀ {s : Sl} {a : Addr} {xs : List V} {t : List PyData → Sl}, ρ[i]? = some s → s.mt = true → (∀ es, (t es).mt = true ∧ (t es).isM = false) → σ[i]? = some (some (.ref a)) → H a = some (.lst xs) → G a = none → (c.H0 a = none ∨ a ∈ c.P) →
      (∀ G' H' ys es, H' a = some (.lst ys) → RpAll G' ys es → G' a = none → SlOk c G' H' (some (some (.ref a))) (t es)) →
      ∀ G' H' ys es, Fin ⟨G, H, [a], []⟩ G' H' → H' a = some (.lst ys) → RpAll G' ys es → Rep c G' σ H' (ρ.set i (t es)) := by
    intro s a xs t q m hm h1 h2 h4 hp ok G' H' ys es f hy re
    have g' : G' a = none := f.fr a (show H a ≠ none by rw [h2]; exact fun z => nomatch z) h4
    have r2 : Rep c G' σ (upd H' a (.lst xs)) ρ := by
      refine r.grow f.g0 (fun b o hb => ?_) f.fr (fun b o hb => ?_)
      · by_cases z : b = a
        · subst z
          rw [h2] at hb
          cases hb
          exact upd_same
        · rw [upd_ne z]
          exact f.hh b o hb (fun y => z (List.mem_singleton.mp y))
      · rw [upd_ne (ne_of_none hb g')]
        exact f.gh b o hb
    have e : upd (upd H' a (.lst xs)) a (.lst ys) = H' := by
      rw [upd_upd]
      funext b
      by_cases z : b = a
      · rw [z, upd_same, hy]
      · rw [upd_ne z]
    have r3 := r2.chg (t := t es) (o := .lst ys) q m (hm es).1 h1 hp (ok _ _ ys es upd_same re g') (hm es).2
    rw [e] at r3
    exact r3
  unfold own at h
  cases q : ρ[i]? with
  | none => rw [q] at h; exact h.elim
  | some s =>
    rw [q] at h
    have o := r.ok i s q
    cases s with
    | own ds =>
      obtain ⟨a, xs, h1, h2, h3, h4, h5⟩ := o
      exact ⟨a, xs, ds, _, h1, h2, h4, h3, h, main (t := fun es => .own es) q rfl (fun _ => ⟨rfl, rfl⟩) h1 h2 h4 (.inl h5) fun G' H' ys es a1 a2 a3 => ⟨a, ys, rfl, a1, a2, a3, h5⟩⟩
    | pur ds =>
      obtain ⟨a, xs, h1, h2, h3, h4, h5⟩ := o
      exact ⟨a, xs, ds, _, h1, h2, h4, h3, h, main (t := fun es => .pur es) q rfl (fun _ => ⟨rfl, rfl⟩) h1 h2 h4 (.inr h5) fun G' H' ys es a1 a2 a3 => ⟨a, ys, rfl, a1, a2, a3, h5⟩⟩
    | _ => exact h.elim
end
def dCall (m : M1) (dd : List PyData) (da : DN) : DE := fun ρ Q => da ρ fun ds ρ1 => m (ds ++ dd) fun d => Q d ρ1
def dCallP (m : MP) (i : Nat) (dd : List PyData) (da : DN) : DE := fun ρ Q => own ρ i fun _ _ => da ρ fun ds ρ1 => own ρ1 i fun qs put => m qs (ds ++ dd) fun d rs => Q d (put rs)
section
variable {X : Cx} {k : Nat} {f : Addr} {fd : FuncData} {ps ks : List Str} {dvs : List V} {ds : List Value} {dd : List PyData} {x : Str} {p pos : Pos} {e : Expr} {es : List Expr} {da : DN}
theorem pd_call {m : M1} (F : FnOk X.prog X.w X.K X.mg X.base CX0 k f fd ps (spD m)) (hr : Room k X.A) (hm : X.mg x = some (.ref f)) (hk : PySem.W.keepIn X.K (.ref f) = true) (hb : Binds X.K fd ps ds) (hd : Vals dvs ds) (hdd : ∀ G, RpAll G dvs dd) (ha : PAD X (e :: es) da)
    (hg : Gl X x := by rfl) (hdb : (x == ("__debug__" : Str)) = false := by decide) (he : starEach (e :: es) X.env = (false, eval e X.env) :: starEach es X.env := by rfl) (hpl : (backTo pos (starEach es X.env)).any (·.1) = false := by rfl) :
    PD X (.Call (.Name x p) (e :: es) [] pos) (dCall m dd da) := pe_imp (pe_call F hr hg hm hk hb hd pass0 ha hdb he hpl) fun σ H Q ⟨c, G, ρ, Q', rp, h, kk⟩ => by
  refine ⟨c, G, ρ, _, rp, h, fun xs ρ1 G1 H1 vs q1 e1 r1 hx => ?_⟩
  refine ⟨G1, xs ++ dd, _, r1.gh, hx.app (hdd G1), q1, fun d G' H' v q2 fi hv => ?_⟩
  obtain ⟨e2, r2⟩ := r1.called fi
  exact kk d ρ1 G' H' v q2 (e1.trans e2) r2 hv
theorem pf_call {m : M1} (F : FnOk X.prog X.w X.K X.mg X.base CX0 k f fd ps (spN m)) (hr : Room k X.A) (hm : X.mg x = some (.ref f)) (hk : PySem.W.keepIn X.K (.ref f) = true) (hb : Binds X.K fd ps ds) (hd : Vals dvs ds) (hdd : ∀ G, RpAll G dvs dd) (ha : PAD X (e :: es) da)
    (hg : Gl X x := by rfl) (hdb : (x == ("__debug__" : Str)) = false := by decide) (he : starEach (e :: es) X.env = (false, eval e X.env) :: starEach es X.env := by rfl) (hpl : (backTo pos (starEach es X.env)).any (·.1) = false := by rfl) :
    PF X (.Call (.Name x p) (e :: es) [] pos) (dCall m dd da) := pe_imp (pe_call F hr hg hm hk hb hd pass0 ha hdb he hpl) fun σ H Q ⟨c, G, ρ, Q', rp, h, kk⟩ => by
  refine ⟨c, G, ρ, _, rp, h, fun xs ρ1 G1 H1 vs q1 e1 r1 hx => ?_⟩
  refine ⟨G1, xs ++ dd, _, r1.gh, hx.app (hdd G1), q1, fun d G' H' v q2 fi hv fr => ?_⟩
  obtain ⟨e2, r2⟩ := r1.called fi
  refine kk d ρ1 G' H' v q2 (e1.trans e2) r2 hv fun a z => ?_
  have := fr a z
  constructor
  · cases q : c.H0 a with
    | none => rfl
    | some o => exact absurd this (r1.dom a (by rw [q]; exact fun z => nomatch z))
  · cases q : G a with
    | none => rfl
    | some o => rw [r1.gh a o (e1 a o q)] at this; cases this
theorem pd_callP (i : Nat) {m : MP} {y : Str} {p2 : Pos} (F : FnOk X.prog X.w X.K X.mg X.base CX0 k f fd ps (spP m)) (hr : Room k X.A) (hm : X.mg x = some (.ref f)) (hk : PySem.W.keepIn X.K (.ref f) = true) (hb : Binds X.K fd ps ds) (hd : Vals dvs ds) (hdd : ∀ G, RpAll G dvs dd) (ha : PAD X es da)
    (hN : X.N[i]? = some y := by rfl) (hv : Vis X.env.scope y := by first | exact Or.inl rfl | exact Or.inr (Or.inl rfl) | exact Or.inr (Or.inr rfl)) (hdb2 : (y == ("__debug__" : Str)) = false := by decide) (hcd : (y == ("__classdict__" : Str)) = false := by decide)
    (hg : Gl X x := by rfl) (hdb : (x == ("__debug__" : Str)) = false := by decide) (he : starEach (.Name y p2 :: es) X.env = (false, eval (.Name y p2) X.env) :: starEach es X.env := by rfl) (hpl : (backTo pos (starEach es X.env)).any (·.1) = false := by rfl) :
    PD X (.Call (.Name x p) (.Name y p2 :: es) [] pos) (dCallP m i dd da) := pe_imp (pe_call F hr hg hm hk hb hd pass0 (pa_cons (pe_var hN hv hdb2 hcd) ha he) hdb he hpl) fun σ H Q ⟨c, G, ρ, Q', rp, h, kk⟩ => by
  obtain ⟨a, _, _, _, h1, _, _, _, h, _⟩ := own_call rp h
  refine ⟨_, h1, c, G, ρ, _, rp, h, fun xs ρ1 G1 H1 vs q1 e1 r1 hx => ?_⟩
  obtain ⟨a', ys, qs, put, k1, k2, k3, k4, k5, k6⟩ := own_call r1 q1
  rw [h1] at k1
  cases k1
  refine ⟨G1, a, vs ++ dvs, ys, qs, xs ++ dd, _, rfl, r1.gh, k3, k2, k4, hx.app (hdd G1), k5, fun d rs G' H' v zs q2 fi hz rz hv => ?_⟩
  exact kk d _ G' H' v q2 (e1.trans fi.g0) (k6 G' H' zs rs fi hz rz) hv
/-! ### keywords -/
def pick {α : Type} (ix : List Nat) (l : List α) : List α := ix.filterMap fun i => l[i]?
theorem pick_vals {ix : List Nat} {vs : List V} {us : List Value} (h : Vals vs us) : Vals (pick ix vs) (pick ix us) := by
  unfold pick
  induction ix with
  | nil => exact .nil
  | cons i r ih =>
    rw [List.filterMap_cons, List.filterMap_cons]
    cases q : vs[i]? with
    | none =>
      rw [h.none_of q]
      exact ih
    | some v =>
      obtain ⟨u, h1, h2⟩ := h.get q
      rw [h1]
      exact .cons h2 ih
theorem pick_rp {G : Hp} {ix : List Nat} {vs : List V} {ds : List PyData} (h : RpAll G vs ds) : RpAll G (pick ix vs) (pick ix ds) := by
  unfold pick
  induction ix with
  | nil => exact .nil
  | cons i r ih =>
    rw [List.filterMap_cons, List.filterMap_cons]
    cases q : ds[i]? with
    | none =>
      have : vs[i]? = none := List.getElem?_eq_none (by rw [h.len]; exact List.getElem?_eq_none_iff.mp q)
      rw [this]
      exact ih
    | some d =>
      obtain ⟨v, h1, h2⟩ := h.at q
      rw [h1]
      exact .cons h2 ih
abbrev PKD (X : Cx) (kws : List Keyword) (da : DN) : Prop := PK X kws (tAd da)
theorem pk_imp {kws : List Keyword} {t t' : TA} (h : PK X kws t) (k : ∀ σ H Q, t' σ H Q → t σ H Q) : PK X kws t' := ⟨fun pos pins s σ H Q I q => h.run pos pins s σ H Q I (k σ H Q q)⟩
theorem pkd_nil : PKD X [] daNil := pk_imp pk_nil fun σ H Q ⟨c, G, ρ, Q', rp, hd, k⟩ => k [] ρ G H [] hd (Ex.refl G) rp .nil
theorem pkd_cons {nm : Option Str} {kpos : Pos} {kws : List Keyword} {de : DE} (ha : PD X e de) (hr : PKD X kws da) : PKD X (⟨nm, e, kpos⟩ :: kws) (daCons de da) := pk_imp (pk_cons ha hr) fun σ H Q ⟨c, G, ρ, Q', rp, hd, k⟩ => by
  refine ⟨c, G, ρ, _, rp, hd, fun x ρ1 G1 H1 v q1 e1 r1 hx => ?_⟩
  exact ⟨c, G1, ρ1, _, r1, q1, fun ys ρ2 G2 H2 vs q2 e2 r2 hy => k (x :: ys) ρ2 G2 H2 (v :: vs) q2 (e1.trans e2) r2 (.cons (hx.up e2) hy)⟩
/-- how keywords bind: the places of the parameters among what is written -/
def KPick (K : PySem.W.Frag) (fd : FuncData) (ps ks : List Str) (n : Nat) (ix : List Nat) : Prop :=
  ∀ (s : Shared) (us ws : List Value), K.In s.heap → us.length = n → ws.length = ks.length → BindsTo s fd ⟨us, ks.zip ws⟩ (ps.zip (pick ix (us ++ ws)))
theorem kpick_of {K : PySem.W.Frag} {n : Nat} {ix : List Nat} (h : ∀ us ws : List Value, us.length = n → ws.length = ks.length → bindArgs fd ⟨us, ks.zip ws⟩ = pure (ps.zip (pick ix (us ++ ws)))) : KPick K fd ps ks n ix :=
  fun s us ws _ h1 h2 => .of_eq (h us ws h1 h2)
theorem kp_of {K : PySem.W.Frag} {y qual : Str} {params : Arguments} {body : List Stmt} {scope : Scope} {n : Nat} {ix : List Nat} {dvs : List V} {kws : List (Str × V)} (F : FunD K y qual params body scope dvs kws f fd) (hd : dvs = [])
    (h : ∀ (kV doc pm : Value) (an : Option Addr) (cdv ct : Value) (us ws : List Value), us.length = n → ws.length = ks.length → bindArgs (PySem.W.fnOf y qual params body scope .none kV doc pm an cdv ct) ⟨us, ks.zip ws⟩ = pure (ps.zip (pick ix (us ++ ws)))) : KPick K fd ps ks n ix := by
  obtain ⟨oc, od, dV, kV, doc, pm, an, cdv, ct, osl, rfl, lk, hcd, hD, hK⟩ := F.ex
  rcases hD with ⟨_, rfl⟩ | ⟨e, _⟩
  · exact fun s us ws _ h1 h2 => .of_eq (h kV doc pm an cdv ct us ws h1 h2)
  · exact absurd hd e
def dCallK (m : M1) (n l : Nat) (ix : List Nat) (da dk : DN) : DE := fun ρ Q => da ρ fun ds ρ1 => dk ρ1 fun es ρ2 => ds.length = n ∧ es.length = l ∧ m (pick ix (ds ++ es)) fun d => Q d ρ2
theorem pd_callK {m : M1} {n : Nat} {ix : List Nat} {kws : List Keyword} {dk : DN} (F : FnOk X.prog X.w X.K X.mg X.base CX0 k f fd ps (spD m)) (hr : Room k X.A) (hm : X.mg x = some (.ref f)) (hk : PySem.W.keepIn X.K (.ref f) = true) (hb : KPick X.K fd ps ks n ix) (ha : PAD X (e :: es) da) (hkw : PKD X kws dk)
    (hall : (backToKw pos (keywordEach kws X.env)).all (·.1.isSome) = true := by rfl) (hks : (backToKw pos (keywordEach kws X.env)).filterMap (·.1) = ks := by rfl) (hg : Gl X x := by rfl)
    (hdb : (x == ("__debug__" : Str)) = false := by decide) (he : starEach (e :: es) X.env = (false, eval e X.env) :: starEach es X.env := by rfl)
    (hpl : ((backTo pos (starEach (e :: es) X.env)).any (·.1) || (backToKw pos (keywordEach kws X.env)).any (·.1.isNone)) = false := by rfl) :
    PD X (.Call (.Name x p) (e :: es) kws pos) (dCallK m n ks.length ix da dk) := pe_imp (pe_callN (n := n) (g := fun us ws => pick ix (us ++ ws)) (gV := fun vs zs => pick ix (vs ++ zs)) F hr hg hm hk ⟨hb, fun r rz => pick_vals (r.append rz)⟩ pass0 ha hkw hall hks hdb he hpl) fun σ H Q ⟨c, G, ρ, Q', rp, h, kk⟩ => by
  refine ⟨c, G, ρ, _, rp, h, fun xs ρ1 G1 H1 vs q1 e1 r1 hx => ?_⟩
  refine ⟨c, G1, ρ1, _, r1, q1, fun zs ρ2 G2 H2 ws q2 e2 r2 hz => ?_⟩
  refine ⟨by rw [hx.len]; exact q2.1, by rw [hz.len]; exact q2.2.1, G2, _, _, r2.gh, pick_rp ((hx.up e2).app hz), q2.2.2, fun d G' H' v q3 fi hv => ?_⟩
  obtain ⟨e3, r3⟩ := r2.called fi
  exact kk d ρ2 G' H' v q3 ((e1.trans e2).trans e3) r3 hv
theorem pd_callK0 {m : M1} {ix : List Nat} {kws : List Keyword} {dk : DN} (F : FnOk X.prog X.w X.K X.mg X.base CX0 k f fd ps (spD m)) (hr : Room k X.A) (hm : X.mg x = some (.ref f)) (hk : PySem.W.keepIn X.K (.ref f) = true) (hb : KPick X.K fd ps ks 0 ix) (hkw : PKD X kws dk)
    (hall : (backToKw pos (keywordEach kws X.env)).all (·.1.isSome) = true := by rfl) (hks : (backToKw pos (keywordEach kws X.env)).filterMap (·.1) = ks := by rfl) (hg : Gl X x := by rfl)
    (hdb : (x == ("__debug__" : Str)) = false := by decide)
    (hpl : ((backTo pos (starEach [] X.env)).any (·.1) || (backToKw pos (keywordEach kws X.env)).any (·.1.isNone)) = false := by rfl) :
    PD X (.Call (.Name x p) [] kws pos) (dCallK m 0 ks.length ix daNil dk) := ⟨fun pins s σ H Q I ⟨c, G, ρ, Q', rp, h, kk⟩ => by
  have h : dk ρ fun es ρ2 => ([] : List PyData).length = 0 ∧ es.length = ks.length ∧ m (pick ix ([] ++ es)) fun d => Q' d ρ2 := h
  refine wpAny_Call_Name_kw (ld_glob I hg hm ?_ hdb)
  refine PySem.W.callWith_KW0 (h₀ := X.base) I.ok.mod.kin hk hall ?_ hpl
  refine thn (hkw.run pos pins s σ H (fun zs H2 => zs.length = ks.length ∧ spD m (pick ix ([] ++ zs)) H2 Q E0) I ⟨c, G, ρ, _, rp, h, fun zs ρ2 G2 H2 ws q2 e2 r2 hz => ⟨by rw [hz.len]; exact q2.2.1, G2, _, _, r2.gh, pick_rp hz, q2.2.2, fun d G' H' v q3 fi hv => ?_⟩⟩) fun ws s2 ⟨zs, H2, I2, rz, l2, q2⟩ => ⟨I2.kIn, ?_⟩
  · obtain ⟨e3, r3⟩ := r2.called fi
    exact kk d ρ2 G' H' v q3 (e2.trans e3) r3 hv
  · rw [hks]
    exact run_fnN (n := 0) (g := fun us ws => pick ix (us ++ ws)) (gV := fun vs zs => pick ix (vs ++ zs)) F hr ⟨hb, fun r rz => pick_vals (r.append rz)⟩ pass0 I2 .nil rz rfl l2 q2⟩
end
end DL

set_option Elab.async false
set_option linter.all false
set_option maxRecDepth 100000
set_option maxHeartbeats 1000000
/-! DL6: operators, what is built in. -/
namespace DL
open PySem L2 Evl PyProof.Rows RZ

/-! ### ints -/
def dI0 (f : Int → Int → PyData) : D2 := fun x y Q => match x, y with
  | .int i, .int j => Q (f i j)
  | _, _ => False
def dIC (C : Int → Int → Prop) (f : Int → Int → PyData) : D2 := fun x y Q => match x, y with
  | .int i, .int j => C i j ∧ Q (f i j)
  | _, _ => False
theorem ro_I0 {g : Int → Int → V} {f : Int → Int → PyData} (hg : ∀ G i j, Rp G (g i j) (f i j) := by intros; constructor) : ROp (rI0 g) (dI0 f) := fun G H v w x y Q Q' e hv hw h k => by
  cases x with
  | int i =>
    cases y with
    | int j => exact ⟨i, j, hv.int, hw.int, k _ _ _ (.inl ⟨rfl, hg G i j⟩) h⟩
    | _ => exact h.elim
  | _ => cases y <;> exact h.elim
theorem ro_IC {C D : Int → Int → Prop} {g : Int → Int → V} {f : Int → Int → PyData} (hC : ∀ i j, D i j → C i j) (hg : ∀ G i j, Rp G (g i j) (f i j) := by intros; constructor) : ROp (rI C g) (dIC D f) := fun G H v w x y Q Q' e hv hw h k => by
  cases x with
  | int i =>
    cases y with
    | int j => exact ⟨i, j, hv.int, hw.int, hC i j h.1, k _ _ _ (.inl ⟨rfl, hg G i j⟩) h.2⟩
    | _ => exact h.elim
  | _ => cases y <;> exact h.elim
/-- small enough for every operator -/
def Sz (i : Int) : Prop := i.natAbs < 2 ^ 3000
theorem Sz.log {i : Int} (h : Sz i) : i.natAbs.log2 < 3000 := PySem.Flt.log2_lt_of (by decide) h
theorem sz_le {i : Int} {n : Nat} (h : i.natAbs ≤ n) (hn : decide (n < 2 ^ 3000) = true) : Sz i := Nat.lt_of_le_of_lt h (of_decide_eq_true hn)
def fSub : D2 := dI0 fun i j => .int (i - j)
def fMod : D2 := dIC (fun _ j => 0 < j) fun i j => .int (i % j)
def fDiv : D2 := dIC (fun _ j => 0 < j ∧ Sz j) fun i j => .int (i / j)
def fPow : D2 := dIC (fun i j => 0 ≤ j ∧ (Builtin.Int.intBits i : Int) * j ≤ 100000) fun i j => .int (i ^ j.toNat)
def fLt : D2 := dI0 fun i j => .bool (decide (i < j))
def fLe : D2 := dI0 fun i j => .bool (decide (i ≤ j))
def fGt : D2 := dI0 fun i j => .bool (decide (j < i))
def fGe : D2 := dI0 fun i j => .bool (decide (j ≤ i))
section
variable {X : Cx}
theorem ro_sub : ROp (rI0 fun i j => .int (i - j)) fSub := ro_I0
theorem ro_mod : ROp (rI (fun _ j => 0 < j) fun i j => .int (i % j)) fMod := ro_IC fun _ _ h => h
theorem ro_div : ROp (rI CDivW fun i j => .int (i / j)) fDiv := ro_IC fun _ _ h => ⟨h.1, Nat.lt_trans h.2.log (by decide)⟩
theorem ro_lt : ROp (rI0 fun i j => .bl (decide (i < j))) fLt := ro_I0
theorem ro_le : ROp (rI0 fun i j => .bl (decide (i ≤ j))) fLe := ro_I0
theorem ro_gt : ROp (rI0 fun i j => .bl (decide (j < i))) fGt := ro_I0
theorem ro_ge : ROp (rI0 fun i j => .bl (decide (j ≤ i))) fGe := ro_I0
def CPowB (i j : Int) : Prop := 0 ≤ j ∧ (Builtin.Int.intBits i : Int) * j ≤ 100000
theorem op_powB : OpR X (binaryOp .Pow) (rI CPowB fun i j => .int (i ^ j.toNat)) := opI fun i j _ _ _ _ _ hc q => pow_int hc.1 (Int.le_trans hc.2 (by decide)) q
theorem ro_pow : ROp (rI CPowB fun i j => .int (i ^ j.toNat)) fPow := ro_IC fun _ _ h => h
/-! ### + and * -/
def fAdd : D2 := fun x y Q => match x, y with
  | .int i, .int j => Q (.int (i + j))
  | .list a, .list b => a.length + b.length ≤ 100000 ∧ Q (.list (a ++ b))
  | _, _ => False
def rAddU : R2 := fun x y H Q => rI0 (fun i j => .int (i + j)) x y H Q ∨ rCat x y H Q
theorem op_addU : OpR X (binaryOp .Add) rAddU := or_i op_add op_cat
theorem out_lst {G H : Hp} {p : Addr} {xs : List V} {ds : List PyData} (e : Ex G H) (hp : H p = none) (r : RpAll G xs ds) : Out G H (.ref p) (.list ds) (upd H p (.lst xs)) :=
  .inr ⟨p, _, hp, rfl, rfl, .lst upd_same (r.up (Ex.new (none_up e hp)))⟩
theorem out_tup {G H : Hp} {p : Addr} {xs : List V} {ds : List PyData} (e : Ex G H) (hp : H p = none) (r : RpAll G xs ds) : Out G H (.ref p) (.tuple ds) (upd H p (.tup xs)) :=
  .inr ⟨p, _, hp, rfl, rfl, .tup upd_same (r.up (Ex.new (none_up e hp)))⟩
theorem ro_add : ROp rAddU fAdd := fun G H v w x y Q Q' e hv hw h k => by
  cases x with
  | int i =>
    cases y with
    | int j => exact .inl ⟨i, j, hv.int, hw.int, k _ _ _ (.inl ⟨rfl, .int _⟩) h⟩
    | _ => exact h.elim
  | list a =>
    cases y with
    | list b =>
      obtain ⟨l, xs, rfl, h1, h2⟩ := hv.lst e
      obtain ⟨l2, ys, rfl, h3, h4⟩ := hw.lst e
      exact .inr ⟨l, l2, xs, ys, rfl, rfl, h1, h3, sz_of (by rw [h2.len, h4.len]; exact h.1), fun p hp => k _ _ _ (out_lst e hp (h2.app h4)) h.2⟩
    | _ => exact h.elim
  | _ => cases y <;> exact h.elim
def repD (k : Nat) (a : List PyData) : List PyData := (List.replicate k a).flatten
def fMul : D2 := fun x y Q => match x, y with
  | .int i, .int j => (Sz i ∧ Sz j) ∧ Q (.int (i * j))
  | .list a, .int k => (-(2 ^ 63) ≤ k ∧ k < 2 ^ 63 ∧ a.length * k.toNat ≤ 100000) ∧ Q (.list (repD k.toNat a))
  | _, _ => False
def rMulU : R2 := fun x y H Q => rI CMulW (fun i j => .int (i * j)) x y H Q ∨ rRep x y H Q
theorem op_mulU : OpR X (binaryOp .Mult) rMulU := or_i op_mulW op_rep
theorem RpAll.rep {G : Hp} {xs : List V} {ds : List PyData} (r : RpAll G xs ds) : ∀ k : Nat, RpAll G (List.replicate k xs).flatten (List.replicate k ds).flatten
  | 0 => .nil
  | k + 1 => by
    rw [List.replicate_succ, List.replicate_succ, List.flatten_cons, List.flatten_cons]
    exact r.app (RpAll.rep r k)
theorem ro_mul : ROp rMulU fMul := fun G H v w x y Q Q' e hv hw h k => by
  cases x with
  | int i =>
    cases y with
    | int j =>
      have h1 := h.1.1.log
      have h2 := h.1.2.log
      exact .inl ⟨i, j, hv.int, hw.int, (by show i.natAbs.log2 + j.natAbs.log2 < 1000000; omega), k _ _ _ (.inl ⟨rfl, .int _⟩) h.2⟩
    | _ => exact h.elim
  | list a =>
    cases y with
    | int n =>
      obtain ⟨l, xs, rfl, h1, h2⟩ := hv.lst e
      exact .inr ⟨l, n, xs, rfl, hw.int, h1, h.1.1, h.1.2.1, sz_of (by rw [h2.len]; exact h.1.2.2), fun p hp => k _ _ _ (out_lst e hp (h2.rep _)) h.2⟩
    | _ => exact h.elim
  | _ => cases y <;> exact h.elim
/-! ### ==, is, in -/
def fEq : D2 := fun x y Q => (SeqAt.shaped x = true ∧ SeqAt.shaped y = true) ∧ Q (.bool (PyData.eqv x y))
def fNe : D2 := fun x y Q => (SeqAt.shaped x = true ∧ SeqAt.shaped y = true) ∧ Q (.bool (!PyData.eqv x y))
theorem ro_eq : ROp (rEqD X.K) fEq := fun G H v w x y Q Q' e hv hw h k => ⟨x, y, hv.dp e, hw.dp e, h.1.1, h.1.2, k _ _ _ (.inl ⟨rfl, .bl _⟩) h.2⟩
theorem ro_ne : ROp (rNeD X.K) fNe := fun G H v w x y Q Q' e hv hw h k => ⟨x, y, hv.dp e, hw.dp e, h.1.1, h.1.2, k _ _ _ (.inl ⟨rfl, .bl _⟩) h.2⟩
def isN : PyData → Bool
  | .none => true
  | _ => false
theorem rv_isN {G H : Hp} {v : V} {x : PyData} (h : Rv G H v x) : decide (v = .non) = isN x := by
  rcases h with h | ⟨a, xs, ds, rfl, rfl, _, _⟩
  · cases h <;> rfl
  · rfl
def fIs : D2 := fun x y Q => match y with
  | .none => Q (.bool (isN x))
  | _ => False
def fIsNot : D2 := fun x y Q => match y with
  | .none => Q (.bool (!isN x))
  | _ => False
theorem ro_is : ROp (fun x y H Q => y = .non ∧ Q (.bl (decide (x = .non))) H) fIs := fun G H v w x y Q Q' e hv hw h k => by
  cases y with
  | none => exact ⟨hw.non, by rw [rv_isN hv]; exact k _ _ _ (.inl ⟨rfl, .bl _⟩) h⟩
  | _ => exact h.elim
theorem ro_isNot : ROp (fun x y H Q => y = .non ∧ Q (.bl (!decide (x = .non))) H) fIsNot := fun G H v w x y Q Q' e hv hw h k => by
  cases y with
  | none => exact ⟨hw.non, by rw [rv_isN hv]; exact k _ _ _ (.inl ⟨rfl, .bl _⟩) h⟩
  | _ => exact h.elim
def flatD : PyData → Bool
  | .none => true
  | .bool _ => true
  | .int _ => true
  | .str _ => true
  | _ => false
theorem rp_flat {G : Hp} {v : V} {x : PyData} (h : Rp G v x) (f : flatD x = true) : flatV v = true := by
  cases h <;> first | rfl | cases f
theorem rp_eqV {G : Hp} {v w : V} {x y : PyData} (h : Rp G v x) (h' : Rp G w y) (f : flatD x = true) (f' : flatD y = true) : eqV v w = PyData.eqv x y := by
  cases h <;> cases h' <;> first | (simp [eqV, PyData.eqv]; done) | rfl | cases f | cases f'
def inD (x : PyData) (ds : List PyData) : Bool := ds.any fun y => PyData.eqv y x
theorem rp_in {G : Hp} {v : V} {x : PyData} (h : Rp G v x) (f : flatD x = true) : ∀ {ws : List V} {ds : List PyData}, RpAll G ws ds → ds.all flatD = true → ws.all flatV = true ∧ inV v ws = inD x ds
  | _, _, .nil, _ => ⟨rfl, rfl⟩
  | _, _, .cons r t, g => by
    rw [List.all_cons, Bool.and_eq_true] at g
    obtain ⟨a, b⟩ := rp_in h f t g.2
    refine ⟨by rw [List.all_cons, rp_flat r g.1, a] <;> rfl, ?_⟩
    show (_ :: _).any _ = (_ :: _).any _
    rw [List.any_cons, List.any_cons, rp_eqV r h g.1 f]
    exact congrArg _ b
def fIn (neg : Bool) : D2 := fun x y Q => match y with
  | .list ds => (flatD x = true ∧ ds.all flatD = true) ∧ Q (.bool (if neg then !inD x ds else inD x ds))
  | .tuple ds => (flatD x = true ∧ ds.all flatD = true) ∧ Q (.bool (if neg then !inD x ds else inD x ds))
  | _ => False
theorem rv_rp {G H : Hp} {v : V} {x : PyData} (h : Rv G H v x) (f : flatD x = true) : Rp G v x := by
  rcases h with h | ⟨a, xs, ds, rfl, rfl, _, _⟩
  · exact h
  · cases f
theorem ro_in {neg : Bool} : ROp (rIn X.K neg) (fIn neg) := fun G H v w x y Q Q' e hv hw h k => by
  cases y with
  | list ds =>
    obtain ⟨l, xs, rfl, h1, h2⟩ := hw.lst e
    obtain ⟨a, b⟩ := rp_in (rv_rp hv h.1.1) h.1.1 h2 h.1.2
    exact ⟨l, xs, rfl, .inl (SqL.of h1), rp_flat (rv_rp hv h.1.1) h.1.1, a, by rw [b]; exact k _ _ _ (.inl ⟨rfl, .bl _⟩) h.2⟩
  | tuple ds =>
    obtain ⟨l, xs, rfl, h1, h2⟩ := hw.tup e
    obtain ⟨a, b⟩ := rp_in (rv_rp hv h.1.1) h.1.1 h2 h.1.2
    exact ⟨l, xs, rfl, .inr (SqT.of h1), rp_flat (rv_rp hv h.1.1) h.1.1, a, by rw [b]; exact k _ _ _ (.inl ⟨rfl, .bl _⟩) h.2⟩
  | _ => exact h.elim
/-! ### items, slices -/
theorem atI_rp {G : Hp} {xs : List V} {ds : List PyData} {i : Int} {d : PyData} (r : RpAll G xs ds) (h : atI ds i = some d) : ∃ v, atI xs i = some v ∧ Rp G v d := by
  unfold atI at h ⊢
  rw [r.len]
  cases q : ixN ds.length i with
  | none => rw [q] at h; cases h
  | some j =>
    rw [q] at h
    obtain ⟨v, h1, h2⟩ := r.at (i := j) h
    exact ⟨v, h1, h2⟩
def fIx : D2 := fun x y Q => match x, y with
  | .list ds, .int i => ∃ d, atI ds i = some d ∧ Q d
  | .tuple ds, .int i => ∃ d, atI ds i = some d ∧ Q d
  | _, _ => False
theorem ro_ix : ROp (rIx X.K) fIx := fun G H v w x y Q Q' e hv hw h k => by
  cases x with
  | list ds =>
    cases y with
    | int i =>
      obtain ⟨d, h1, h2⟩ := h
      obtain ⟨l, xs, rfl, h3, h4⟩ := hv.lst e
      obtain ⟨u, h5, h6⟩ := atI_rp h4 h1
      exact .inl ⟨l, xs, i, u, rfl, hw.int, SqL.of h3, h5, k _ _ _ (.inl ⟨rfl, h6⟩) h2⟩
    | _ => exact h.elim
  | tuple ds =>
    cases y with
    | int i =>
      obtain ⟨d, h1, h2⟩ := h
      obtain ⟨l, xs, rfl, h3, h4⟩ := hv.tup e
      obtain ⟨u, h5, h6⟩ := atI_rp h4 h1
      exact .inr (.inl ⟨l, xs, i, u, rfl, hw.int, SqT.of h3, h5, k _ _ _ (.inl ⟨rfl, h6⟩) h2⟩)
    | _ => exact h.elim
  | _ => cases y <;> exact h.elim
def cutD (ds : List PyData) (lo hi : Option Int) : List PyData := (ds.drop (HT.sIx ds.length 0 lo)).take (HT.sIx ds.length ds.length hi - HT.sIx ds.length 0 lo)
theorem RpAll.cut {G : Hp} {xs : List V} {ds : List PyData} (r : RpAll G xs ds) (lo hi : Option Int) : RpAll G (cutV xs lo hi) (cutD ds lo hi) := by
  unfold cutV cutD
  rw [r.len]
  exact (r.drop _).take _
abbrev DO := Rho → (Option Int → Rho → Prop) → Prop
def tO (od : DO) : TO := fun σ H Q => ∃ c G ρ Q', Rep c G σ H ρ ∧ od ρ Q' ∧ ∀ o ρ' G' H', Q' o ρ' → Ex G G' → Rep c G' σ H' ρ' → Q o H'
abbrev POD (X : Cx) (e : Option Expr) (od : DO) : Prop := PO X e (tO od)
def dNoPart : DO := fun ρ Q => Q none ρ
def dPart (de : DE) : DO := fun ρ Q => de ρ fun x ρ1 => match x with
  | .int i => Q (some i) ρ1
  | _ => False
theorem po_imp {e : Option Expr} {t t' : TO} (h : PO X e t) (k : ∀ σ H Q, t' σ H Q → t σ H Q) : PO X e t' := ⟨fun pins s σ H Q I q => h.run pins s σ H Q I (k σ H Q q)⟩
theorem pod_none : POD X none dNoPart := po_imp po_none fun σ H Q ⟨c, G, ρ, Q', rp, hd, k⟩ => k none ρ G H hd (Ex.refl G) rp
theorem pod_some {e : Expr} {de : DE} (h : PD X e de) : POD X (some e) (dPart de) := po_imp (po_some h) fun σ H Q ⟨c, G, ρ, Q', rp, hd, k⟩ => by
  refine ⟨c, G, ρ, _, rp, hd, fun x ρ1 G1 H1 v q1 e1 r1 hx => ?_⟩
  cases hx with
  | int i => exact ⟨i, rfl, k _ ρ1 G1 H1 q1 e1 r1⟩
  | _ => exact q1.elim
/-- x[lo:hi] of a list; x a name -/
def dSlV (i : Nat) (ol oh : DO) : DN := fun ρ Q => rd ρ i fun _ => ol ρ fun lo ρ1 => oh ρ1 fun hi ρ2 => rd ρ2 i fun x => match x with
  | .list ds => Q (cutD ds lo hi) ρ2
  | _ => False
theorem pn_slV (i : Nat) {x : Str} {p p2 pos : Pos} {lo hi : Option Expr} {ol oh : DO} (hl : POD X lo ol) (hh : POD X hi oh) (hN : X.N[i]? = some x := by rfl) (hv : Vis X.env.scope x := by first | exact Or.inl rfl | exact Or.inr (Or.inl rfl) | exact Or.inr (Or.inr rfl)) (hd : (x == ("__debug__" : Str)) = false := by decide)
    (hcd : (x == ("__classdict__" : Str)) = false := by decide) : PN X (.Subscript (.Name x p) (.Slice lo hi none p2) pos) (dSlV i ol oh) := pe_imp (pe_slice sl_list (pe_var hN hv hd hcd) hl hh) fun σ H Q ⟨c, G, ρ, Q', rp, h, k⟩ => by
  obtain ⟨v, d0, h1, _, h⟩ := rd_some rp h
  refine ⟨v, h1, c, G, ρ, _, rp, h, fun lo ρ1 G1 H1 q1 e1 r1 => ⟨c, G1, ρ1, _, r1, q1, fun hi ρ2 G2 H2 q2 e2 r2 => ?_⟩⟩
  obtain ⟨v', d, h2, h3, q3⟩ := rd_some r2 q2
  rw [h1] at h2
  cases h2
  cases d with
  | list ds =>
    obtain ⟨l, xs, rfl, h4, h5⟩ := h3.lst r2.gh
    exact ⟨l, xs, rfl, SqL.of h4, fun p hp => k _ ρ2 G2 _ p _ q3 (e1.trans e2) (r2.pinN hp) (r2.free hp) (h5.cut lo hi)⟩
  | _ => exact q3.elim
/-- of any other list -/
def dSl (de : DE) (ol oh : DO) : DN := fun ρ Q => de ρ fun x ρ0 => ol ρ0 fun lo ρ1 => oh ρ1 fun hi ρ2 => match x with
  | .list ds => Q (cutD ds lo hi) ρ2
  | _ => False
theorem pn_sl {e : Expr} {de : DE} {p2 pos : Pos} {lo hi : Option Expr} {ol oh : DO} (he : PD X e de) (hl : POD X lo ol) (hh : POD X hi oh) : PN X (.Subscript e (.Slice lo hi none p2) pos) (dSl de ol oh) := pe_imp (pe_slice sl_list he hl hh) fun σ H Q ⟨c, G, ρ, Q', rp, h, k⟩ => by
  refine ⟨c, G, ρ, _, rp, h, fun x ρ0 G0 H0 v q0 e0 r0 hx => ⟨c, G0, ρ0, _, r0, q0, fun lo ρ1 G1 H1 q1 e1 r1 => ⟨c, G1, ρ1, _, r1, q1, fun hi ρ2 G2 H2 q2 e2 r2 => ?_⟩⟩⟩
  cases hx with
  | lst a b => exact ⟨_, _, rfl, SqL.of (r2.gh _ _ (e2 _ _ (e1 _ _ a))), fun p hp => k _ ρ2 G2 _ p _ q2 ((e0.trans e1).trans e2) (r2.pinN hp) (r2.free hp) ((b.up (e1.trans e2)).cut lo hi)⟩
  | _ => exact q2.elim
/-! ### what is built in -/
def fLen : D1 := fun x Q => match x with
  | .list ds => Q (.int ds.length)
  | .tuple ds => Q (.int ds.length)
  | _ => False
theorem rc_len : RC1 (fun xs H Q => ∃ p ys, xs = [.ref p] ∧ (SqL X.K H p ys ∨ SqT X.K H p ys) ∧ Q (.int ys.length) H) fLen := fun G H v x Q Q' e hv h k => by
  cases x with
  | list ds =>
    obtain ⟨l, xs, rfl, h1, h2⟩ := hv.lst e
    exact ⟨l, xs, rfl, .inl (SqL.of h1), by rw [h2.len]; exact k _ _ _ (.inl ⟨rfl, .int _⟩) h⟩
  | tuple ds =>
    obtain ⟨l, xs, rfl, h1, h2⟩ := hv.tup e
    exact ⟨l, xs, rfl, .inr (SqT.of h1), by rw [h2.len]; exact k _ _ _ (.inl ⟨rfl, .int _⟩) h⟩
  | _ => exact h.elim
def fSum : D1 := fun x Q => ∃ ns : List Int, x = .list (ns.map .int) ∧ Q (.int ns.sum)
theorem rc_sum : RC1 (rSum X.K) fSum := fun G H v x Q Q' e hv ⟨ns, h1, h2⟩ k => by
  subst h1
  obtain ⟨l, xs, rfl, h3, h4⟩ := hv.lst e
  have z := h4.ints
  subst z
  exact ⟨l, ns, rfl, SqL.of h3, k _ _ _ (.inl ⟨rfl, .int _⟩) h2⟩
def fMax1 : D1 := fun x Q => ∃ ns : List Int, x = .list (ns.map .int) ∧ 0 < ns.length ∧ ∀ m, m ∈ ns → (∀ y, y ∈ ns → y ≤ m) → Q (.int m)
theorem rc_max1 : RC1 (rMax X.K) fMax1 := fun G H v x Q Q' e hv ⟨ns, h1, h0, h2⟩ k => by
  subst h1
  obtain ⟨l, xs, rfl, h3, h4⟩ := hv.lst e
  have z := h4.ints
  subst z
  exact ⟨l, ns, rfl, SqL.of h3, h0, fun m a b => k _ _ _ (.inl ⟨rfl, .int _⟩) (h2 m a b)⟩
def fMin1 : D1 := fun x Q => ∃ ns : List Int, x = .list (ns.map .int) ∧ 0 < ns.length ∧ ∀ m, m ∈ ns → (∀ y, y ∈ ns → m ≤ y) → Q (.int m)
theorem rc_min1 : RC1 (rMin X.K) fMin1 := fun G H v x Q Q' e hv ⟨ns, h1, h0, h2⟩ k => by
  subst h1
  obtain ⟨l, xs, rfl, h3, h4⟩ := hv.lst e
  have z := h4.ints
  subst z
  exact ⟨l, ns, rfl, SqL.of h3, h0, fun m a b => k _ _ _ (.inl ⟨rfl, .int _⟩) (h2 m a b)⟩
def fMax2 : D2 := dI0 fun i j => .int (max i j)
def fMin2 : D2 := dI0 fun i j => .int (min i j)
theorem rc_max2 : RC2 (fun xs H Q => ∃ i j, xs = [.int i, .int j] ∧ Q (.int (if j > i then j else i)) H) fMax2 := fun G H v w x y Q Q' e hv hw h k => by
  cases x with
  | int i =>
    cases y with
    | int j =>
      refine ⟨i, j, by rw [hv.int, hw.int], ?_⟩
      have z : (if j > i then j else i) = max i j := by split <;> omega
      rw [z]
      exact k _ _ _ (.inl ⟨rfl, .int _⟩) h
    | _ => exact h.elim
  | _ => cases y <;> exact h.elim
theorem rc_min2 : RC2 (fun xs H Q => ∃ i j, xs = [.int i, .int j] ∧ Q (.int (if j < i then j else i)) H) fMin2 := fun G H v w x y Q Q' e hv hw h k => by
  cases x with
  | int i =>
    cases y with
    | int j =>
      refine ⟨i, j, by rw [hv.int, hw.int], ?_⟩
      have z : (if j < i then j else i) = min i j := by split <;> omega
      rw [z]
      exact k _ _ _ (.inl ⟨rfl, .int _⟩) h
    | _ => exact h.elim
  | _ => cases y <;> exact h.elim
def fInt : D1 := fun x Q => match x with
  | .int i => Q (.int i)
  | .bool b => Q (.int (if b then 1 else 0))
  | _ => False
theorem rc_int : RC1 (fun xs H Q => (∃ i, xs = [.int i] ∧ Q (.int i) H) ∨ ∃ k, xs = [.bl k] ∧ Q (.int (if k then 1 else 0)) H) fInt := fun G H v x Q Q' e hv h k => by
  cases x with
  | int i => exact .inl ⟨i, by rw [hv.int], k _ _ _ (.inl ⟨rfl, .int _⟩) h⟩
  | bool b => exact .inr ⟨b, by rw [hv.bl], k _ _ _ (.inl ⟨rfl, .int _⟩) h⟩
  | _ => exact h.elim
def fAll : D1 := fun x Q => ∃ bs : List Bool, x = .list (bs.map .bool) ∧ Q (.bool (bs.all id))
def fAny : D1 := fun x Q => ∃ bs : List Bool, x = .list (bs.map .bool) ∧ Q (.bool (bs.any id))
theorem rc_all : RC1 (rAll X.K) fAll := fun G H v x Q Q' e hv ⟨ns, h1, h2⟩ k => by
  subst h1
  obtain ⟨l, xs, rfl, h3, h4⟩ := hv.lst e
  have z := h4.bools
  subst z
  exact ⟨l, ns, rfl, SqL.of h3, k _ _ _ (.inl ⟨rfl, .bl _⟩) h2⟩
theorem rc_any : RC1 (rAny X.K) fAny := fun G H v x Q Q' e hv ⟨ns, h1, h2⟩ k => by
  subst h1
  obtain ⟨l, xs, rfl, h3, h4⟩ := hv.lst e
  have z := h4.bools
  subst z
  exact ⟨l, ns, rfl, SqL.of h3, k _ _ _ (.inl ⟨rfl, .bl _⟩) h2⟩
def fList : D1 := fun x Q => match x with
  | .list ds => Q (.list ds)
  | .tuple ds => Q (.list ds)
  | _ => False
theorem rc_list : RC1 (fun xs H Q => ∃ p ys, xs = [.ref p] ∧ (SqL X.K H p ys ∨ SqT X.K H p ys) ∧ ∀ l, H l = none → Q (.ref l) (upd H l (.lst ys))) fList := fun G H v x Q Q' e hv h k => by
  cases x with
  | list ds =>
    obtain ⟨l, xs, rfl, h1, h2⟩ := hv.lst e
    exact ⟨l, xs, rfl, .inl (SqL.of h1), fun p hp => k _ _ _ (out_lst e hp h2) h⟩
  | tuple ds =>
    obtain ⟨l, xs, rfl, h1, h2⟩ := hv.tup e
    exact ⟨l, xs, rfl, .inr (SqT.of h1), fun p hp => k _ _ _ (out_lst e hp h2) h⟩
  | _ => exact h.elim
def fTuple : D1 := fun x Q => match x with
  | .list ds => Q (.tuple ds)
  | .tuple ds => Q (.tuple ds)
  | _ => False
theorem rc_tuple : RC1 (fun xs H Q => ∃ p ys, xs = [.ref p] ∧ ((SqL X.K H p ys ∧ ∀ l, H l = none → Q (.ref l) (upd H l (.tup ys))) ∨ (SqT X.K H p ys ∧ Q (.ref p) H))) fTuple := fun G H v x Q Q' e hv h k => by
  cases x with
  | list ds =>
    obtain ⟨l, xs, rfl, h1, h2⟩ := hv.lst e
    exact ⟨l, xs, rfl, .inl ⟨SqL.of h1, fun p hp => k _ _ _ (out_tup e hp h2) h⟩⟩
  | tuple ds =>
    have r := hv
    obtain ⟨l, xs, rfl, h1, h2⟩ := hv.tup e
    rcases r with r | ⟨_, _, _, _, z, _, _⟩
    · exact ⟨l, xs, rfl, .inr ⟨SqT.of h1, k _ _ _ (.inl ⟨rfl, r⟩) h⟩⟩
    · cases z
  | _ => exact h.elim
/-- n.bit_length() -/
def dBits (de : DE) : DE := fun ρ Q => de ρ fun x ρ1 => match x with
  | .int i => Q (.int (Builtin.Int.intBits i : Nat)) ρ1
  | _ => False
theorem pd_bits {o : Expr} {de : DE} {apos pos : Pos} (ho : PD X o de) (hbase : attributeBase o "bit_length" X.env (eval o X.env) = eval o X.env := by rfl) (hline : (apos.endLine == pos.line) = true := by rfl) : PD X (.Call (.Attribute o "bit_length" apos) [] [] pos) (dBits de) := pe_imp (pe_bits ho hbase hline) fun σ H Q ⟨c, G, ρ, Q', rp, h, k⟩ => by
  refine ⟨c, G, ρ, _, rp, h, fun x ρ1 G1 H1 v q1 e1 r1 hx => ?_⟩
  cases hx with
  | int i => exact ⟨i, rfl, k _ ρ1 G1 H1 _ q1 e1 r1 (.int _)⟩
  | _ => exact q1.elim
/-! ### isinstance -/
def kindD : PyData → String
  | .none => "NoneType"
  | .bool _ => "bool"
  | .int _ => "int"
  | .str _ => "str"
  | .list _ => "list"
  | .tuple _ => "tuple"
  | .dict _ => "dict"
def isT : PyData → String → Bool
  | .bool _, T => T == "bool" || T == "int"
  | d, T => kindD d == T
def Tys : List String := ["bool", "int", "str", "list", "tuple", "dict"]
theorem kit_all : ∀ T ∈ Tys, kitB "NoneType" T = some ("NoneType" == T) ∧ kitB "bool" T = some (T == "bool" || T == "int") ∧ kitB "int" T = some ("int" == T) ∧ kitB "str" T = some ("str" == T) ∧ kitB "list" T = some ("list" == T) ∧ kitB "tuple" T = some ("tuple" == T) := by decide +kernel
theorem rv_ty {K : PySem.W.Frag} {G H : Hp} {v : V} {x : PyData} (e : Ex G H) (h : Rv G H v x) : TyX K H v (.type (kindD x)) := by
  rcases h with h | ⟨a, xs, ds, rfl, rfl, h1, _⟩
  · cases h with
    | non => exact .base .non
    | bl b => exact .base (.bl b)
    | int i => exact .base (.int i)
    | str y => exact .base (.str y)
    | lst a b => exact .base (.lst (e _ _ a))
    | tup a b => exact .base (.tup (e _ _ a))
  · exact .base (.lst h1)
theorem kit_is {K : PySem.W.Frag} {G H : Hp} {v : V} {x : PyData} {T : String} (hT : T ∈ Tys) (h : Rv G H v x) : PySem.W.kitOne K (.type (kindD x)) (.type T) = some (isT x T) := by
  obtain ⟨k1, k2, k3, k4, k5, k6⟩ := kit_all T hT
  cases x with
  | none => exact kit_ty k1
  | bool b => exact kit_ty k2
  | int i => exact kit_ty k3
  | str y => exact kit_ty k4
  | list ds => exact kit_ty k5
  | tuple ds => exact kit_ty k6
  | dict kvs =>
    rcases h with h | ⟨_, _, _, _, z, _, _⟩
    · cases h
    · cases z
def fIsT (T : String) : D1 := fun x Q => Q (.bool (isT x T))
def dIs1 (T : String) (de : DE) : DE := dUn (fIsT T) de
variable {e : Expr} {de : DE} {x y : Str} {p p2 pos : Pos}
theorem pd_is1 {T : String} (hm : X.mg x = none) (hm2 : X.mg y = none) (he : PR X e de) (hT : T ∈ Tys := by decide) (hg : Gl X x := by rfl) (hv : bootBuiltins x = some (.builtin "isinstance") := by decide +kernel) (hg2 : Gl X y := by rfl) (hv2 : bootBuiltins y = some (.type T) := by decide +kernel) (hn : x ≠ "__name__" := by decide) (hdb : (x == ("__debug__" : Str)) = false := by decide)
    (hs : starEach [e, .Name y p2] X.env = (false, eval e X.env) :: starEach [.Name y p2] X.env := by rfl) (hs2 : starEach [.Name y p2] X.env = (false, eval (.Name y p2) X.env) :: starEach [] X.env := by rfl) (hpl : (backTo pos (starEach [.Name y p2] X.env)).any (·.1) = false := by rfl) (hn2 : y ≠ "__name__" := by decide) (hdb2 : (y == ("__debug__" : Str)) = false := by decide) :
    PD X (.Call (.Name x p) [e, .Name y p2] [] pos) (dIs1 T de) := pe_imp (pe_callB call_isi hg hm hv (pa_cons he (pa_cons (pe_bltn (v := .ty T) hg2 hm2 hv2 rfl (hn := hn2) (hd := hdb2)) pa_nil hs2) hs) hn hdb hs hpl) fun σ H Q ⟨c, G, ρ, Q', rp, hd, k⟩ => by
  refine ⟨c, G, ρ, _, rp, hd, fun d ρ1 G1 H1 v q1 e1 r1 hx => ?_⟩
  exact ⟨v, .ty T, _, _, _, rfl, .ty T, rv_ty r1.gh hx, kit_is hT hx, k _ ρ1 G1 H1 _ q1 e1 r1 (.bl _)⟩
def fIsTs (Ts : List String) : D1 := fun x Q => Q (.bool (Ts.any (isT x)))
theorem kit_any {K : PySem.W.Frag} {G H : Hp} {v : V} {x : PyData} (h : Rv G H v x) : ∀ {Ts : List String}, (∀ T ∈ Ts, T ∈ Tys) → PySem.W.kitAny K (.type (kindD x)) (Ts.map Value.type) = some (Ts.any (isT x))
  | [], _ => kitAny_nil
  | T :: r, hT => by
    have ih := kit_any (K := K) h (Ts := r) fun S hS => hT S (List.mem_cons_of_mem _ hS)
    have h1 := kit_is (K := K) (hT T List.mem_cons_self) h
    rw [List.map_cons, List.any_cons]
    cases q : isT x T with
    | true =>
      rw [q] at h1
      exact kitAny_cons h1 (fun z => nomatch z) fun _ => rfl
    | false =>
      rw [q] at h1
      exact kitAny_cons h1 (fun _ => ih) fun z => nomatch z
/-- isinstance(x, (T1, T2, ..)) -/
def dIsTs (Ts : List String) (de : DE) : DE := dUn (fIsTs Ts) de
def NmT (X : Cx) (n : Expr) (T : String) : Prop := PE X n (tC (.ty T))
theorem nm_ty {T : String} (hm2 : X.mg y = none) (hg2 : Gl X y := by rfl) (hv2 : bootBuiltins y = some (.type T) := by decide +kernel) (hn2 : y ≠ "__name__" := by decide) (hdb2 : (y == ("__debug__" : Str)) = false := by decide) : NmT X (.Name y p2) T := pe_bltn (v := .ty T) hg2 hm2 hv2 rfl (hn := hn2) (hd := hdb2)
inductive NmTs (X : Cx) : List Expr → List String → TA → Prop where
  | nil : NmTs X [] [] tNil
  | cons {n : Expr} {T : String} {ns : List Expr} {Ts : List String} {t : TA} (h : NmT X n T) (hs : starEach (n :: ns) X.env = (false, eval n X.env) :: starEach ns X.env) (r : NmTs X ns Ts t) : NmTs X (n :: ns) (T :: Ts) (tCons (tC (.ty T)) t)
theorem NmTs.pa : ∀ {ns : List Expr} {Ts : List String} {t : TA}, NmTs X ns Ts t → PA X ns t
  | _, _, _, .nil => pa_nil
  | _, _, _, .cons h hs r => pa_cons h r.pa hs
theorem NmTs.goes : ∀ {ns : List Expr} {Ts : List String} {t : TA}, NmTs X ns Ts t → ∀ {σ : L2.St} {H : Hp} {Q : List V → Hp → Prop}, Q (Ts.map V.ty) H → t σ H Q
  | _, _, _, .nil, _, _, _, h => h
  | _, _, _, .cons _ _ r, _, _, _, h => r.goes h
theorem cls_all : ∀ Ts : List String, Paired ClsV (Ts.map V.ty) (Ts.map Value.type)
  | [] => .nil
  | T :: r => .cons (.ty T) (cls_all r)
theorem pd_isTs {ns : List Expr} {Ts : List String} {t : TA} {kk : Nat} {tpos : Pos} (hm : X.mg x = none) (he : PR X e de) (hN : NmTs X ns Ts t) (hT : ∀ T ∈ Ts, T ∈ Tys := by decide) (hl : Ts.length ≤ 1000 := by decide) (hg : Gl X x := by rfl) (hv : bootBuiltins x = some (.builtin "isinstance") := by decide +kernel) (hn : x ≠ "__name__" := by decide) (hdb : (x == ("__debug__" : Str)) = false := by decide)
    (hs : starEach [e, .Tuple ns kk tpos] X.env = (false, eval e X.env) :: starEach [.Tuple ns kk tpos] X.env := by rfl) (hs2 : starEach [.Tuple ns kk tpos] X.env = (false, eval (.Tuple ns kk tpos) X.env) :: starEach [] X.env := by rfl) (hpl : (backTo pos (starEach [.Tuple ns kk tpos] X.env)).any (·.1) = false := by rfl) :
    PD X (.Call (.Name x p) [e, .Tuple ns kk tpos] [] pos) (dIsTs Ts de) := pe_imp (pe_callB call_isiT hg hm hv (pa_cons he (pa_cons (pe_tup hN.pa) pa_nil hs2) hs) hn hdb hs hpl) fun σ H Q ⟨c, G, ρ, Q', rp, hd, k⟩ => by
  refine ⟨c, G, ρ, _, rp, hd, fun d ρ1 G1 H1 v q1 e1 r1 hx => ?_⟩
  refine hN.goes ⟨by rw [List.length_map]; exact Nat.le_of_lt (small1000 hl), fun p hp => ?_⟩
  have r2 := r1.newH (o := .tup (Ts.map V.ty)) hp
  have hx2 : Rv G1 (upd H1 p (.tup (Ts.map V.ty))) v d := by
    rcases hx with hx | ⟨a, xs, ds, a1, a2, a3, a4⟩
    · exact .inl hx
    · exact .inr ⟨a, xs, ds, a1, a2, by rw [upd_ne (ne_of_none a3 hp)]; exact a3, a4⟩
  exact ⟨v, p, Ts.map V.ty, _, Ts.map Value.type, _, rfl, upd_same, cls_all Ts, rv_ty r2.gh hx2, kit_any hx2 hT, k _ ρ1 G1 _ _ q1 e1 r2 (.bl _)⟩
end
end DL

set_option Elab.async false
set_option linter.all false
set_option maxRecDepth 100000
set_option maxHeartbeats 1000000
/-! DL7: chains in tests, stars in displays, dicts of one's own, repr. -/
namespace DL
open PySem L2 Evl PyProof.Rows RZ

section
variable {X : Cx} {e a b : Expr} {es : List Expr} {pos : Pos} {de da db : DE}
theorem ptd_chain {e3 : Expr} {dc : DE} {op op' : CmpOp} {r r' : R2} {f g : D2} (ho : OpR X (compareOp op) r) (ho' : OpR X (compareOp op') r') (hr : ROp r f) (hr' : ROp r' g) (ha : PD X a da) (hb : PD X b db) (hc : PR X e3 dc) (hm : lastMarks [op, op'] [b, e3] = false := by rfl) :
    PTD X (.Compare a [op, op'] [b, e3] pos) (dB (dChain f g da db dc)) := pt_imp (pt_chain ho ho' ha hb hc hm) fun σ H Q ⟨c, G, ρ, Q', rp, hd, k⟩ => by
  refine ⟨c, G, ρ, _, rp, hd, fun x ρ1 G1 H1 v q1 e1 r1 hx => ?_⟩
  refine ⟨c, G1, ρ1, _, r1, q1, fun y ρ2 G2 H2 w q2 e2 r2 hy => ?_⟩
  refine hr G2 H2 v w x y _ _ r2.gh (.inl (hx.up e2)) (.inl hy) q2 fun d u H' o q3 => ?_
  obtain ⟨G3, e3, r3, h3⟩ := r2.out o
  cases d with
  | bool z =>
    cases h3
    refine ⟨z, rfl, ?_⟩
    cases z with
    | false => exact ⟨false, rfl, k _ ρ2 G3 H' q3 ((e1.trans e2).trans e3) r3⟩
    | true =>
      refine ⟨c, G3, ρ2, _, r3, q3, fun w' ρ3 G4 H4 w2 q4 e4 r4 h4 => ?_⟩
      refine hr' G4 H4 w w2 y w' _ _ r4.gh (.inl (hy.up (e3.trans e4))) h4 q4 fun d u H' o q5 => ?_
      obtain ⟨G5, e5, r5, h5⟩ := r4.out o
      cases d with
      | bool z =>
        cases h5
        exact ⟨z, rfl, k z ρ3 G5 H' q5 ((((e1.trans e2).trans e3).trans e4).trans e5) r5⟩
      | _ => exact q5.elim
  | _ => exact q3.elim
/-- *e in a display -/
def daStar (de : DE) (da : DN) : DN := fun ρ Q => de ρ fun d ρ1 => match d with
  | .list ds => da ρ1 fun es ρ2 => Q (ds ++ es) ρ2
  | .tuple ds => da ρ1 fun es ρ2 => Q (ds ++ es) ρ2
  | _ => False
theorem pad_star {da : DN} {p : Pos} (he : PD X e de) (hr : PAD X es da) (hs : starEach (.Starred e p :: es) X.env = (true, eval e X.env) :: starEach es X.env := by rfl) : PAD X (.Starred e p :: es) (daStar de da) :=
  pa_imp (StX.pa_star he hr hs) fun σ H Q ⟨c, G, ρ, Q', rp, hd, k⟩ => by
    refine ⟨c, G, ρ, _, rp, hd, fun x ρ1 G1 H1 v q1 e1 r1 hx => ?_⟩
    cases hx with
    | lst h1 h2 => exact ⟨_, _, rfl, .inr (SqL.of (r1.gh _ _ h1)), c, G1, ρ1, _, r1, q1, fun ys ρ2 G2 H2 vs q2 e2 r2 hy => k _ ρ2 G2 H2 _ q2 (e1.trans e2) r2 ((h2.up e2).app hy)⟩
    | tup h1 h2 => exact ⟨_, _, rfl, .inl (SqT.of (r1.gh _ _ h1)), c, G1, ρ1, _, r1, q1, fun ys ρ2 G2 H2 vs q2 e2 r2 hy => k _ ρ2 G2 H2 _ q2 (e1.trans e2) r2 ((h2.up e2).app hy)⟩
    | _ => exact q1.elim
end
/-! ### dicts of one's own -/
def keyD : PyData → Option Key
  | .int i => some (.inl i)
  | .str x => some (.inr x)
  | _ => none
theorem key_v {G H : Hp} {v : V} {d : PyData} {k : Key} (h : Rv G H v d) (e : keyD d = some k) : v = kV k := by
  cases d <;> cases e
  · exact h.int
  · exact h.str
def atD : List (Key × PyData) → Key → Option PyData
  | [], _ => none
  | (j, d) :: r, k => if j = k then some d else atD r k
def setD : List (Key × PyData) → Key → PyData → List (Key × PyData)
  | [], k, d => [(k, d)]
  | (j, e) :: r, k, d => if j = k then (j, d) :: setX r k d else (j, e) :: setD r k d
where
  setX : List (Key × PyData) → Key → PyData → List (Key × PyData)
  | [], _, _ => []
  | (j, e) :: r, k, d => (if j = k then (j, d) else (j, e)) :: setX r k d
theorem kv_len {G : Hp} : ∀ {a : List (Key × V)} {b : List (Key × PyData)}, KvRp G a b → a.length = b.length
  | _, _, .nil => rfl
  | _, _, .cons _ t => by rw [List.length_cons, List.length_cons, kv_len t]
theorem kv_at {G : Hp} {k : Key} : ∀ {a : List (Key × V)} {b : List (Key × PyData)}, KvRp G a b → (∀ d, atD b k = some d → ∃ v, valV a k = some v ∧ Rp G v d) ∧ (atD b k = none → valV a k = none)
  | _, _, .nil => ⟨fun d h => (nomatch (h : (none : Option PyData) = some d)), fun _ => rfl⟩
  | _, _, .cons (k := j) (d := e) (v := v) (r := r) h t => by
    by_cases z : j = k
    · subst z
      refine ⟨fun d q => ?_, fun q => ?_⟩
      · unfold atD at q
        rw [if_pos rfl] at q
        cases q
        exact ⟨v, valV_pos rfl, h⟩
      · unfold atD at q
        rw [if_pos rfl] at q
        cases q
    · have ih := kv_at (k := k) t
      refine ⟨fun d q => ?_, fun q => ?_⟩
      · unfold atD at q
        rw [if_neg z] at q
        rw [valV_neg z]
        exact ih.1 d q
      · unfold atD at q
        rw [if_neg z] at q
        rw [valV_neg z]
        exact ih.2 q
/-- only new keys are ever put -/
theorem kv_new {G : Hp} {k : Key} {v : V} {d : PyData} {a : List (Key × V)} {b : List (Key × PyData)} (h : KvRp G a b) (n : atD b k = none) (hv : Rp G v d) : KvRp G (putK a k v) (b ++ [(k, d)]) := by
  have e : putK a k v = a ++ [(k, v)] := by
    have := valV_any k a
    rw [(kv_at h).2 n] at this
    unfold putK
    rw [this]
    rfl
  rw [e]
  have main : ∀ {a : List (Key × V)} {b : List (Key × PyData)}, KvRp G a b → KvRp G (a ++ [(k, v)]) (b ++ [(k, d)]) := by
    intro a b h
    induction h with
    | nil => exact .cons hv .nil
    | cons h _ ih => exact .cons h ih
  exact main h
section
variable {X : Cx} {e a b : Expr} {es : List Expr} {pos : Pos} {de da db : DE}
def dic (ρ : Rho) (i : Nat) (k : List (Key × PyData) → Prop) : Prop := match ρ[i]? with
  | some (.dic kvs) => k kvs
  | _ => False
theorem dic_some {c : Co} {G H : Hp} {σ : L2.St} {ρ : Rho} {i : Nat} {k : List (Key × PyData) → Prop} (r : Rep c G σ H ρ) (h : dic ρ i k) : ∃ a kws kvs, σ[i]? = some (some (.ref a)) ∧ H a = some (.dK kws) ∧ KvRp G kws kvs ∧ k kvs ∧
    ρ[i]? = some (.dic kvs) ∧ G a = none ∧ c.H0 a = none := by
  unfold dic at h
  cases q : ρ[i]? with
  | none => rw [q] at h; exact h.elim
  | some s =>
    rw [q] at h
    have o := r.ok i s q
    cases s with
    | dic kvs => obtain ⟨a, kws, h1, h2, h3, h4, h5⟩ := o; exact ⟨a, kws, kvs, h1, h2, h3, h, rfl, h4, h5⟩
    | _ => exact h.elim
/-- len(d) -/
def dLenD (i : Nat) : DE := fun ρ Q => dic ρ i fun kvs => Q (.int (kvs.length : Int)) ρ
theorem pd_lenD (i : Nat) {x y : Str} {p p2 : Pos} (hm : X.mg x = none) (hN : X.N[i]? = some y := by rfl) (hvy : Vis X.env.scope y := by first | exact Or.inl rfl | exact Or.inr (Or.inl rfl) | exact Or.inr (Or.inr rfl)) (hdy : (y == ("__debug__" : Str)) = false := by decide) (hcd : (y == ("__classdict__" : Str)) = false := by decide)
    (hg : Gl X x := by rfl) (hv : bootBuiltins x = some (.builtin "len") := by decide +kernel) (hn : x ≠ "__name__" := by decide) (hdb : (x == ("__debug__" : Str)) = false := by decide) (hs : starEach [.Name y p2] X.env = (false, eval (.Name y p2) X.env) :: starEach [] X.env := by rfl) (hpl : (backTo pos (starEach [] X.env)).any (·.1) = false := by rfl) :
    PD X (.Call (.Name x p) [.Name y p2] [] pos) (dLenD i) := pe_imp (pe_callB call_lenD hg hm hv (pa_cons (pe_var hN hvy hdy hcd) pa_nil hs) hn hdb hs hpl) fun σ H Q ⟨c, G, ρ, Q', rp, h, k⟩ => by
  obtain ⟨a, kws, kvs, h1, h2, h3, h4, _⟩ := dic_some rp h
  refine ⟨_, h1, a, kws, rfl, h2, ?_⟩
  rw [kv_len h3]
  exact k _ ρ G H _ h4 (Ex.refl G) rp (.int _)
/-- d[k] -/
def dDGet (i : Nat) (dk : DE) : DE := fun ρ Q => dic ρ i fun _ => dk ρ fun z ρ1 => dic ρ1 i fun kvs => ∃ k d, keyD z = some k ∧ atD kvs k = some d ∧ Q d ρ1
theorem pd_dget (i : Nat) {y : Str} {p2 : Pos} {dk : DE} (hu : X.A.units + 1 < cLine) (hk : PD X e dk) (hs : NoSl e := by intro _ _; rfl) (hN : X.N[i]? = some y := by rfl) (hvy : Vis X.env.scope y := by first | exact Or.inl rfl | exact Or.inr (Or.inl rfl) | exact Or.inr (Or.inr rfl)) (hdy : (y == ("__debug__" : Str)) = false := by decide) (hcd : (y == ("__classdict__" : Str)) = false := by decide) :
    PD X (.Subscript (.Name y p2) e pos) (dDGet i dk) := pe_imp (pe_dget hu (pe_var hN hvy hdy hcd) hk hs) fun σ H Q ⟨c, G, ρ, Q', rp, h, k⟩ => by
  obtain ⟨a, kws, kvs, h1, _, _, h4, _⟩ := dic_some rp h
  refine ⟨_, h1, c, G, ρ, _, rp, h4, fun z ρ1 G1 H1 w q1 e1 r1 hz => ?_⟩
  obtain ⟨a', kws', kvs', k1, k2, k3, k4, _⟩ := dic_some r1 q1
  rw [h1] at k1
  cases k1
  obtain ⟨kk, d, z1, z2, z3⟩ := k4
  obtain ⟨v, v1, v2⟩ := (kv_at k3).1 d z2
  refine ⟨a, v, rfl, ?_, k d ρ1 G1 H1 v z3 e1 r1 v2⟩
  rw [key_v (H := H1) (.inl hz) z1]
  have g := DGet.k (k := kk) k2
  rw [v1] at g
  exact g
/-- k in d -/
def dDIn (neg : Bool) (dk : DE) (i : Nat) : DE := fun ρ Q => dk ρ fun z ρ1 => dic ρ1 i fun kvs => ∃ k, keyD z = some k ∧ Q (.bool ((atD kvs k).isSome != neg)) ρ1
theorem din_core {c : Co} {G H : Hp} {σ : L2.St} {ρ : Rho} {i : Nat} {z : PyData} {w : V} {k : List (Key × PyData) → Key → Prop} (r : Rep c G σ H ρ) (hz : Rp G w z) (h : dic ρ i fun kvs => ∃ kk, keyD z = some kk ∧ k kvs kk) :
    ∃ a o kvs kk, σ[i]? = some (some (.ref a)) ∧ DGet H a w o ∧ o.isSome = (atD kvs kk).isSome ∧ k kvs kk := by
  obtain ⟨a, kws, kvs, k1, k2, k3, ⟨kk, k4, k5⟩, _⟩ := dic_some r h
  refine ⟨a, valV kws kk, kvs, kk, k1, by rw [key_v (H := H) (.inl hz) k4]; exact DGet.k k2, ?_, k5⟩
  cases q : atD kvs kk with
  | none =>
    have z := (kv_at k3).2 q
    rw [z]
    rfl
  | some d =>
    obtain ⟨v, v1, _⟩ := (kv_at k3).1 d q
    rw [v1]
    rfl
theorem pc_imp {op : CmpOp} {t t' : TE} (h : PC X op a b t) (k : ∀ σ H Q, t' σ H Q → t σ H Q) : PC X op a b t' := ⟨fun pins s σ H Q I q => h.run pins s σ H Q I (k σ H Q q)⟩
theorem pcd_notin (i : Nat) {y : Str} {p2 : Pos} {dk : DE} (hu : X.A.units + 1 < cLine) (hk : PD X e dk) (hN : X.N[i]? = some y := by rfl) (hvy : Vis X.env.scope y := by first | exact Or.inl rfl | exact Or.inr (Or.inl rfl) | exact Or.inr (Or.inr rfl)) (hdy : (y == ("__debug__" : Str)) = false := by decide) (hcd : (y == ("__classdict__" : Str)) = false := by decide) :
    PC X .NotIn e (.Name y p2) (tD (dDIn true dk i)) := pc_imp (pc_dnotin hu hk (pe_var hN hvy hdy hcd)) fun σ H Q ⟨c, G, ρ, Q', rp, h, k⟩ => by
  refine ⟨c, G, ρ, _, rp, h, fun z ρ1 G1 H1 w q1 e1 r1 hz => ?_⟩
  obtain ⟨a, o, kvs, kk, z1, z2, z3, z4⟩ := din_core r1 hz q1
  refine ⟨_, z1, a, o, rfl, z2, ?_⟩
  rw [show (!o.isSome) = ((atD kvs kk).isSome != true) by rw [z3]; cases (atD kvs kk).isSome <;> rfl]
  exact k _ ρ1 G1 H1 _ z4 e1 r1 (.bl _)
theorem pcd_in (i : Nat) {y : Str} {p2 : Pos} {dk : DE} (hu : X.A.units + 1 < cLine) (hk : PD X e dk) (hN : X.N[i]? = some y := by rfl) (hvy : Vis X.env.scope y := by first | exact Or.inl rfl | exact Or.inr (Or.inl rfl) | exact Or.inr (Or.inr rfl)) (hdy : (y == ("__debug__" : Str)) = false := by decide) (hcd : (y == ("__classdict__" : Str)) = false := by decide) :
    PC X .In e (.Name y p2) (tD (dDIn false dk i)) := pc_imp (pc_din hu hk (pe_var hN hvy hdy hcd)) fun σ H Q ⟨c, G, ρ, Q', rp, h, k⟩ => by
  refine ⟨c, G, ρ, _, rp, h, fun z ρ1 G1 H1 w q1 e1 r1 hz => ?_⟩
  obtain ⟨a, o, kvs, kk, z1, z2, z3, z4⟩ := din_core r1 hz q1
  refine ⟨_, z1, a, o, rfl, z2, ?_⟩
  rw [show o.isSome = ((atD kvs kk).isSome != false) by rw [z3]; cases (atD kvs kk).isSome <;> rfl]
  exact k _ ρ1 G1 H1 _ z4 e1 r1 (.bl _)
/-- d[k] = e, k new -/
def dDPut (i : Nat) (dk de : DE) : DS := fun D ρ => de ρ fun d ρ1 => dic ρ1 i fun _ => dk ρ1 fun z ρ2 => dic ρ2 i fun kvs => ∃ k, keyD z = some k ∧ atD kvs k = none ∧ kvs.length < 100000 ∧ D.nx (ρ2.set i (.dic (kvs ++ [(k, d)])))
theorem psd_dput (i : Nat) {y : Str} {p2 p3 : Pos} {kx : Expr} {dk : DE} (hu : X.A.units + 1 < cLine) (he : PD X e de) (hk : PD X kx dk) (hN : X.N[i]? = some y := by rfl) (hvy : Vis X.env.scope y := by first | exact Or.inl rfl | exact Or.inr (Or.inl rfl) | exact Or.inr (Or.inr rfl)) (hdy : (y == ("__debug__" : Str)) = false := by decide) (hcd : (y == ("__classdict__" : Str)) = false := by decide)
    (hs : swapsWith e (some (.Subscript (.Name y p2) kx p3)) pos.line X.env = pure false := by rfl) : PSD X (.Assign [.Subscript (.Name y p2) kx p3] e pos) (dDPut i dk de) := ps_imp (ps_dput hu (pe_var hN hvy hdy hcd) hk he hs) fun D σ H ⟨c, G, ρ, D', r, h, k⟩ => by
  refine ⟨c, G, ρ, _, r, h, fun d ρ1 G1 H1 v q1 e1 r1 hx => ?_⟩
  obtain ⟨a, _, _, h1, _, _, h4, _⟩ := dic_some r1 q1
  refine ⟨_, h1, c, G1, ρ1, _, r1, h4, fun z ρ2 G2 H2 w q2 e2 r2 hz => ?_⟩
  obtain ⟨a', kws, kvs, k1, k2, k3, ⟨kk, z1, z2, z3, z4⟩, k5, k6, k7⟩ := dic_some r2 q2
  rw [h1] at k1
  cases k1
  refine ⟨a, _, rfl, ?_, k.nx _ G2 _ _ z4 (e1.trans e2) (r2.chg (t := .dic (kvs ++ [(kk, d)])) (o := .dK (putK kws kk v)) k5 rfl rfl h1 (.inl k7) ⟨a, _, rfl, upd_same, kv_new k3 z2 (hx.up e2), k6, k7⟩)⟩
  rw [key_v (H := H2) (.inl hz) z1]
  exact DPut.k k2 (sz_lt (by rw [kv_len k3]; exact z3))
/-- a, b = ({}, [..]) -/
def dParDN (i j : Nat) (dn : DN) : DS := fun D ρ => dn ρ fun xs ρ1 => D.nx ((ρ1.set i (.dic [])).set j (.own xs))
theorem psd_parDN (i j : Nat) {e2 : Expr} {dn : DN} {x y : Str} {px py pt pd : Pos} {kt k2 pt2} (hc : X.calm = true) (hN : X.N.Nodup) (hb : PN X e2 dn) (hi : X.N[i]? = some x := by rfl) (hj : X.N[j]? = some y := by rfl) (hij : i ≠ j := by decide)
    (hx : X.env.scope.names.lookup x = some .local := by rfl) (hy : X.env.scope.names.lookup y = some .local := by rfl) (hs1 : starEach [.Dict [] [] pd, e2] X.env = (false, eval (.Dict [] [] pd) X.env) :: starEach [e2] X.env := by rfl) (hs2 : starEach [e2] X.env = (false, eval e2 X.env) :: starEach [] X.env := by rfl)
    (hw : swappedStores [.Tuple [.Name x px, .Name y py] kt pt] (.Tuple [.Dict [] [] pd, e2] k2 pt2) X.env = pure (some [x, y]) := by rfl) (hs : swapsWithSole [.Tuple [.Name x px, .Name y py] kt pt] (.Tuple [.Dict [] [] pd, e2] k2 pt2) pos.line X.env = pure false := by rfl) :
    PSD X (.Assign [.Tuple [.Name x px, .Name y py] kt pt] (.Tuple [.Dict [] [] pd, e2] k2 pt2) pos) (dParDN i j dn) := ps_imp (ps_par hc hN hi hj hij hx hy (pa_cons pe_dnewK (pa_cons hb pa_nil hs2) hs1) hw hs) fun D σ H ⟨c, G, ρ, D', r, h, k⟩ => by
  intro p hp
  have r1 := r.pinN (o := .dK []) hp
  have fp := r.free hp
  refine ⟨_, G, ρ, _, r1, h, fun ds ρ1 G1 H1 q xs q1 f1 r2 f hx => ?_⟩
  refine ⟨_, _, rfl, k.nx _ G1 H1 _ q1 f1 ?_⟩
  have a1 := r2.pins (q, .lst xs) List.mem_cons_self
  have a2 := r2.pins (p, .dK []) (List.mem_cons_of_mem _ List.mem_cons_self)
  have hpq : p ≠ q := f.2 (p, .dK []) List.mem_cons_self
  have r3 : Rep { c with pin := (p, .dK []) :: (q, .lst xs) :: c.pin } G1 σ H1 ρ1 := by
    refine ⟨⟨r2.g0, r2.fr, r2.gh, r2.hh, r2.dom⟩, r2.len, fun i s h => ?_, r2.sep, fun z hz => ?_, r2.mats.sub (fun _ _ h _ => ⟨h, rfl⟩) fun z hz => ?_⟩
    rotate_left 2
    · rcases List.mem_cons.mp hz with rfl | hz
      · exact List.mem_cons_of_mem _ List.mem_cons_self
      · rcases List.mem_cons.mp hz with rfl | hz
        · exact List.mem_cons_self
        · exact List.mem_cons_of_mem _ (List.mem_cons_of_mem _ hz)
    · have := r2.ok i s h
      cases s <;> exact this
    · rcases List.mem_cons.mp hz with rfl | hz
      · exact a2
      · rcases List.mem_cons.mp hz with rfl | hz
        · exact a1
        · exact r2.pins z (List.mem_cons_of_mem _ (List.mem_cons_of_mem _ hz))
  have r4 := Rep.setM (c := { c with pin := (q, .lst xs) :: c.pin }) (i := i) r3 (s := .dic []) rfl ⟨p, [], rfl, a2.1, .nil, a2.2.1, fp.1⟩ fun z hz => by
    rcases List.mem_cons.mp hz with rfl | hz
    · exact fun y => hpq y.symm
    · exact fp.2 z hz
  exact Rep.setM (c := c) r4 (s := .own ds) rfl ⟨q, xs, rfl, a1.1, hx, a1.2.1, f.1⟩ fun z hz => f.2 z (List.mem_cons_of_mem _ hz)
/-! ### repr -/
theorem call_reprD (hg : X.A.guards = some []) (hu : X.A.units + 65 < cLine) : CallR X (.builtin "repr") (fun xs H Q => ∃ p d, xs = [.ref p] ∧ Dp X.K H (.ref p) d ∧ d.showable = true ∧ d.hasDict = false ∧ d.depth ≤ 60 ∧ d.shown.length ≤ sizeLine ∧ Q (.str d.shown) H) := by
  intro pins s σ H xs us Q I r h
  obtain ⟨p, d, rfl, hp, h1, h2, h3, h4, q⟩ := h
  obtain ⟨u, rfl, ru⟩ := vals1 r
  obtain rfl : u = Value.ref p := ru
  obtain ⟨as, rd⟩ := Dp.reads I d _ _ hp rfl
  refine repr_of_reads' rd h1 (fun z => by rw [h2] at z; cases z) hg (by omega) (fun _ _ e => e) (fun h' t tk hk => ⟨.str _, H, I.kept (t' := tk) hk, ⟨t, rfl⟩, q⟩) h4
/-- repr of a list -/
def fRepr : D1 := fun x Q => match x with
  | .list ds => (PyData.list ds).showable = true ∧ (PyData.list ds).hasDict = false ∧ (PyData.list ds).depth ≤ 60 ∧ (PyData.list ds).shown.length ≤ sizeLine ∧ Q (.str (PyData.list ds).shown)
  | _ => False
theorem rc_repr {K : PySem.W.Frag} : RC1 (fun xs H Q => ∃ p d, xs = [.ref p] ∧ Dp K H (.ref p) d ∧ d.showable = true ∧ d.hasDict = false ∧ d.depth ≤ 60 ∧ d.shown.length ≤ sizeLine ∧ Q (.str d.shown) H) fRepr := by
  intro G H v x Q Q' e hv h k
  cases x with
  | list ds =>
    obtain ⟨a, xs, rfl, ha, hx⟩ := hv.lst e
    exact ⟨a, .list ds, rfl, hv.dp e, h.1, h.2.1, h.2.2.1, h.2.2.2.1, k _ _ H (.inl ⟨rfl, .str _⟩) h.2.2.2.2⟩
  | _ => exact h.elim
end
end DL

set_option Elab.async false
set_option linter.all false
set_option maxRecDepth 100000
set_option maxHeartbeats 1000000
/-! DL8: defs that need the quiet of the guards (repr), the script, the law's own def, the end. -/
namespace DL
open PySem L2 Evl PyProof.Rows RZ

/-! ### with no guard about -/
structure FnG (P : Program) (w : World) (K : PySem.W.Frag) (mg : Str → Option Value) (base : Heap) (k : Nat) (f : Addr) (fd : FuncData) (ps : List Str) (sp : Sp) : Prop where
  len : ∀ vs H Q E, sp vs H Q E → vs.length = ps.length
  run : ∀ (A : Around) (outer : List Env) (s : Shared) (H : Hp) (args : Args) (us : List Value) (vs : List V) (Q : VK) (E : XK), A.guards = some [] → Room k A → Env0 P w K mg base A outer s H → BindsTo s fd args (ps.zip us) → Vals vs us → sp vs H Q E →
    codeAny (model P w) A (.call (.ref f) args) (CR CX0 outer P w H s Q E) s
section
variable {P : Program} {w : World} {K : PySem.W.Frag} {mg : Str → Option Value} {base : Heap} {x qual : Str} {params : Arguments} {body : List Stmt} {scope : Scope} {dvs : List V} {kws : List (Str × V)} {f : Addr} {fd : FuncData} {N ps : List Str} {k j : Nat} {bd : DS} {sp sp' : Sp}
theorem FnG.mono (F : FnG P w K mg base j f fd ps sp) (h : j ≤ k) : FnG P w K mg base k f fd ps sp := ⟨F.len, fun A o s H a us vs Q E g r => F.run A o s H a us vs Q E g (r.mono h)⟩
theorem FnOk.toG (F : FnOk P w K mg base CX0 k f fd ps sp) : FnG P w K mg base k f fd ps sp := ⟨F.len, fun A o s H a us vs Q E _ r => F.run A o s H a us vs Q E r⟩
theorem fin_g {X : Cx} {outer : List Env} {σ' : L2.St} {H H' : Hp} {s s' : Shared} {v : V} {u : Value} {Q : VK} (h1 : CE outer X.prog X.w H s Q u s') : CR CX0 outer X.prog X.w H s Q E0 (.ok (.ret u)) s' := h1
/-- THE RULE for a def, told with no guard about -/
theorem okG (F : FunD K x qual params body scope dvs kws f fd) (S : FnScope N ps scope) (len : ∀ vs H Q E, sp vs H Q E → vs.length = ps.length)
    (run : ∀ (cdv : Value) (A : Around) (outer : List Env) (s : Shared) (H : Hp) (vs : List V) (Q : VK) (E : XK), A.guards = some [] → Room k (A.deeper (envOfC qual scope s.heap.objs.size f cdv)) → sp vs H Q E →
      ∃ t, PSs (cxOf CX0 P w K mg base N qual scope f cdv A outer s H E).nox body t ∧ t { nx := fun _ H' => Q .non H', rt := Q } (start N vs) H) : FnG P w K mg base (k + 1) f fd ps sp := by
  obtain ⟨oc, od, dV, kV, doc, pm, an, cdv, ct, osl, hfd, lk, hcd, _, _⟩ := F.ex
  subst hfd
  refine ⟨len, fun A outer s H args us vs Q E hg hr e0 hb r hsp => ?_⟩
  have same : ∀ b o, base.get? b = some o → s.heap.get? b = some o := fun b o e => (e0.bs b o e).1
  have KX : K.In s.heap := e0.mod.kin.keeps same
  have lim : s.heap.NoLimit := e0.mod.nolimit.keeps same
  have n := len vs H Q E hsp
  obtain ⟨t, ht, hq⟩ := run cdv A outer s H vs Q E hg (hr.deeper _) hsp
  refine codeAny_call_function hr.depth (KX _ _ lk) rfl S.co S.gen rfl (PySem.W.codeRec_of KX hcd) (hb _ _ _ _ (wpAny_newFunctionEnv_cells S.kind ?_ ?_))
  · rintro ⟨y, v⟩ hy
    have := S.par y (List.of_mem_zip hy).1
    rcases this with q | q
    · exact .inl q
    · exact .inr ⟨q, PySem.W.cellsFrom_some _ _ _ (.inl q)⟩
  · rintro env he s1 inn
    subst he
    refine ⟨lim.keeps inn.toInCall.keep, codeAny_func ?_⟩
    have I0 := inv_start (CX := CX0) (E := E) S hr.hd e0 n r inn
    refine wpAny_mono (ht.nox.run [] s1 _ H _ I0 hq) (fun fl s2 g => ?_) fun e s2 g => g
    cases fl with
    | next =>
      obtain ⟨σ2, H2, J, q⟩ := g
      exact ⟨.non, H2, J.os, J.bare, J.base, J.hok, rfl, q⟩
    | ret u =>
      obtain ⟨v, σ2, H2, J, rv, q⟩ := g
      exact ⟨v, H2, J.os, J.bare, J.base, J.hok, rv, q⟩
    | brk => obtain ⟨_, _, _, z⟩ := g; exact z.elim
    | cont => obtain ⟨_, _, _, z⟩ := g; exact z.elim
theorem fnG_D {m : M1} (F : FunD K x qual params body scope dvs kws f fd) (S : FnScope N ps scope) (hl : ∀ xs Q, m xs Q → xs.length = ps.length)
    (hbody : ∀ (cdv : Value) (A : Around) (outer : List Env) (s : Shared) (H : Hp) (E : XK), A.guards = some [] → Room k (A.deeper (envOfC qual scope s.heap.objs.size f cdv)) → PSsD (cxOf CX0 P w K mg base N qual scope f cdv A outer s H E).nox body bd)
    (hm : ∀ xs Q, m xs Q → bd { nx := fun _ => Q .none, rt := fun _ d _ => Q d } (startR N xs)) : FnG P w K mg base (k + 1) f fd ps (spD m) :=
  okG F S (fun vs H Q E ⟨G, ds, Q', e, h, hq, _⟩ => by rw [h.len]; exact hl ds Q' hq) fun cdv A outer s H vs Q E hg hr ⟨G, ds, Q', e, h, hq, kk⟩ =>
    ⟨_, hbody cdv A outer s H E hg hr, ⟨G, H, [], []⟩, G, startR N ds, _, rep_start e h, hm ds Q' hq, ⟨fun σ G' H' ρ q _ r => kk _ G' H' _ q r.toFin .non, fun σ G' H' ρ _ d v q _ r hv _ => kk d G' H' v q r.toFin hv, fun _ _ _ _ q _ _ => q.elim, fun _ _ _ _ q _ _ => q.elim⟩⟩
theorem fnG_P {m : MP} (F : FunD K x qual params body scope dvs kws f fd) (S : FnScope N ps scope) (hl : ∀ qs xs Q, m qs xs Q → xs.length + 1 = ps.length)
    (hbody : ∀ (cdv : Value) (A : Around) (outer : List Env) (s : Shared) (H : Hp) (E : XK), A.guards = some [] → Room k (A.deeper (envOfC qual scope s.heap.objs.size f cdv)) → PSsD (cxOf CX0 P w K mg base N qual scope f cdv A outer s H E).nox body bd)
    (hm : ∀ qs xs Q, m qs xs Q → bd { nx := fun ρ => pur0 ρ (Q .none), rt := fun _ d ρ => pur0 ρ (Q d) } (startP N qs xs)) : FnG P w K mg base (k + 1) f fd ps (spP m) :=
  okG F S (fun vs H Q E ⟨G, p, ws, xs, qs, ds, Q', e1, _, _, _, _, h, hq, _⟩ => by rw [e1, List.length_cons, h.len]; exact hl qs ds Q' hq) fun cdv A outer s H vs Q E hg hr ⟨G, p, ws, xs, qs, ds, Q', e1, e, gp, hx, hp, h, hq, kk⟩ => by
    subst e1
    refine ⟨_, hbody cdv A outer s H E hg hr, ⟨G, H, [p], []⟩, G, startP N qs ds, _, rep_startP e gp hx hp h, hm qs ds Q' hq, ⟨fun σ G' H' ρ q _ r => ?_, fun σ G' H' ρ _ d v q _ r hv _ => ?_, fun _ _ _ _ q _ _ => q.elim, fun _ _ _ _ q _ _ => q.elim⟩⟩
    · obtain ⟨ys, rs, a1, a2, a3⟩ := pur0_some r q
      exact kk _ rs G' H' _ ys a3 r.toFin a1 a2 .non
    · obtain ⟨ys, rs, a1, a2, a3⟩ := pur0_some r q
      exact kk d rs G' H' v ys a3 r.toFin a1 a2 hv
end
section
variable {X : Cx} {k : Nat} {f : Addr} {fd : FuncData} {ps ks : List Str} {dvs : List V} {ds : List Value} {dd : List PyData} {x : Str} {p pos : Pos} {e : Expr} {es : List Expr} {da : DN} {sp : Sp} {t : TA}
theorem pe_callG (F : FnG X.prog X.w X.K X.mg X.base k f fd ps sp) (hq : X.A.guards = some []) (hr : Room k X.A) (hg : Gl X x) (hm : X.mg x = some (.ref f)) (hk : PySem.W.keepIn X.K (.ref f) = true) (hb : Binds X.K fd ps ds) (hd : Vals dvs ds)
    (ha : PA X (e :: es) t) (hdb : (x == ("__debug__" : Str)) = false := by decide) (he : starEach (e :: es) X.env = (false, eval e X.env) :: starEach es X.env := by rfl) (hpl : (backTo pos (starEach es X.env)).any (·.1) = false := by rfl) :
    PE X (.Call (.Name x p) (e :: es) [] pos) (tCall sp dvs E0 t) := ⟨fun pins s σ H Q I h => by
  refine wpAny_Call_Name_kw (ld_glob I hg hm (PySem.W.callWith_K (h₀ := X.base) I.ok.mod.kin hk (thn (ha.run pos pins s σ H _ I h) fun us s1 ⟨vs, H1, I1, r, q⟩ => ⟨I1.kIn, ?_⟩) he hpl) hdb)
  have r2 := r.append hd
  have n := F.len _ _ _ _ q
  rw [r2.length] at n
  refine wpAny_call (codeAny_mono (F.run X.A X.stack s1 H1 ⟨us, []⟩ _ _ Q E0 hq hr I1.env0 (hb s1 us I1.kIn n) r2 q) fun r s' z => ?_)
  match r, z with
  | .error _, z => exact z.elim
  | .ok (.ret u), z => exact I1.after z⟩
theorem pd_callG {m : M1} (F : FnG X.prog X.w X.K X.mg X.base k f fd ps (spD m)) (hq : X.A.guards = some []) (hr : Room k X.A) (hm : X.mg x = some (.ref f)) (hk : PySem.W.keepIn X.K (.ref f) = true) (hb : Binds X.K fd ps ds) (hd : Vals dvs ds) (hdd : ∀ G, RpAll G dvs dd) (ha : PAD X (e :: es) da)
    (hg : Gl X x := by rfl) (hdb : (x == ("__debug__" : Str)) = false := by decide) (he : starEach (e :: es) X.env = (false, eval e X.env) :: starEach es X.env := by rfl) (hpl : (backTo pos (starEach es X.env)).any (·.1) = false := by rfl) :
    PD X (.Call (.Name x p) (e :: es) [] pos) (dCall m dd da) := pe_imp (pe_callG F hq hr hg hm hk hb hd ha hdb he hpl) fun σ H Q ⟨c, G, ρ, Q', rp, h, kk⟩ => by
  refine ⟨c, G, ρ, _, rp, h, fun xs ρ1 G1 H1 vs q1 e1 r1 hx => ?_⟩
  refine ⟨G1, xs ++ dd, _, r1.gh, hx.app (hdd G1), q1, fun d G' H' v q2 fi hv => ?_⟩
  obtain ⟨e2, r2⟩ := r1.called fi
  exact kk d ρ1 G' H' v q2 (e1.trans e2) r2 hv
theorem pd_callPG (i : Nat) {m : MP} {y : Str} {p2 : Pos} (F : FnG X.prog X.w X.K X.mg X.base k f fd ps (spP m)) (hq : X.A.guards = some []) (hr : Room k X.A) (hm : X.mg x = some (.ref f)) (hk : PySem.W.keepIn X.K (.ref f) = true) (hb : Binds X.K fd ps ds) (hd : Vals dvs ds) (hdd : ∀ G, RpAll G dvs dd) (ha : PAD X es da)
    (hN : X.N[i]? = some y := by rfl) (hv : Vis X.env.scope y := by first | exact Or.inl rfl | exact Or.inr (Or.inl rfl) | exact Or.inr (Or.inr rfl)) (hdb2 : (y == ("__debug__" : Str)) = false := by decide) (hcd : (y == ("__classdict__" : Str)) = false := by decide)
    (hg : Gl X x := by rfl) (hdb : (x == ("__debug__" : Str)) = false := by decide) (he : starEach (.Name y p2 :: es) X.env = (false, eval (.Name y p2) X.env) :: starEach es X.env := by rfl) (hpl : (backTo pos (starEach es X.env)).any (·.1) = false := by rfl) :
    PD X (.Call (.Name x p) (.Name y p2 :: es) [] pos) (dCallP m i dd da) := pe_imp (pe_callG F hq hr hg hm hk hb hd (pa_cons (pe_var hN hv hdb2 hcd) ha he) hdb he hpl) fun σ H Q ⟨c, G, ρ, Q', rp, h, kk⟩ => by
  obtain ⟨a, _, _, _, h1, _, _, _, h, _⟩ := own_call rp h
  refine ⟨_, h1, c, G, ρ, _, rp, h, fun xs ρ1 G1 H1 vs q1 e1 r1 hx => ?_⟩
  obtain ⟨a', ys, qs, put, k1, k2, k3, k4, k5, k6⟩ := own_call r1 q1
  rw [h1] at k1
  cases k1
  refine ⟨G1, a, vs ++ dvs, ys, qs, xs ++ dd, _, rfl, r1.gh, k3, k2, k4, hx.app (hdd G1), k5, fun d rs G' H' v zs q2 fi hz rz hv => ?_⟩
  exact kk d _ G' H' v q2 (e1.trans fi.g0) (k6 G' H' zs rs fi hz rz) hv
end

/-! ### the script -/
def ScrOk (K : PySem.W.Frag) (H : Hp) (a : Addr) (ns : List Int) : Prop := (∃ o, H a = some (.frz o (.lst (ns.map V.int)))) ∨ ∀ H' : Hp, SqL K H' a (ns.map V.int)
theorem scrOk_of {K : PySem.W.Frag} {H : Hp} {a : Addr} {ns : List Int} (o : Only H) (h : SqL K H a (ns.map V.int)) : ScrOk K H a ns := by
  rcases h with h | h
  · rcases h with h | h
    · rcases o a with z | ⟨ob, xs, z⟩
      · rw [z] at h; cases h
      · rw [z] at h; cases h
    · exact .inl h
  · exact .inr fun _ => .inr h
def scr (K : PySem.W.Frag) (ρ : Rho) (i : Nat) (k : List Int → Prop) : Prop := match ρ[i]? with
  | some (.scr K' ns) => K' = K ∧ k ns
  | _ => False
theorem scr_some {K : PySem.W.Frag} {c : Co} {G H : Hp} {σ : L2.St} {ρ : Rho} {i : Nat} {k : List Int → Prop} (r : Rep c G σ H ρ) (h : scr K ρ i k) : ∃ a ns, σ[i]? = some (some (.ref a)) ∧ k ns ∧ ∀ c' G' H' σ' ρ', c'.H0 = c.H0 → c'.P = c.P → Rep c' G' σ' H' ρ' → ScrOk K H' a ns := by
  unfold scr at h
  cases q : ρ[i]? with
  | none => rw [q] at h; exact h.elim
  | some s =>
    rw [q] at h
    have o := r.ok i s q
    cases s with
    | scr K' ns =>
      obtain ⟨rfl, h⟩ := h
      obtain ⟨a, h1, h2⟩ := o
      refine ⟨a, ns, h1, h, fun c' G' H' σ' ρ' z1 z2 r' => ?_⟩
      rcases h2 with ⟨o, h2, h3⟩ | h2
      · exact .inl ⟨o, r'.hh a _ (by rw [z1]; exact h2) (by rw [z2]; exact h3)⟩
      · exact .inr h2
    | _ => exact h.elim
theorem ScrOk.sq {K : PySem.W.Frag} {H : Hp} {a : Addr} {ns : List Int} (h : ScrOk K H a ns) : SqL K H a (ns.map V.int) := h.elim (fun z => .inl (.inr z)) fun z => z H
section
variable {X : Cx} {x y : Str} {p p2 pos : Pos} {e : Expr} {es : List Expr} {da : DN} {de : DE} (K : PySem.W.Frag)
def dLenS (i : Nat) : DE := fun ρ Q => scr K ρ i fun ns => Q (.int (ns.length : Int)) ρ
theorem pd_lenS (i : Nat) (hm : X.mg x = none) (hN : X.N[i]? = some y := by rfl) (hvy : Vis X.env.scope y := by first | exact Or.inl rfl | exact Or.inr (Or.inl rfl) | exact Or.inr (Or.inr rfl)) (hdy : (y == ("__debug__" : Str)) = false := by decide) (hcd : (y == ("__classdict__" : Str)) = false := by decide)
    (hg : Gl X x := by rfl) (hv : bootBuiltins x = some (.builtin "len") := by decide +kernel) (hn : x ≠ "__name__" := by decide) (hdb : (x == ("__debug__" : Str)) = false := by decide) (hs : starEach [.Name y p2] X.env = (false, eval (.Name y p2) X.env) :: starEach [] X.env := by rfl) (hpl : (backTo pos (starEach [] X.env)).any (·.1) = false := by rfl) :
    PD X (.Call (.Name x p) [.Name y p2] [] pos) (dLenS X.K i) := pe_imp (pe_callB call_len_seq hg hm hv (pa_cons (pe_var hN hvy hdy hcd) pa_nil hs) hn hdb hs hpl) fun σ H Q ⟨c, G, ρ, Q', rp, h, k⟩ => by
  obtain ⟨a, ns, h1, h2, h3⟩ := scr_some rp h
  refine ⟨_, h1, a, _, rfl, .inl (h3 c G H σ ρ rfl rfl rp).sq, ?_⟩
  rw [List.length_map]
  exact k _ ρ G H _ h2 (Ex.refl G) rp (.int _)
/-- script[lo:hi] -/
def dSlS (i : Nat) (ol oh : DO) : DN := fun ρ Q => scr K ρ i fun ns => ol ρ fun lo ρ1 => oh ρ1 fun hi ρ2 => Q (cutD (ns.map PyData.int) lo hi) ρ2
theorem pn_slS (i : Nat) {lo hi : Option Expr} {ol oh : DO} (hl : POD X lo ol) (hh : POD X hi oh) (hN : X.N[i]? = some x := by rfl) (hv : Vis X.env.scope x := by first | exact Or.inl rfl | exact Or.inr (Or.inl rfl) | exact Or.inr (Or.inr rfl)) (hd : (x == ("__debug__" : Str)) = false := by decide)
    (hcd : (x == ("__classdict__" : Str)) = false := by decide) : PN X (.Subscript (.Name x p) (.Slice lo hi none p2) pos) (dSlS X.K i ol oh) := pe_imp (pe_slice sl_list (pe_var hN hv hd hcd) hl hh) fun σ H Q ⟨c, G, ρ, Q', rp, h, k⟩ => by
  obtain ⟨a, ns, h1, h2, h3⟩ := scr_some rp h
  refine ⟨_, h1, c, G, ρ, _, rp, h2, fun lo ρ1 G1 H1 q1 e1 r1 => ⟨c, G1, ρ1, _, r1, q1, fun hi ρ2 G2 H2 q2 e2 r2 => ?_⟩⟩
  exact ⟨_, _, rfl, (h3 c G2 H2 σ ρ2 rfl rfl r2).sq, fun p hp => k _ ρ2 G2 _ p _ q2 (e1.trans e2) (r2.pinN hp) (r2.free hp) ((rp_ints ns).cut lo hi)⟩
abbrev MS := List Int → List PyData → (PyData → Prop) → Prop
/-- the first argument the script -/
def spS (m : MS) : Sp := fun vs H Q _ => ∃ G a ws ns ds Q', vs = .ref a :: ws ∧ Ex G H ∧ ScrOk K H a ns ∧ RpAll G ws ds ∧ m ns ds Q' ∧ ∀ d G' H' v, Q' d → Fin ⟨G, H, [], []⟩ G' H' → Rp G' v d → Q v H'
def dCallS (m : MS) (i : Nat) (dd : List PyData) (da : DN) : DE := fun ρ Q => scr K ρ i fun ns => da ρ fun ds ρ1 => m ns (ds ++ dd) fun d => Q d ρ1
theorem pd_callS (i : Nat) {k : Nat} {f : Addr} {fd : FuncData} {ps : List Str} {dvs : List V} {ds : List Value} {dd : List PyData} {m : MS} (F : FnOk X.prog X.w X.K X.mg X.base CX0 k f fd ps (spS X.K m)) (hr : Room k X.A) (hm : X.mg x = some (.ref f)) (hk : PySem.W.keepIn X.K (.ref f) = true) (hb : Binds X.K fd ps ds) (hd : Vals dvs ds) (hdd : ∀ G, RpAll G dvs dd) (ha : PAD X es da)
    (hN : X.N[i]? = some y := by rfl) (hv : Vis X.env.scope y := by first | exact Or.inl rfl | exact Or.inr (Or.inl rfl) | exact Or.inr (Or.inr rfl)) (hdb2 : (y == ("__debug__" : Str)) = false := by decide) (hcd : (y == ("__classdict__" : Str)) = false := by decide)
    (hg : Gl X x := by rfl) (hdb : (x == ("__debug__" : Str)) = false := by decide) (he : starEach (.Name y p2 :: es) X.env = (false, eval (.Name y p2) X.env) :: starEach es X.env := by rfl) (hpl : (backTo pos (starEach es X.env)).any (·.1) = false := by rfl) :
    PD X (.Call (.Name x p) (.Name y p2 :: es) [] pos) (dCallS X.K m i dd da) := pe_imp (pe_call F hr hg hm hk hb hd pass0 (pa_cons (pe_var hN hv hdb2 hcd) ha he) hdb he hpl) fun σ H Q ⟨c, G, ρ, Q', rp, h, kk⟩ => by
  obtain ⟨a, ns, h1, h, h3⟩ := scr_some rp h
  refine ⟨_, h1, c, G, ρ, _, rp, h, fun xs ρ1 G1 H1 vs q1 e1 r1 hx => ?_⟩
  refine ⟨G1, a, vs ++ dvs, ns, xs ++ dd, _, rfl, r1.gh, h3 c G1 H1 σ ρ1 rfl rfl r1, hx.app (hdd G1), q1, fun d G' H' v q2 fi hv => ?_⟩
  obtain ⟨e2, r2⟩ := r1.called fi
  exact kk d ρ1 G' H' v q2 (e1.trans e2) r2 hv
def startS (N : List Str) (ns : List Int) (ds : List PyData) : Rho := .scr K ns :: (ds.map Sl.val ++ List.replicate (N.length - (ds.length + 1)) Sl.no)
theorem rep_startS {G H : Hp} {a : Addr} {vs : List V} {ns : List Int} {ds : List PyData} {N : List Str} (e : Ex G H) (hs : ScrOk K H a ns) (h : RpAll G vs ds) : Rep ⟨G, H, [], []⟩ G (start N (.ref a :: vs)) H (startS K N ns ds) where
  toFin := fin_refl e
  len := by
    unfold L2.start startS
    rw [List.length_append, List.length_cons, List.length_append, List.length_map, List.length_map, List.length_replicate, List.length_replicate, List.length_cons, h.len]
    omega
  ok := fun i s q => by
    cases i with
    | zero =>
      have e := Option.some.inj q
      subst e
      exact ⟨a, rfl, hs.elim (fun ⟨o, z⟩ => .inl ⟨o, z, fun y => nomatch y⟩) .inr⟩
    | succ i =>
      have q : (ds.map Sl.val ++ List.replicate (N.length - (ds.length + 1)) Sl.no)[i]? = some s := q
      cases s with
      | no => trivial
      | val d =>
        obtain ⟨v, d', h1, h2, h3⟩ := vals_at (m := N.length - (V.ref a :: vs).length) h q (fun z => nomatch z)
        cases h2
        exact ⟨v, h1, h3⟩
      | _ => obtain ⟨v, d', h1, h2, h3⟩ := vals_at (m := 0) h q (fun z => nomatch z); cases h2
  sep := fun i j s t hij h1 h2 m1 m2 => by
    exfalso
    cases i with
    | zero =>
      have e := Option.some.inj h1
      rw [← e] at m1
      cases m1
    | succ i =>
      have h1 : (ds.map Sl.val ++ List.replicate (N.length - (ds.length + 1)) Sl.no)[i]? = some s := h1
      obtain ⟨v, d', _, h2, _⟩ := vals_at (m := 0) h h1 (fun z => by rw [z] at m1; cases m1)
      rw [h2] at m1
      cases m1
  pins := fun q hq => by cases hq
  mats := Mats.no fun i s q => by
    cases i with
    | zero =>
      have e := Option.some.inj q
      subst e
      rfl
    | succ i =>
      have q : (ds.map Sl.val ++ List.replicate (N.length - (ds.length + 1)) Sl.no)[i]? = some s := q
      cases s with
      | mat _ _ => obtain ⟨v, d', h1, h2, h3⟩ := vals_at (m := 0) h q (fun z => nomatch z); cases h2
      | _ => rfl
theorem fn_S {P : Program} {w : World} {mg : Str → Option Value} {base : Heap} {x qual : Str} {params : Arguments} {body : List Stmt} {scope : Scope} {dvs : List V} {kws : List (Str × V)} {f : Addr} {fd : FuncData} {N ps : List Str} {k : Nat} {bd : DS} {m : MS}
    (F : FunD K x qual params body scope dvs kws f fd) (S : FnScope N ps scope) (hl : ∀ ns xs Q, m ns xs Q → xs.length + 1 = ps.length)
    (hbody : ∀ (cdv : Value) (A : Around) (outer : List Env) (s : Shared) (H : Hp) (E : XK), Room k (A.deeper (envOfC qual scope s.heap.objs.size f cdv)) → PSsD (cxOf CX0 P w K mg base N qual scope f cdv A outer s H E).nox body bd)
    (hm : ∀ ns xs Q, m ns xs Q → bd { nx := fun _ => Q .none, rt := fun _ d _ => Q d } (startS K N ns xs)) : FnOk P w K mg base CX0 (k + 1) f fd ps (spS K m) :=
  F.ok S (fun vs H Q E ⟨G, a, ws, ns, ds, Q', e1, _, _, h, hq, _⟩ => by rw [e1, List.length_cons, h.len]; exact hl ns ds Q' hq) fun cdv A outer s H vs Q E hr ⟨G, a, ws, ns, ds, Q', e1, e, hs, h, hq, kk⟩ => by
    subst e1
    exact ⟨_, (hbody cdv A outer s H E hr).nox, ⟨G, H, [], []⟩, G, startS K N ns ds, _, rep_startS K e hs h, hm ns ds Q' hq, ⟨fun σ G' H' ρ q _ r => kk _ G' H' _ q r.toFin .non, fun σ G' H' ρ _ d v q _ r hv _ => kk d G' H' v q r.toFin hv, fun _ _ _ _ q _ _ => q.elim, fun _ _ _ _ q _ _ => q.elim⟩⟩
end
/-! ### the law's own def: for purse in ..: ..; return True -/
def onlyR (n i : Nat) (ns : List Int) : Rho := (List.replicate n Sl.no).set i (.pur (ns.map PyData.int))
def purAt (n i : Nat) (ok : List Int → Prop) : Rho → Prop := fun ρ => ρ.length = n ∧ ∃ ns : List Int, ρ[i]? = some (.pur (ns.map PyData.int)) ∧ ok ns
def dLaw (n i : Nat) (db : DS) : PyData → Prop := fun d => ∃ (ok : Nat → List Int → Prop) (pss : List (List Int)), d = .list (pss.map fun ns => .list (ns.map .int)) ∧ (∀ ns ∈ pss, ok 0 ns) ∧ (∀ t ns, ok t ns → ns ≠ [] ∧ ok (t + 1) ns) ∧
  ∀ t ns, t < pss.length → ok t ns → db { nx := purAt n i (ok (t + 1)), ct := purAt n i (ok (t + 1)), bk := fun _ => False, rt := fun _ _ _ => False } (onlyR n i ns)
def nilH : Hp := fun _ => none
theorem rp_lists {G : Hp} : ∀ {vs : List V} {pss : List (List Int)}, RpAll G vs (pss.map fun ns => .list (ns.map .int)) → ∀ v ∈ vs, ∃ a ns, v = .ref a ∧ G a = some (.lst (ns.map V.int)) ∧ ns ∈ pss
  | _, [], h, v, hv => by cases h; cases hv
  | _, ns :: r, h, v, hv => by
    cases h with
    | cons h1 h2 =>
      rcases List.mem_cons.mp hv with rfl | hv
      · cases h1 with
        | lst q1 q2 =>
          rw [RpAll.ints q2] at q1
          exact ⟨_, ns, rfl, q1, List.mem_cons_self⟩
      · obtain ⟨a, ms, z1, z2, z3⟩ := rp_lists h2 v hv
        exact ⟨a, ms, z1, z2, List.mem_cons_of_mem _ z3⟩
theorem rep_only {H : Hp} {a : Addr} {σ : L2.St} {i : Nat} {ns : List Int} (ha : H a = some (.lst (ns.map V.int))) (hi : σ[i]? = some (some (.ref a))) : Rep ⟨nilH, H, [a], []⟩ nilH σ H (onlyR σ.length i ns) where
  toFin := fin_refl fun _ _ h => nomatch h
  len := by unfold onlyR; rw [List.length_set, List.length_replicate]
  ok := fun j s hs => by
    rcases get_set hs with ⟨rfl, rfl, _⟩ | ⟨_, hs⟩
    · exact ⟨a, _, hi, ha, rp_ints ns, rfl, List.mem_singleton.mpr rfl⟩
    · rw [List.getElem?_replicate] at hs
      split at hs
      · cases hs; trivial
      · cases hs
  sep := fun j l s t hjl h1 h2 m1 m2 => by
    rcases get_set h1 with ⟨rfl, rfl, _⟩ | ⟨_, h1⟩
    · rcases get_set h2 with ⟨rfl, rfl, _⟩ | ⟨_, h2⟩
      · exact absurd rfl hjl
      · rw [List.getElem?_replicate] at h2
        split at h2
        · cases h2; cases m2
        · cases h2
    · rw [List.getElem?_replicate] at h1
      split at h1
      · cases h1; cases m1
      · cases h1
  pins := fun q hq => by cases hq
  mats := Mats.no fun j s hs => by
    rcases get_set hs with ⟨_, rfl, _⟩ | ⟨_, hs⟩
    · rfl
    · rw [List.getElem?_replicate] at hs
      split at hs
      · cases hs; rfl
      · cases hs
def tLaw (n i : Nat) (de : DE) (db : DS) : TS := fun D σ H => (∃ c G ρ, Rep c G σ H ρ ∧ de ρ fun d _ => dLaw n i db d) ∧ σ.length = n ∧ ∀ H', D.rt (.bl true) H'
theorem pss_law {X : Cx} (i n : Nat) {x : Str} {iter : Expr} {body : List Stmt} {px pos p3 p2 : Pos} {j : Nat} {de : DE} {db : DS} (hp : PassesOwn (model X.prog X.w) X.A X.env X.xe) (hc : X.calm = true) (hN : X.N.Nodup) (hi : PD X iter de) (hb : PSsD X body db) (hin : i < n := by decide)
    (hx : X.N[i]? = some x := by rfl) (hl : Loc X.env.scope x := by first | exact Or.inl rfl | exact Or.inr rfl) (hf : X.fn x = true ∨ X.env.scope.names.lookup x = some .local := by first | exact .inl rfl | exact .inr rfl) (hs : ∀ z, foldedSetIterable iter X.env z = pure z := by intro _; rfl) :
    PSs X [.For (.Name x px) iter body [] pos, .Return (some (.Constant (.bool true) j p2)) p3] (tLaw n i de db) :=
  pss_imp (pss_cons (ps_for hp hc (pi_list hi) (pg_name hN hx hl hf) hb hs) (pss_one (ps_ret pe_bl))) fun D σ H ⟨⟨c, G, ρ, r, h⟩, ln, fin⟩ => by
    show ∃ c G ρ Q', _
    refine ⟨c, G, ρ, _, r, h, fun d ρ1 G1 H1 v q1 e1 r1 hv => ?_⟩
    obtain ⟨ok, pss, rfl, hok, hne, step⟩ := q1
    cases hv with
    | @lst p refs _ g1 g2 =>
      refine ⟨p, rfl, ⟨_, SqL.of (r1.gh _ _ g1)⟩, ?_⟩
      have e0 := rp_lists g2
      refine for_it (walk_list (a := p) (xs := refs)) (fun t σ' H' => σ'.length = n ∧ H' p = some (.lst refs) ∧ ∀ u ∈ refs, ∃ a ns, u = .ref a ∧ H' a = some (.lst (ns.map V.int)) ∧ ok t ns) ⟨ln, r1.gh _ _ g1, fun u hu => ?_⟩ (fun _ σ' H' _ z => SqL.of z.2.1) (fun t y σ' H' H'' ht z hy => ?_) (fun σ' H' z => ?_)
      · obtain ⟨a, ns, z1, z2, z3⟩ := e0 u hu
        exact ⟨a, ns, z1, r1.gh _ _ z2, hok ns z3⟩
      · obtain ⟨rfl, hy⟩ := hy
        obtain ⟨z0, z1, z2⟩ := z
        obtain ⟨a, ns, rfl, k1, k2⟩ := z2 y (List.mem_of_getElem? hy)
        have rr := rep_only (σ := σ'.set i (some (.ref a))) (i := i) k1 (List.getElem?_set_self (by rw [z0]; exact hin))
        rw [List.length_set, z0] at rr
        have keep : ∀ σ3 G3 H3 ρ3, purAt n i (ok (t + 1)) ρ3 → Rep ⟨nilH, H'', [a], []⟩ G3 σ3 H3 ρ3 → σ3.length = n ∧ H3 p = some (.lst refs) ∧ ∀ u ∈ refs, ∃ b ms, u = .ref b ∧ H3 b = some (.lst (ms.map V.int)) ∧ ok (t + 1) ms := by
          intro σ3 G3 H3 ρ3 ⟨l0, ms, m1, m2⟩ r3
          have l3 := r3.len.symm.trans l0
          obtain ⟨a', xs, n1, n2, n3, n4, n5⟩ := r3.ok i _ m1
          have ea : a' = a := List.mem_singleton.mp n5
          subst ea
          rw [RpAll.ints n3] at n2
          have pa : p ≠ a' := fun w => by
            rw [w, k1] at z1
            cases ns with
            | nil => exact (hne _ _ k2).1 rfl
            | cons s rs =>
              have := Option.some.inj z1
              injection this with this
              rw [← this] at hy
              have hm := List.mem_of_getElem? hy
              obtain ⟨q, _, hq⟩ := List.mem_map.mp hm
              cases hq
          refine ⟨l3, r3.hh p _ z1 (fun w => pa (List.mem_singleton.mp w)), fun u hu => ?_⟩
          obtain ⟨b, ls, u1, u2, u3⟩ := z2 u hu
          by_cases w : b = a'
          · subst w
            exact ⟨b, ms, u1, n2, m2⟩
          · exact ⟨b, ls, u1, r3.hh b _ u2 (fun y => w (List.mem_singleton.mp y)), (hne _ _ u3).2⟩
        refine ⟨_, nilH, _, _, rr, step t ns (by have := g2.len; rw [List.length_map] at this; omega) k2, ⟨?_, ?_, ?_, ?_⟩⟩
        · exact fun σ3 G3 H3 ρ3 m _ r3 => keep σ3 G3 H3 ρ3 m r3
        · exact fun σ3 G3 H3 ρ3 nn d v m _ r3 _ _ => m.elim
        · exact fun σ3 G3 H3 ρ3 m _ r3 => m.elim
        · exact fun σ3 G3 H3 ρ3 m _ r3 => keep σ3 G3 H3 ρ3 m r3
      · exact fin _
end DL

set_option Elab.async false
set_option linter.all false
set_option maxRecDepth 100000
set_option maxHeartbeats 1000000
/-! DL9: the end of a law whose def is told with no guard about. -/
namespace DL
open PySem L2 Evl PyProof.Rows RZ PySem.Spec PySem.W

/-- what a law promises of a script -/
def spL (K : PySem.W.Frag) (n : Nat) : Sp := fun vs H Q _ => ∃ a ns, vs = [.ref a] ∧ ScrOk K H a ns ∧ (∀ z ∈ ns, Builtin.Int.intBits z ≤ 1048576) ∧ ns.length ≤ n ∧ ∀ H', Q (.bl true) H'
theorem ran_G {P : Program} {w : World} {mg mb : Str → Option Value} {k n : Nat} {K : PySem.W.Frag} {fa a : Addr} {fd : FuncData} {x : Str} {s1 : Shared} {H : Hp} {its : List Value} {ns : List Int}
    (KX : K.In s1.heap) (hns : s1.heap.Ns mainGlobals mg) (hb : s1.heap.Ns builtinsNs mb) (hbb : ∀ x : Str, x ≠ "__name__" → mb x = bootBuiltins x) (hlim : s1.heap.NoLimit) (hg : s1.gens = #[])
    (ha : s1.heap.get? a = some { cls := .type "list", data := .seq its.toArray }) (hr : Room k callerA) (hbind : ∀ (s : Shared) (u : Value), BindsTo s fd ⟨[u], []⟩ [(x, u)])
    (F : ∀ base : Heap, K.In base → base.Ns mainGlobals mg → FnG P w K mg base k fa fd [x] (spL K n))
    (hO : ∀ b, H b = none ∨ (b = a ∧ K.lookup a = none ∧ H a = some (.frz { cls := .type "list", data := .seq its.toArray } (.lst (ns.map V.int)))))
    (hS : ScrOk K H a ns) (hok : HOk P w H s1.heap) (hbits : ∀ z ∈ ns, Builtin.Int.intBits z ≤ 1048576) (hl : ns.length ≤ n) :
    codeAny (model P w) callerA (.call (.ref fa) ⟨[.ref a], []⟩) (fun r s' => r = .ok (.ret (.bool true)) ∧ OldK s1.heap s'.heap ∧ s'.os = s1.os ∧ AllBare s'.gens) s1 := by
  have untouched : ∀ {b : Addr} {o : Obj}, s1.heap.get? b = some o → (b ≠ a ∨ K.lookup a ≠ none) → H b = none := fun {b o} _ h => by
    rcases hO b with z | ⟨z1, z2, _⟩
    · exact z
    · exact h.elim (fun y => absurd z1 y) fun y => absurd z2 y
  have notList : ∀ {b : Addr} {o : Obj} {es : Array DictEntry} {ep : Nat}, s1.heap.get? b = some o → o.data = .dict es ep → b ≠ a := fun {b o es ep} e d z => by
    rw [z, ha] at e
    cases e
    have d2 : Data.seq its.toArray _ = Data.dict es ep := d
    cases d2
  have ns_hid : ∀ {b : Addr} {m : Str → Option Value}, s1.heap.Ns b m → (hidT s1.heap H).Ns b m := fun {b m} ⟨o, es, ep, e, d, r⟩ => ⟨o, es, ep, hidT_get e (untouched e (.inl (notList e d))), d, r⟩
  have kin : K.In (hidT s1.heap H) := fun b o e => hidT_get (KX b o e) (untouched (KX b o e) (by
    by_cases z : b = a
    · subst z
      exact .inr (by rw [e]; exact fun y => nomatch y)
    · exact .inl z))
  have env : Env0 P w K mg (hidT s1.heap H) callerA [] s1 H := by
    refine ⟨rfl, ⟨kin, ns_hid hns, ⟨mb, ns_hid hb, hbb⟩, ?_⟩, fun b o e => of_hidT e, Nat.le_of_eq (hidT_size _ _), trivial, fun b hb => (nomatch hb), hok, .of_eq hg⟩
    obtain ⟨mc, h1, h2⟩ := hlim
    exact ⟨mc, ns_hid h1, h2⟩
  have go := (F _ kin (ns_hid hns)).run callerA [] s1 H ⟨[.ref a], []⟩ [.ref a] [.ref a] (fun v _ => v = .bl true) (fun _ _ _ => False) rfl hr env (hbind s1 _) (.cons rfl .nil) ⟨a, ns, rfl, hS, hbits, hl, fun _ => rfl⟩
  refine codeAny_mono go fun r s2 z => ?_
  match r, z with
  | .error _, z => exact z.elim
  | .ok (.ret u), ⟨v, H2, os, bare, un, hok2, rv, q⟩ =>
    have q : v = .bl true := q
    rw [q] at rv
    have rv : u = Value.bool true := rv
    refine ⟨by rw [rv], OldK.of_keep fun b o e => ?_, os, bare⟩
    rcases hO b with y | ⟨y1, _, y2⟩
    · exact un.keep b o e y (fun w => nomatch w) (fun w => nomatch w)
    · subst y1
      obtain ⟨e2, _⟩ := hok2 b _ (un.frzs b _ _ y2)
      rw [ha] at e
      cases e
      exact e2
/-- the goal that the head leaves -/
theorem walk_G {l : PySem.W.OpenLaw} {n k : Nat} {q : Program} {loose : List Str} {XP : (Str → Option Value) → Heap → Prop} {YP : World → Heap → Prop} {d : DefRec} {K : Params → PySem.W.Frag} {x : Str}
    (hn : l.most = some n) (hn2 : n ≤ sizeLine) (hdf : d.params.defaults = []) (hr : Room k callerA) (hY : ∀ (w : World) (h : Heap), YP w h → (K w.params).In h)
    (F : ∀ (w : World) (mg : Str → Option Value) (fa : Addr) (h : Heap), (K w.params).In h → h.Ns mainGlobals mg → mg d.name = some (.ref fa) →
      ∃ fd : FuncData, (∀ (s : Shared) (u : Value), BindsTo s fd ⟨[u], []⟩ [(x, u)]) ∧ ∀ base : Heap, (K w.params).In base → base.Ns mainGlobals mg → FnG l.prog w (K w.params) mg base k fa fd [x] (spL (K w.params) n)) :
    PySem.W.WalkO q loose XP YP l.row.toRowW d [] (fun f vs => PySem.call f vs) :=
  Att.attach_callB hn hdf fun w s0 s1 mg mb fa o pm cd doc a vs ns G Y ho hd hcd hmg hobj hints hlen hbits hg => by
    have KX := hY w _ Y
    obtain ⟨fd, hb, hF⟩ := F w mg fa _ KX G.T.g hmg
    have rv := vals_ints hints
    have hz : (ns.map V.int).length ≤ sizeLine := by rw [List.length_map]; exact Nat.le_trans hlen hn2
    cases hk : (K w.params).lookup a with
    | some ob =>
      have e := KX a ob hk
      rw [hobj] at e
      cases e
      refine ran_G (H := fun _ => none) (ns := ns) KX G.T.g G.T.b G.T.builtins G.T.nolimit hg hobj hr hb hF (fun b => .inl rfl) (.inr fun H' => .inr ⟨_, vs.toArray, _, hk, rfl, rfl, rfl, ?_, by simpa using rv⟩) (fun b u z => nomatch (show (none : Option HO) = some u from z)) hbits hlen
      rw [List.size_toArray, hints.length]
      exact Nat.le_trans hlen hn2
    | none =>
      refine ran_G (H := fun b => if b = a then some (.frz { cls := .type "list", data := .seq vs.toArray } (.lst (ns.map V.int))) else none) (ns := ns) KX G.T.g G.T.b G.T.builtins G.T.nolimit hg hobj hr hb hF (fun b => ?_) (.inl ⟨_, if_pos rfl⟩) (fun b u z => ?_) hbits hlen
      · by_cases y : b = a
        · exact .inr ⟨y, hk, if_pos rfl⟩
        · exact .inl (if_neg y)
      · by_cases y : b = a
        · have z2 := (if_pos y).symm.trans z
          cases z2
          subst y
          exact ⟨hobj, hz, vs, _, rv, hobj⟩
        · have z2 := (if_neg y).symm.trans z
          cases z2
end DL

set_option Elab.async false
set_option linter.all false
set_option maxRecDepth 100000
set_option maxHeartbeats 1000000
/-! DL10: what is told is spoilt. -/
namespace DL
open PySem L2 Evl PyProof.Rows RZ

mutual
theorem TrS.lists {G : Hp} : ∀ (d : PyData) (v : V) (S : List Addr), TrS G v d S → ∀ a ∈ S, ∃ ys, G a = some (.lst ys)
  | .none, _, _, h, a, ha => by cases h; cases ha
  | .bool b, _, _, h, a, ha => by cases h; cases ha
  | .int i, _, _, h, a, ha => by cases h; cases ha
  | .str x, _, _, h, a, ha => by cases h; cases ha
  | .list ds, _, _, h, a, ha => by
    cases h with
    | lst h1 h2 =>
      rcases List.mem_append.mp ha with ha | ha
      · exact TrSAll.lists ds _ _ h2 a ha
      · rw [List.mem_singleton.mp ha]
        exact ⟨_, h1⟩
  | .tuple ds, _, _, h, a, ha => by
    cases h with
    | tup h1 h2 => exact TrSAll.lists ds _ _ h2 a ha
  | .dict _, _, _, h, _, _ => nomatch h
theorem TrSAll.lists {G : Hp} : ∀ (ds : List PyData) (vs : List V) (S : List Addr), TrSAll G vs ds S → ∀ a ∈ S, ∃ ys, G a = some (.lst ys)
  | [], _, _, h, a, ha => by cases h; cases ha
  | d :: ds, _, _, h, a, ha => by
    cases h with
    | cons h1 h2 =>
      rcases List.mem_append.mp ha with ha | ha
      · exact TrS.lists d _ _ h1 a ha
      · exact TrSAll.lists ds _ _ h2 a ha
end
theorem TrSAll.len {G : Hp} : ∀ {vs : List V} {ds : List PyData} {S : List Addr}, TrSAll G vs ds S → vs.length = ds.length
  | _, _, _, .nil => rfl
  | _, _, _, .cons _ t => by rw [List.length_cons, List.length_cons, TrSAll.len t]
theorem TrSAll.at {G : Hp} : ∀ {vs : List V} {ds : List PyData} {S : List Addr} {i : Nat} {v : V}, TrSAll G vs ds S → vs[i]? = some v → ∃ d S1 S2 S3, d ∈ ds ∧ S = S1 ++ (S2 ++ S3) ∧ TrS G v d S2 ∧ TrSAll G (vs.take i) (ds.take i) S1 ∧ TrSAll G (vs.drop (i + 1)) (ds.drop (i + 1)) S3
  | _, _, _, i, _, .nil, h => by simp at h
  | _, _, _, 0, _, .cons (S := S) (T := T) r t, h => by
    have e := Option.some.inj h
    subst e
    exact ⟨_, [], S, T, List.mem_cons_self, rfl, r, .nil, t⟩
  | _, _, _, i + 1, _, .cons (S := S) (T := T) r t, h => by
    obtain ⟨d, S1, S2, S3, h1, h2, h3, h4, h5⟩ := TrSAll.at (i := i) t (by simpa using h)
    exact ⟨d, S ++ S1, S2, S3, List.mem_cons_of_mem _ h1, by rw [h2, List.append_assoc], h3, .cons r h4, h5⟩
/-- only the lists of S have changed, and they are lists still -/
structure Chg (H H' : Hp) (S : List Addr) : Prop where
  keep : ∀ x o, H x = some o → x ∉ S → H' x = some o
  lst : ∀ x ∈ S, ∃ ys, H' x = some (.lst ys)
theorem Chg.trans {H H1 H2 : Hp} {S T : List Addr} (a : Chg H H1 S) (b : Chg H1 H2 T) (n : ∀ x ∈ S, x ∉ T) : Chg H H2 (S ++ T) where
  keep := fun x o h m => b.keep x o (a.keep x o h fun z => m (List.mem_append_left _ z)) fun z => m (List.mem_append_right _ z)
  lst := fun x h => by
    rcases List.mem_append.mp h with h | h
    · obtain ⟨ys, e⟩ := a.lst x h
      exact ⟨ys, b.keep x _ e (n x h)⟩
    · exact b.lst x h
theorem Chg.of {H H' : Hp} (e : Ex H H') : Chg H H' [] := ⟨fun x o h _ => e x o h, fun x h => nomatch h⟩
def spoS (n : Nat) : Sp := fun vs H Q _ => ∃ G v d S, vs = [v] ∧ Ex G H ∧ TrS G v d S ∧ S.Nodup ∧ fitD n d = true ∧ ∀ H', Chg H H' S → Q .non H'
def moreS : Str := PySem.Str.ofString "MORE"
/-- isinstance(thing, list), whatever has changed below -/
def tI3 (K : PySem.W.Frag) : TT := tB (tCB (rIsi K) (tCons (tVar 0) (tCons (tC (.ty "list")) tNil)))
def tSpo (K : PySem.W.Frag) (n : Nat) : TS := tSeq (tIfS (tT (dB (dIs1 "dict" (dRd 0)))) tNever tNext)
 (tSeq (tIfS (tT (dB (dIsTs ["list", "tuple"] (dRd 0)))) (tFor (fun σ H R => iList K (tVar 0) σ H R ∨ iTup K (tVar 0) σ H R) (gName 2) (tDrop (tCall (spoS n) [] E0 (tCons (tVar 2) tNil)))) tNext)
  (tIfS (tI3 K) (tDrop (tBM K "list" rAppend (tVar 0) (tCons (tC (.str moreS)) tNil))) tNext))
/-- the turns -/
theorem spo_loop {n : Nat} {G H : Hp} {xs : List V} {ds : List PyData} {S : List Addr} {J : It} {Gd : Hp → Prop} {D : Ends} {σ : L2.St} {v : V} (w : Walk J xs.length Gd (YAt xs)) (e : Ex G H) (tr : TrSAll G xs ds S) (nd : S.Nodup) (fit : fitAll n ds = true)
    (hG : ∀ H', (∀ x o, H x = some o → x ∉ S → H' x = some o) → Gd H') (l : σ.length = 3) (h0 : σ[0]? = some (some v)) (nx : ∀ σ' H', σ'.length = 3 → σ'[0]? = some (some v) → Chg H H' S → D.nx σ' H') :
    ∃ W : Nat → Nat → L2.St → Hp → Prop, (∃ m, W 0 m σ H) ∧ ∀ i m σ H, W i m σ H →
      (J.stop i H ∧ D.nx σ H) ∨ (J.go i H ∧ ∃ N : L2.St → Hp → Prop, (∀ σ' H', N σ' H' → ∃ m', m' < m ∧ W (i + 1) m' σ' H') ∧ ∀ x H', J.yld i H x H' → gName 2 x σ H' fun σ2 H2 => (tDrop (tCall (spoS n) [] E0 (tCons (tVar 2) tNil))) { D with nx := N, ct := N, bk := D.nx } σ2 H2) := by
  refine for_it w (fun i σ' H' => σ'.length = 3 ∧ σ'[0]? = some (some v) ∧ ∃ A B, S = A ++ B ∧ Chg H H' A ∧ TrSAll G (xs.drop i) (ds.drop i) B) ⟨l, h0, [], S, rfl, Chg.of (Ex.refl H), tr⟩ (fun i σ' H' _ ⟨_, _, A, B, es, ch, _⟩ => hG H' fun x o h m => ch.keep x o h fun z => m (by rw [es]; exact List.mem_append_left _ z)) (fun i x σ' H' H'' hi p y => ?_) (fun σ' H' p => ?_)
  · obtain ⟨rfl, hy⟩ := y
    obtain ⟨p1, p2, A, B, es, ch, tB⟩ := p
    have hy0 : (xs.drop i)[0]? = some x := by rw [List.getElem?_drop]; exact hy
    obtain ⟨d, S1, S2, S3, hd, eB, t2, t1, t3⟩ := tB.at hy0
    have e1 : S1 = [] := by
      rw [List.take_zero] at t1
      cases t1
      rfl
    subst e1
    rw [List.nil_append] at eB
    subst eB
    subst es
    have hdd : d ∈ ds := List.mem_of_mem_drop hd
    show ∃ v, _
    refine ⟨x, ?_, ?_⟩
    · exact List.getElem?_set_self (by rw [p1]; decide)
    have disA : ∀ a ∈ A, a ∉ S2 := fun a h1 h2 => (List.nodup_append.mp nd).2.2 a h1 a (List.mem_append_left _ h2) rfl
    refine ⟨fun y => if y ∈ A then none else G y, x, d, S2, rfl, fun y o h => ?_, ?_, ?_, fitAll_mem fit d hdd, fun H3 c3 => ?_⟩
    · by_cases z : y ∈ A
      · have h : (if y ∈ A then none else G y) = some o := h
        rw [if_pos z] at h; cases h
      · have h : (if y ∈ A then none else G y) = some o := h
        rw [if_neg z] at h
        exact ch.keep y o (e y o h) z
    · refine TrS.to d x S2 t2 (fun a ys h => ?_) fun a ha o h => ?_
      · show (if a ∈ A then none else G a) = _
        rw [if_neg ?_]
        · exact h
        · intro z
          obtain ⟨zs, hz⟩ := TrSAll.lists _ _ _ tr a (List.mem_append_left _ z)
          rw [h] at hz
          cases hz
      · show (if a ∈ A then none else G a) = _
        rw [if_neg fun z => disA a z ha]
        exact h
    · exact (List.nodup_append.mp ((List.nodup_append.mp nd).2.1)).1
    · refine ⟨by rw [List.length_set]; exact p1, by rw [List.getElem?_set_ne (by decide)]; exact p2, A ++ S2, S3, by rw [List.append_assoc], ch.trans c3 disA, ?_⟩
      rw [List.drop_drop, List.drop_drop] at t3
      exact t3
  · obtain ⟨p1, p2, A, B, es, ch, tB⟩ := p
    rw [List.drop_length] at tB
    cases hB : ds.drop xs.length with
    | nil =>
      rw [hB] at tB
      cases tB
      rw [List.append_nil] at es
      subst es
      exact nx σ' H' p1 p2 ch
    | cons _ _ =>
      rw [hB] at tB
      cases tB
theorem isT_dict {G : Hp} {v : V} {d : PyData} {S : List Addr} (h : TrS G v d S) : isT d "dict" = false := by
  cases d with
  | dict _ => nomatch h
  | _ => rfl
theorem spo_goal {K : PySem.W.Frag} {n : Nat} {N : List Str} (hN : N.length = 3) {vs : List V} {H : Hp} {Q : VK} {E : XK} (h : spoS (n + 1) vs H Q E) : tSpo K n { nx := fun _ H' => Q .non H', rt := Q } (start N vs) H := by
  obtain ⟨G, v, d, S, rfl, e, tr, nd, fit, kq⟩ := h
  have es : start N [v] = [some v, Option.none, Option.none] := by
    unfold L2.start
    rw [hN]
    rfl
  have r0 : Rep ⟨G, H, [], []⟩ G (start N [v]) H (startR N [d]) := rep_start e (.cons (TrS.rp d v S tr) .nil)
  have er : startR N [d] = [.val d, .no, .no] := by
    unfold startR
    rw [hN]
    rfl
  rw [es] at r0 ⊢
  rw [er] at r0
  show tT _ _ _ _
  refine ⟨_, G, _, fun b _ => b = false, r0, isT_dict tr, fun b ρ1 G1 H1 q1 e1 r1 => ?_⟩
  subst q1
  have h01 : Ex H H1 := fun a o z => r1.hh a o z (fun y => nomatch y)
  show tT _ _ _ _
  have r1 : Rep ⟨G, H1, [], []⟩ G [some v, Option.none, Option.none] H1 [.val d, .no, .no] := by
    have := rep_start (N := N) (e.trans h01) (.cons (TrS.rp d v S tr) .nil)
    rw [es, er] at this
    exact this
  refine ⟨_, G, _, fun b _ => b = (isT d "list" || (isT d "tuple" || false)), r1, rfl, fun b ρ2 G2 H2 q2 e2 r2 => ?_⟩
  have h12 : Ex H1 H2 := fun a o z => r2.hh a o z (fun y => nomatch y)
  have eH2 : Ex G H2 := (e.trans h01).trans h12
  -- the last test and what it leads to
  have last : ∀ {σ : L2.St} {Hm : Hp}, σ.length = 3 → σ[0]? = some (some v) → ∀ S' : List Addr, Chg H2 Hm S' → ((isT d "list" = false ∧ S = S') ∨ ∃ a xs, v = .ref a ∧ isT d "list" = true ∧ S = S' ++ [a] ∧ G a = some (.lst xs) ∧ a ∉ S' ∧ xs.length ≤ 100000) →
      (tIfS (tI3 K) (tDrop (tBM K "list" rAppend (tVar 0) (tCons (tC (.str moreS)) tNil))) tNext) { nx := fun _ H' => Q .non H', rt := Q } σ Hm := by
    intro σ Hm lσ hσ S' ch cs
    have rd0 : Rv G H v d := .inl (TrS.rp d v S tr)
    have ty : TyX K Hm v (.type (kindD d)) := by
      cases tr with
      | non => exact .base .non
      | bl b => exact .base (.bl b)
      | int i => exact .base (.int i)
      | str x => exact .base (.str x)
      | @lst a xs ds T g1 g2 =>
        rcases cs with ⟨z, _⟩ | ⟨a', xs', z1, z2, z3, z4, z5, _⟩
        · cases z
        · cases z1
          exact .base (.lst (ch.keep a _ (eH2 _ _ z4) z5))
      | @tup a xs ds T g1 g2 =>
        rcases cs with ⟨_, z⟩ | ⟨a', xs', z1, z2, z3, z4, z5, _⟩
        · subst z
          refine .base (.tup (ch.keep a _ (eH2 _ _ g1) fun m => ?_))
          obtain ⟨ys, hy⟩ := TrSAll.lists _ _ _ g2 a m
          rw [g1] at hy
          cases hy
        · cases z2
    show tI3 K _ _ _
    refine ⟨v, hσ, v, .ty "list", _, _, _, rfl, .ty "list", ty, kit_is (T := "list") (by decide) rd0, _, rfl, ?_⟩
    rcases cs with ⟨z, zs⟩ | ⟨a, xs, z1, z2, z3, z4, z5, z6⟩
    · rw [z]
      rw [if_neg (by decide)]
      show Q .non Hm
      refine kq Hm ⟨fun x o hx m => ch.keep x o (h12 _ _ (h01 _ _ hx)) (by rw [← zs]; exact m), fun x hx => ch.lst x (by rw [← zs]; exact hx)⟩
    · rw [z2]
      rw [if_pos rfl]
      have k1 := ch.keep a _ (eH2 _ _ z4) z5
      subst z1
      refine ⟨.ref a, hσ, Or.inl ⟨rfl, xs, SqL.of k1⟩, a, xs, _, rfl, rfl, k1, Nat.lt_of_le_of_lt z6 (by unfold sizeLine; decide), ?_⟩
      show Q .non _
      refine kq _ ⟨fun x o hx m => ?_, fun x hx => ?_⟩
      · rw [z3] at m
        rw [upd_ne fun y => m (List.mem_append_right _ (List.mem_singleton.mpr y))]
        exact ch.keep x o (h12 _ _ (h01 _ _ hx)) fun y => m (List.mem_append_left _ y)
      · rw [z3] at hx
        by_cases y : x = a
        · rw [y]
          exact ⟨_, upd_same⟩
        · rcases List.mem_append.mp hx with hx | hx
          · rw [upd_ne y]
            exact ch.lst x hx
          · exact absurd (List.mem_singleton.mp hx) y
  subst q2
  show (if _ = true then (_ : Prop) else _)
  have l3 : ([some v, Option.none, Option.none] : L2.St).length = 3 := rfl
  cases tr with
  | non => 
    rw [if_neg (fun z => nomatch z)]
    exact last (σ := [some _, Option.none, Option.none]) rfl rfl [] (Chg.of (Ex.refl H2)) (.inl ⟨rfl, rfl⟩)
  | bl b => 
    rw [if_neg (fun z => nomatch z)]
    exact last (σ := [some _, Option.none, Option.none]) rfl rfl [] (Chg.of (Ex.refl H2)) (.inl ⟨rfl, rfl⟩)
  | int i => 
    rw [if_neg (fun z => nomatch z)]
    exact last (σ := [some _, Option.none, Option.none]) rfl rfl [] (Chg.of (Ex.refl H2)) (.inl ⟨rfl, rfl⟩)
  | str x => 
    rw [if_neg (fun z => nomatch z)]
    exact last (σ := [some _, Option.none, Option.none]) rfl rfl [] (Chg.of (Ex.refl H2)) (.inl ⟨rfl, rfl⟩)
  | @lst a xs ds T g1 g2 =>
    have f1 : (decide (ds.length ≤ 100000) && fitAll n ds) = true := by unfold fitD at fit; exact fit
    rw [Bool.and_eq_true, decide_eq_true_eq] at f1
    have nd1 := List.nodup_append.mp nd
    have na : a ∉ T := fun z => nd1.2.2 a z a (List.mem_singleton.mpr rfl) rfl
    rw [if_pos (by rfl)]
    refine .inl ⟨.ref a, rfl, a, rfl, ⟨xs, SqL.of (eH2 _ _ g1)⟩, ?_⟩
    refine spo_loop (S := T) walk_list eH2 g2 nd1.1 f1.2 (fun H' k => SqL.of (k a _ (eH2 _ _ g1) na)) rfl rfl fun σ' H' l' h' c' => ?_
    exact last l' h' T c' (.inr ⟨a, xs, rfl, rfl, rfl, g1, na, by rw [g2.len]; exact f1.1⟩)
  | @tup a xs ds T g1 g2 =>
    have f1 : (decide (ds.length ≤ 100000) && fitAll n ds) = true := by unfold fitD at fit; exact fit
    rw [Bool.and_eq_true, decide_eq_true_eq] at f1
    have na : a ∉ S := fun m => by
      obtain ⟨ys, hy⟩ := TrSAll.lists _ _ _ g2 a m
      rw [g1] at hy
      cases hy
    rw [if_pos (by rfl)]
    refine .inr ⟨.ref a, rfl, a, rfl, ⟨xs, SqT.of (eH2 _ _ g1)⟩, ?_⟩
    refine spo_loop (S := S) walk_tup eH2 g2 nd f1.2 (fun H' k => SqT.of (k a _ (eH2 _ _ g1) na)) rfl rfl fun σ' H' l' h' c' => ?_
    exact last l' h' S c' (.inl ⟨rfl, rfl⟩)

/-! ### the block: told = ..; if ..: return False; _law_spoilt(told) -/
def toBas : Sl → Sl
  | .val d => .bas d
  | _ => .no
def unBas : Sl → Sl
  | .bas d => .val d
  | _ => .no
theorem unBas_mt (s : Sl) : (unBas s).mt = false := by cases s <;> rfl
theorem rep_nest {c : Co} {G H : Hp} {σ : L2.St} {ρ : Rho} (r : Rep c G σ H ρ) : Rep ⟨G, H, [], []⟩ G σ H (ρ.map toBas) where
  toFin := fin_refl r.gh
  len := by rw [List.length_map, r.len]
  ok := fun i s h => by
    rw [List.getElem?_map] at h
    cases q : ρ[i]? with
    | none => rw [q] at h; cases h
    | some t =>
      rw [q] at h
      cases h
      have o := r.ok i t q
      cases t with
      | val d => exact o
      | _ => trivial
  sep := fun i j s t hij h1 h2 m1 m2 => by
    rw [List.getElem?_map] at h1
    cases q : ρ[i]? with
    | none => rw [q] at h1; cases h1
    | some u =>
      rw [q] at h1
      cases h1
      cases u <;> cases m1
  pins := fun q hq => nomatch hq
  mats := Mats.no fun i s h => by
    rw [List.getElem?_map] at h
    cases q : ρ[i]? with
    | none => rw [q] at h; cases h
    | some u =>
      rw [q] at h
      cases h
      cases u <;> rfl
theorem rep_back {c : Co} {G H G2 H2 H3 : Hp} {σ σ2 : L2.St} {ρ ρ2 : Rho} {S : List Addr} (r : Rep c G σ H ρ) (r2 : Rep ⟨G, H, [], []⟩ G2 σ2 H2 ρ2) (ch : Chg H2 H3 S) (new : ∀ a ∈ S, H a = none) : Rep c G σ2 H3 (ρ2.map unBas) := by
  have up : Ex H H3 := fun a o h => ch.keep a o (r2.hh a o h (fun z => nomatch z)) fun z => by rw [new a z] at h; cases h
  refine ⟨⟨r.g0, r.fr, r.gh.trans up, fun a o h1 h2 => up _ _ (r.hh a o h1 h2), fun a h z => ?_⟩, by rw [List.length_map, r2.len], fun i s h => ?_, fun i j s t _ h1 _ m1 _ => ?_, fun q hq => ?_, Mats.no fun i s h => ?_⟩
  rotate_left 4
  · rw [List.getElem?_map] at h
    cases q : ρ2[i]? with
    | none => rw [q] at h; cases h
    | some u =>
      rw [q] at h
      cases h
      cases u <;> rfl
  · cases y : H a with
    | none => exact r.dom a h y
    | some o => rw [up a o y] at z; cases z
  · rw [List.getElem?_map] at h
    cases q : ρ2[i]? with
    | none => rw [q] at h; cases h
    | some t =>
      rw [q] at h
      cases h
      have o := r2.ok i t q
      cases t with
      | bas d => exact o
      | _ => trivial
  · rw [List.getElem?_map] at h1
    cases q : ρ2[i]? with
    | none => rw [q] at h1; cases h1
    | some u =>
      rw [q] at h1
      cases h1
      rw [unBas_mt] at m1
      cases m1
  · obtain ⟨h1, h2, _⟩ := r.pins q hq
    refine ⟨up _ _ h1, h2, fun i s h m => ?_⟩
    rw [List.getElem?_map] at h
    cases y : ρ2[i]? with
    | none => rw [y] at h; cases h
    | some u =>
      rw [y] at h
      cases h
      rw [unBas_mt] at m
      cases m
def dBlk (i n : Nat) (db dr : DS) : DS := fun D ρ => db { nx := fun ρ2 => ∃ d, ρ2[i]? = some (.tld d) ∧ fitD n d = true ∧ dr D (ρ2.map unBas), rt := fun _ _ _ => False, bk := fun _ => False, ct := fun _ => False } (ρ.map toBas)
section
variable {X : Cx} {s3 s4 : Stmt} {e5 : Expr} {p5 : Pos} {rest : List Stmt} {d3 d4 dr : DS}
theorem pssd_blk2 (i n : Nat) (h3 : PSD X s3 d3) (h4 : PSD X s4 d4) (h5 : PE X e5 (tCall (spoS n) [] E0 (tCons (tVar i) tNil))) (hr : PSsD X rest dr) (hs : swapsWith e5 none p5.line X.env = pure false := by rfl) :
    PSsD X (s3 :: s4 :: .Expr e5 p5 :: rest) (dBlk i n (dSeq d3 d4) dr) := pss_imp (pss_cons h3 (pss_cons h4 (pss_cons (ps_expr h5 hs) hr))) fun D σ H ⟨c, G, ρ, D', r, h, k⟩ => by
  refine ⟨_, G, _, _, rep_nest r, h, ⟨fun σ1 G1 H1 ρ1 q1 e1 r1 => ?_, fun _ _ _ _ _ _ _ z => z.elim, fun _ _ _ _ z => z.elim, fun _ _ _ _ z => z.elim⟩⟩
  refine ⟨_, G1, ρ1, _, r1, q1, ⟨fun σ2 G2 H2 ρ2 q2 e2 r2 => ?_, fun _ _ _ _ _ _ _ z => z.elim, fun _ _ _ _ z => z.elim, fun _ _ _ _ z => z.elim⟩⟩
  obtain ⟨d, hi, fit, q⟩ := q2
  obtain ⟨v, S, hv, tr, nd, new⟩ := r2.ok i _ hi
  refine ⟨v, hv, G2, v, d, S, rfl, r2.gh, tr, nd, fit, fun H3 ch => ?_⟩
  exact ⟨c, G, _, D', rep_back r r2 ch new, q, k⟩
end
/-- a slot gets data of its own -/
theorem Rep.setS {c : Co} {G H : Hp} {σ : L2.St} {ρ : Rho} (r : Rep c G σ H ρ) {i : Nat} {v : V} {s : Sl} (m : s.mt = false) (h : SlOk c G H (some (some v)) s) : Rep c G (σ.set i (some v)) H (ρ.set i s) where
  toFin := r.toFin
  len := by rw [List.length_set, List.length_set, r.len]
  ok := fun j t hs => by
    rcases get_set hs with ⟨rfl, rfl, hi⟩ | ⟨hj, hs⟩
    · rw [List.getElem?_set_self (by rw [← r.len]; exact hi)]
      exact h
    · rw [set_at hj]
      exact r.ok j t hs
  sep := fun j l s' t hjl h1 h2 m1 m2 => by
    rcases get_set h1 with ⟨_, rfl, _⟩ | ⟨hj, h1⟩
    · rw [m] at m1; cases m1
    · rcases get_set h2 with ⟨_, rfl, _⟩ | ⟨hl, h2⟩
      · rw [m] at m2; cases m2
      · rw [set_at hj, set_at hl]
        exact r.sep j l s' t hjl h1 h2 m1 m2
  pins := fun q hq => by
    obtain ⟨h1, h2, h3⟩ := r.pins q hq
    refine ⟨h1, h2, fun j t hs mt => ?_⟩
    rcases get_set hs with ⟨_, rfl, _⟩ | ⟨hj, hs⟩
    · rw [m] at mt; cases mt
    · rw [set_at hj]
      exact h3 j t hs mt
  mats := r.mats.sub (fun j t hs mt => by
    rcases get_set hs with ⟨_, rfl, _⟩ | ⟨hj, hs⟩
    · rw [m] at mt; cases mt
    · exact ⟨hs, set_at hj⟩) fun q hq => hq
/-- told = [a new list of what has no list in it, what has no list in it] -/
def dTld2 (i : Nat) (da db : DE) : DS := fun D ρ => da ρ fun d1 ρ1 => db ρ1 fun d2 ρ2 => ∃ ts, d1 = .list ts ∧ inertAll ts = true ∧ inert d2 = true ∧ D.nx (ρ2.set i (.tld (.list [d1, d2])))
theorem psd_tld2 {X : Cx} (i : Nat) {x : Str} {p pos lpos : Pos} {e1 e2 : Expr} {da db : DE} (hN : X.N.Nodup) (ha : PF X e1 da) (hb : PD X e2 db) (hi : X.N[i]? = some x := by rfl) (hx : Loc X.env.scope x := by first | exact Or.inl rfl | exact Or.inr rfl) (hs : swapsWith (.List [e1, e2] lpos) (some (.Name x p)) pos.line X.env = pure false := by rfl) (hf : X.fn x = true ∨ X.env.scope.names.lookup x = some .local := by first | exact .inl rfl | exact .inr rfl)
    (hs1 : starEach [e1, e2] X.env = (false, eval e1 X.env) :: starEach [e2] X.env := by rfl) (hs2 : starEach [e2] X.env = (false, eval e2 X.env) :: starEach [] X.env := by rfl) :
    PSD X (.Assign [.Name x p] (.List [e1, e2] lpos) pos) (dTld2 i da db) := ps_imp (ps_set hN hi hx (pe_lst (pa_cons ha (pa_cons hb pa_nil hs2) hs1)) hs hf) fun D σ H ⟨c, G, ρ, D', r, h, k⟩ => by
  refine ⟨c, G, ρ, _, r, h, fun d1 ρ1 G1 H1 v1 q1 f1 r1 h1 new1 => ⟨c, G1, ρ1, _, r1, q1, fun d2 ρ2 G2 H2 v2 q2 f2 r2 h2 => ⟨sz_of (by decide : 2 ≤ 100000), fun a ap => ?_⟩⟩⟩
  obtain ⟨ts, rfl, i1, i2, q⟩ := q2
  have e3 : Ex G2 (upd G2 a (.lst [v1, v2])) := Ex.new (none_up r2.gh ap)
  have r3 := r2.new (o := .lst [v1, v2]) ap
  cases h1 with
  | @lst b ys _ g1 g2 =>
    have hb : H2 b = some (.lst ys) := r2.gh _ _ (f2 _ _ g1)
    have nb : b ≠ a := fun z => by rw [z, ap] at hb; cases hb
    have fr : c.H0 a = none := (r2.free ap).1
    refine k.nx _ _ _ _ q ((f1.trans f2).trans e3) (r3.setS rfl ⟨.ref a, _, rfl, .lst upd_same (.cons (.lst (e3 _ _ (f2 _ _ g1)) (inert_trAll ts ys (g2.up (f2.trans e3)) i1)) (.cons (inert_tr d2 v2 (h2.up e3) i2) .nil)), ?_, fun y hy => ?_⟩)
    · show ([b, a] : List Addr).Nodup
      exact List.nodup_cons.mpr ⟨fun z => nb (List.mem_singleton.mp z), List.nodup_cons.mpr ⟨(fun z => (nomatch z)), List.nodup_nil⟩⟩
    · have hy : y ∈ [b, a] := hy
      rcases List.mem_cons.mp hy with rfl | hy
      · exact (new1 _ rfl).1
      · rw [List.mem_singleton.mp hy]
        exact fr
end DL

set_option Elab.async false
set_option linter.all false
set_option maxRecDepth 100000
set_option maxHeartbeats 1000000
/-! DL11: small things for the printed texts. -/
namespace DL
open PySem L2 Evl PyProof.Rows RZ
theorem u1 {k : Nat} {A : Around} (r : Room k A) : A.units + 1 < cLine := by have := r.un; omega
theorem u65 {k : Nat} {A : Around} (r : Room k A) : A.units + 65 < cLine := by have := r.un; omega
section
variable {X : Cx} {a b : Expr} {pos : Pos} {de : DE} {op : CmpOp}
theorem ptd_pc (h : PC X op a b (tD de)) (h1 : behindInMarks op b = false := by first | exact nobehind _ (by decide) (by decide) | rfl) : PTD X (.Compare a [op] [b] pos) (dB de) := pt_imp (pt_cmp h h1) fun _ _ _ h => tb_core h
theorem pd_pc (h : PC X op a b (tD de)) (h1 : behindInMarks op b = false := by first | exact nobehind _ (by decide) (by decide) | rfl) : PD X (.Compare a [op] [b] pos) de := pe_cmp h h1
end
theorem spo0 {P : Program} {w : World} {K : PySem.W.Frag} {mg : Str → Option Value} {base : Heap} {x qual : Str} {params : Arguments} {body : List Stmt} {scope : Scope} {dvs : List V} {kws : List (Str × V)} {f : Addr} {fd : FuncData} {N : List Str} {p : Str} {k : Nat} (F : FunD K x qual params body scope dvs kws f fd) (S : FnScope N [p] scope) : FnOk P w K mg base CX0 (k + 1) f fd [p] (spoS 0) :=
  F.ok S (fun vs H Q E ⟨_, _, _, _, h, _⟩ => by rw [h]; rfl) fun cdv A outer s H vs Q E hr ⟨_, _, d, _, _, _, _, _, h, _⟩ => by
    unfold fitD at h
    cases h
theorem spo1 {P : Program} {w : World} {K : PySem.W.Frag} {mg : Str → Option Value} {base : Heap} {x qual : Str} {params : Arguments} {body : List Stmt} {scope : Scope} {dvs : List V} {kws : List (Str × V)} {f : Addr} {fd : FuncData} {N : List Str} {p : Str} {k n : Nat} (F : FunD K x qual params body scope dvs kws f fd) (S : FnScope N [p] scope) (hN : N.length = 3)
    (hb : ∀ (cdv : Value) (A : Around) (outer : List Env) (s : Shared) (H : Hp) (E : XK), Room k (A.deeper (envOfC qual scope s.heap.objs.size f cdv)) → PSs (cxOf CX0 P w K mg base N qual scope f cdv A outer s H E).nox body (tSpo K n)) : FnOk P w K mg base CX0 (k + 1) f fd [p] (spoS (n + 1)) :=
  F.ok S (fun vs H Q E ⟨_, _, _, _, h, _⟩ => by rw [h]; rfl) fun cdv A outer s H vs Q E hr h => ⟨_, (hb cdv A outer s H E hr).nox, spo_goal hN h⟩
/-- from the law's own def -/
theorem law_D {P : Program} {w : World} {K : PySem.W.Frag} {mg : Str → Option Value} {base : Heap} {x qual : Str} {params : Arguments} {body : List Stmt} {scope : Scope} {kws : List (Str × V)} {f : Addr} {fd : FuncData} {N : List Str} {p : Str} {k n i mst : Nat} {de : DE} {db : DS} (F : FunD K x qual params body scope [] kws f fd) (S : FnScope N [p] scope) (hN : N.length = n)
    (hb : ∀ (cdv : Value) (A : Around) (outer : List Env) (s : Shared) (H : Hp) (E : XK), A.guards = some [] → Room k (A.deeper (envOfC qual scope s.heap.objs.size f cdv)) → PSs (cxOf CX0 P w K mg base N qual scope f cdv A outer s H E).nox body (tLaw n i de db))
    (hm : ∀ ns : List Int, ns.length ≤ mst → (∀ z ∈ ns, Builtin.Int.intBits z ≤ 1048576) → de (startS K N ns []) fun d _ => dLaw n i db d) : FnG P w K mg base (k + 1) f fd [p] (spL K mst) :=
  okG F S (fun vs H Q E ⟨_, _, h, _⟩ => by rw [h]; rfl) fun cdv A outer s H vs Q E hg hr ⟨a, ns, e1, hs, hbits, hl, q⟩ => by
    subst e1
    refine ⟨_, hb cdv A outer s H E hg hr, ⟨⟨nilH, H, [], []⟩, nilH, _, rep_startS K (fun _ _ z => nomatch z) hs .nil, hm ns hl hbits⟩, ?_, q⟩
    unfold L2.start
    rw [List.length_append, List.length_map, List.length_replicate, hN]
    have : [p].length ≤ N.length := by
      have := congrArg List.length S.pre
      rw [List.length_take] at this
      omega
    rw [hN] at this
    simp at this ⊢
    omega
/-- the end's premise, from the facts of the top -/
theorem end_F {P : Program} {w : World} {K : PySem.W.Frag} {mg : Str → Option Value} {f : Addr} {fd : FuncData} {p x qual : Str} {params : Arguments} {body : List Stmt} {scope : Scope} {k n : Nat} {kws : List (Str × V)} (F : FunD K x qual params body scope [] kws f fd)
    (hb : Binds K fd [p] []) (h : ∀ base : Heap, K.In base → base.Ns mainGlobals mg → FnG P w K mg base k f fd [p] (spL K n)) (hk : ∀ (s : Shared) (u : Value), BindsTo s fd ⟨[u], []⟩ [(p, u)]) :
    ∃ fd : FuncData, (∀ (s : Shared) (u : Value), BindsTo s fd ⟨[u], []⟩ [(p, u)]) ∧ ∀ base : Heap, K.In base → base.Ns mainGlobals mg → FnG P w K mg base k f fd [p] (spL K n) := ⟨fd, hk, h⟩
theorem rep_two {c : Co} {G H : Hp} {σ : L2.St} {ρ : Rho} {i j : Nat} {p q : Addr} {xs : List V} {ds : List PyData} (r2 : Rep { c with pin := (q, .lst xs) :: (p, .dK []) :: c.pin } G σ H ρ) (fp : freeAt c p) (f : freeAt { c with pin := (p, .dK []) :: c.pin } q) (hx : RpAll G xs ds) :
    Rep c G ((σ.set i (some (.ref p))).set j (some (.ref q))) H ((ρ.set i (.dic [])).set j (.own ds)) := by
  have a1 := r2.pins (q, .lst xs) List.mem_cons_self
  have a2 := r2.pins (p, .dK []) (List.mem_cons_of_mem _ List.mem_cons_self)
  have hpq : p ≠ q := f.2 (p, .dK []) List.mem_cons_self
  have r3 : Rep { c with pin := (p, .dK []) :: (q, .lst xs) :: c.pin } G σ H ρ := by
    refine ⟨⟨r2.g0, r2.fr, r2.gh, r2.hh, r2.dom⟩, r2.len, fun i s h => ?_, r2.sep, fun z hz => ?_, r2.mats.sub (fun _ _ h _ => ⟨h, rfl⟩) fun z hz => ?_⟩
    rotate_left 2
    · rcases List.mem_cons.mp hz with rfl | hz
      · exact List.mem_cons_of_mem _ List.mem_cons_self
      · rcases List.mem_cons.mp hz with rfl | hz
        · exact List.mem_cons_self
        · exact List.mem_cons_of_mem _ (List.mem_cons_of_mem _ hz)
    · have := r2.ok i s h
      cases s <;> exact this
    · rcases List.mem_cons.mp hz with rfl | hz
      · exact a2
      · rcases List.mem_cons.mp hz with rfl | hz
        · exact a1
        · exact r2.pins z (List.mem_cons_of_mem _ (List.mem_cons_of_mem _ hz))
  have r4 := Rep.setM (c := { c with pin := (q, .lst xs) :: c.pin }) (i := i) r3 (s := .dic []) rfl ⟨p, [], rfl, a2.1, .nil, a2.2.1, fp.1⟩ fun z hz => by
    rcases List.mem_cons.mp hz with rfl | hz
    · exact fun y => hpq y.symm
    · exact fp.2 z hz
  exact Rep.setM (c := c) r4 (s := .own ds) rfl ⟨q, xs, rfl, a1.1, hx, a1.2.1, f.1⟩ fun z hz => f.2 z (List.mem_cons_of_mem _ hz)
theorem psd_unpDN {X : Cx} (i j : Nat) {e2 : Expr} {dn : DN} {x y : Str} {px py pt pd pos : Pos} {kt k2 pt2} (hc : X.calm = true) (hN : X.N.Nodup) (hb : PN X e2 dn) (hi : X.N[i]? = some x := by rfl) (hj : X.N[j]? = some y := by rfl)
    (hx : Loc X.env.scope x := by first | exact Or.inl rfl | exact Or.inr rfl) (hy : Loc X.env.scope y := by first | exact Or.inl rfl | exact Or.inr rfl) (hfx : X.fn x = true ∨ X.env.scope.names.lookup x = some .local := by first | exact .inl rfl | exact .inr rfl) (hfy : X.fn y = true ∨ X.env.scope.names.lookup y = some .local := by first | exact .inl rfl | exact .inr rfl) (hs1 : starEach [.Dict [] [] pd, e2] X.env = (false, eval (.Dict [] [] pd) X.env) :: starEach [e2] X.env := by rfl) (hs2 : starEach [e2] X.env = (false, eval e2 X.env) :: starEach [] X.env := by rfl)
    (hw : swappedStores [.Tuple [.Name x px, .Name y py] kt pt] (.Tuple [.Dict [] [] pd, e2] k2 pt2) X.env = pure none := by rfl) (hs : swapsWithSole [.Tuple [.Name x px, .Name y py] kt pt] (.Tuple [.Dict [] [] pd, e2] k2 pt2) pos.line X.env = pure false := by rfl)
    (h1 : (assignEach [.Tuple [.Name x px, .Name y py] kt pt] X.env).map (·.2) = [assign (.Tuple [.Name x px, .Name y py] kt pt) X.env] := by rfl) (h2 : (assignEach [.Name x px, .Name y py] X.env).map (·.2) = assign (.Name x px) X.env :: (assignEach [.Name y py] X.env).map (·.2) := by rfl) (h3 : (assignEach [.Name y py] X.env).map (·.2) = assign (.Name y py) X.env :: (assignEach [] X.env).map (·.2) := by rfl)
    (hn : (assignEach [.Name x px, .Name y py] X.env).length = 2 := by rfl) (hst : (assignEach [.Name x px, .Name y py] X.env).findIdx? (·.1) = none := by rfl) :
    PSD X (.Assign [.Tuple [.Name x px, .Name y py] kt pt] (.Tuple [.Dict [] [] pd, e2] k2 pt2) pos) (dParDN i j dn) := ps_imp (ps_asg (pe_tup (pa_cons pe_dnewK (pa_cons hb pa_nil hs2) hs1)) (pg_tup hc (pgs_cons (pg_name hN hi hx hfx) (pgs_cons (pg_name hN hj hy hfy) pgs_nil h3) h2) hn hst) hs hw h1) fun D σ H ⟨c, G, ρ, D', r, h, k⟩ => by
  intro p hp
  have r1 := r.pinN (o := .dK []) hp
  have fp := r.free hp
  refine ⟨_, G, ρ, _, r1, h, fun ds ρ1 G1 H1 q xs q1 f1 r2 f hx => ?_⟩
  refine ⟨sz_of (by decide : 2 ≤ 100000), fun t ht => ?_⟩
  refine ⟨t, _, rfl, SqT.of upd_same, rfl, _, _, rfl, _, _, rfl, rfl, ?_⟩
  exact k.nx _ G1 _ _ q1 f1 (rep_two (r2.newH ht) fp f hx)
end DL

set_option Elab.async false
set_option linter.all false
set_option maxRecDepth 100000
set_option maxHeartbeats 4000000
/-! DLSet: sorted(set(l)), l a list of ints. -/
namespace DL
open PySem PySem.Spec PyProof.Rows L2
abbrev bareSet (w : World) : Obj := { cls := .type "set", dict := none, data := .set #[] 0 (.fresh 0 0 (!w.params.followText "set-order")) }
section
variable {P : Program} {w : World} {A : Around} {E : Value → Shared → Prop} {s : Shared}
theorem set_of_list {l : Addr} {its : Array Value} (ns : List Int) {Q : Value → Shared → Prop} (hh : A.handled = none) (hl : s.heap.IsList l its) (hit : IntsAre its.toList ns) (hb : ns.length + 1 < scanBound)
    (fin : ∀ (h' : Heap) (tk c : Nat), SetR w h' s.heap.objs.size (fun j => decide (j ∈ ns)) c → c ≤ ns.length → (∀ b o, s.heap.get? b = some o → h'.get? b = some o) → Q (.ref s.heap.objs.size) { s with heap := h', toks := tk }) :
    wpAny (model P w) A (call (.type "set") [.ref l]) Q E s := by
  have size_its : its.size = ns.length := (Array.length_toList (xs := its)).symm.trans (IntsAre.length hit)
  obtain ⟨c, tl, mro⟩ := F.called_set.mro
  have f1 := F.called_set.made
  have f2 := F.called_set.sub
  have f3 := F.called_set.notType
  have f4 := F.called_set.canCreate
  have f5 := F.typeCall_set_1 (.ref l)
  refine wpAny_call (codeAny_of_tree ?_)
  show wpAny _ _ (callAny (.type "set") _) _ _ _
  refine wpAny_pure ⟨Code.quiet_builtin _ (by decide +kernel), codeAny_builtin F.entry_type_call ?_⟩
  rw [Around.under_plain (weight_type_call_type "set" [.ref l] []) rfl]
  repeat (any_goals (first | assumption | wp_step))
  refine codeAny_mono (code_set_led1 (.ref l) (E := E) (Q₁ := fun u s1 => u = .ref s.heap.objs.size ∧ s1 = { s with heap := s.heap.push (bareSet w) }) ⟨rfl, rfl⟩) fun r s1 hr => ?_
  cases r with
  | error e => exact hr
  | ok fl =>
    cases fl with
    | next => exact hr.elim
    | brk => exact hr.elim
    | cont => exact hr.elim
    | ret u =>
      obtain ⟨rfl, rfl⟩ := hr
      have g0 : (s.heap.push (bareSet w)).get? s.heap.objs.size = some (bareSet w) := Heap.get?_push_size _ rfl
      have hT : Shared.TypeIs { s with heap := s.heap.push (bareSet w) } (.ref s.heap.objs.size) "set" := ⟨_, g0, rfl⟩
      have f6 := F.called_set.init.lookup
      have f7 := F.called_set.init.bind (.ref s.heap.objs.size)
      repeat (any_goals (first | assumption | wp_step))
      refine codeAny_mono (codeAny_call_builtin (R := wants (fun r s2 => r = .none ∧ ∃ h' tk c, s2 = { s with heap := h', toks := tk } ∧ SetR w h' s.heap.objs.size (fun j => decide (j ∈ ns)) c ∧ c ≤ ns.length ∧
          (∀ b o, s.heap.get? b = some o → h'.get? b = some o)) E) F.called_set.init.plain F.entry_set_init (check_set_init_1 hT ?_)) fun r2 s2 hr2 => ?_
      · obtain ⟨⟨k1, k2, k3, k4⟩, lo, lc, n, ld⟩ := hl
        simp only at lc ld
        subst lc
        subst ld
        have lo1 : (s.heap.push (bareSet w)).get? l = some { cls := .type "list", dict := k2, data := .seq its n, slots := k4 } := Heap.get?_push_of_some _ lo
        have il : (s.heap.push (bareSet w)).IsList l its := ⟨_, lo1, rfl, n, rfl⟩
        have f8 := F.sub_list_set
        have f9 := F.sub_list_frozenset
        have f10 : (Value.type "list" == Value.type "dict") = false := by decide
        have sz : (s.heap.push (bareSet w)).objs.size = s.heap.objs.size + 1 := Heap.size_push ..
        have below : l < s.heap.objs.size := Heap.lt_size lo
        unfold Builtin.«set.__init__» noKeywords Builtin.Frozenset.updateFrom
        generalize hPI : pyIter = PI
        wp_walk
        subst hPI
        refine wpAny_pyIter_list il ?_
        refine wpAny_bind (wpAny_runValue ?_)
        have quiet : A.in1.in1.in1.handled = none := by simp [hh]
        have ne1 : l ≠ (s.heap.push (bareSet w)).objs.size := by rw [sz]; exact Nat.ne_of_lt (Nat.lt_succ_of_lt below)
        have out : s.heap.objs.size ∉ [(s.heap.push (bareSet w)).objs.size, l] := by
          rw [sz]
          simp only [List.mem_cons, List.not_mem_nil, or_false, not_or]
          exact ⟨Nat.ne_of_lt (Nat.lt_succ_self _), Nat.ne_of_gt below⟩
        refine set_update_ints ((Walks.list quiet _ l ne1 its).toS) s.heap.objs.size out ns size_its hb (fun i v hv => ?_) (its.size - 0) 0 _ (by omega) (Nat.zero_le _) ⟨⟨_, Heap.get?_push_size _ rfl, rfl, rfl⟩, (il.push _)⟩ ⟨0, Nat.le_refl 0, setR_new_at (Heap.get?_push_of_some _ g0)⟩ ?_
        · have hi : i < ns.length := by
            rw [← size_its]
            exact (Array.getElem?_eq_some_iff.mp hv).1
          obtain ⟨t, e⟩ := PyProof.Rows.IntsAre.int_at hit i v (by rw [Array.getElem?_toList]; exact hv)
          rw [List.getD_eq_getElem?_getD, List.getElem?_eq_getElem hi] at e
          exact ⟨ns[i], t, List.getElem?_eq_getElem hi, e⟩
        · intro s3 c3 moved c3le R3
          obtain ⟨h3, g3, d3, t3, o3⟩ := s3
          obtain rfl : g3 = s.gens := moved.gens
          obtain rfl : d3 = s.drawn := moved.drawn
          obtain rfl : o3 = s.os := moved.os
          refine wpAny_pure ?_
          show wpAny _ _ (ret Value.none) _ _ _
          refine wpAny_pure ⟨rfl, h3, t3, c3, rfl, R3, by rw [← size_its]; exact c3le, fun b o e => ?_⟩
          have lt := Heap.lt_size e
          refine moved.heap b o ?_ (Heap.get?_push_of_some _ (Heap.get?_push_of_some _ e))
          simp only [List.mem_cons, List.not_mem_nil, or_false, not_or]
          exact ⟨Nat.ne_of_lt lt, by rw [sz]; exact Nat.ne_of_lt (Nat.lt_succ_of_lt lt)⟩
      · cases r2 with
        | error e => exact hr2
        | ok fl2 =>
          cases fl2 with
          | ret r =>
            obtain ⟨rfl, h', tk, c', rfl, a1, a2, a3⟩ := hr2
            repeat (any_goals (first | assumption | wp_step))
            exact fin _ _ _ a1 a2 a3
          | _ => exact hr2.elim
end
/-- set(l) of a list of fewer than 4000 ints -/
def rSetLI (K : PySem.W.Frag) (w : World) : List V → Hp → VK → Prop := fun vs H Q => ∃ (a : Addr) (ns : List Int), vs = [V.ref a] ∧ SqL K H a (ns.map V.int) ∧ ns.length ≤ 4000 ∧ ∀ p c, H p = none → c ≤ ns.length → Q (.ref p) (upd H p (SetO w p (fun j => decide (j ∈ ns)) c))
theorem cr_setLI {X : Cx} (hc : X.calm = true) : CallR X (.type "set") (rSetLI X.K X.w) := by
  intro pins s σ H xs us Q I r h
  obtain ⟨a, ns, rfl, hs, hz, q⟩ := h
  obtain ⟨its, rv, hl, _⟩ := I.list hs
  rw [Vals.ref1 r]
  refine set_of_list (P := X.prog) (w := X.w) ns (I.ok.hd hc) hl.isList (by simpa using rv.ints) (by unfold scanBound; omega) fun h' tk c R hle k => ?_
  exact ⟨.ref s.heap.objs.size, upd H s.heap.objs.size (SetO X.w s.heap.objs.size (fun j => decide (j ∈ ns)) c), I.laid (t' := tk) k (Nat.le_refl _) (setO_new R), rfl, q _ c (I.hok.fresh (Nat.le_refl _)) hle⟩
end DL

set_option Elab.async false
set_option linter.all false
set_option maxRecDepth 100000
set_option maxHeartbeats 1000000
/-! DL12: sorting, ranges with a step, lists turned round, is of bools. -/
namespace DL
open PySem L2 Evl PyProof.Rows RZ

def pairI (p : Int × Int) : PyData := .tuple [.int p.1, .int p.2]
/-- sorted(l), l a list of pairs of ints -/
def fSortP : D1 := fun x Q => ∃ ps : List (Int × Int), x = .list (ps.map pairI) ∧ ∀ qs : List (Int × Int), qs.Perm ps → qs.Pairwise (fun p q => SrtO.lexB q p = false) → Q (.list (qs.map pairI))
/-- the pair at a value -/
def keyP (H : Hp) : V → Int × Int
  | .ref t => match H t with
    | some (.tup [.int i, .int j]) => (i, j)
    | _ => (0, 0)
  | _ => (0, 0)
theorem rp_pairs {G H : Hp} (e : Ex G H) : ∀ {xs : List V} {ps : List (Int × Int)}, RpAll G xs (ps.map pairI) → xs.map (keyP H) = ps ∧ ∀ x ∈ xs, ∃ t, x = .ref t ∧ G t = some (.tup [.int (keyP H x).1, .int (keyP H x).2])
  | _, [], h => by cases h; exact ⟨rfl, fun x hx => nomatch hx⟩
  | _, p :: ps, h => by
    cases h with
    | cons h1 h2 =>
      have ih := rp_pairs e h2
      cases h1 with
      | @tup a ys _ g1 g2 =>
        have ey : ys = [.int p.1, .int p.2] := by
          cases g2 with
          | cons a1 a2 =>
            cases a1
            cases a2 with
            | cons b1 b2 =>
              cases b1
              cases b2
              rfl
        subst ey
        have ek : keyP H (.ref a) = p := by
          show (match H a with | some (.tup [.int i, .int j]) => (i, j) | _ => (0, 0)) = p
          rw [e _ _ g1]
        refine ⟨by rw [List.map_cons, ek, ih.1], fun x hx => ?_⟩
        rcases List.mem_cons.mp hx with rfl | hx
        · exact ⟨a, rfl, by rw [ek]; exact g1⟩
        · exact ih.2 x hx
theorem rp_of_pairs {G : Hp} {k : V → Int × Int} : ∀ {ys : List V}, (∀ x ∈ ys, ∃ t, x = .ref t ∧ G t = some (.tup [.int (k x).1, .int (k x).2])) → RpAll G ys ((ys.map k).map pairI)
  | [], _ => .nil
  | y :: ys, h => by
    obtain ⟨t, e1, e2⟩ := h y List.mem_cons_self
    refine .cons ?_ (rp_of_pairs fun x hx => h x (List.mem_cons_of_mem _ hx))
    have : Rp G (.ref t) (pairI (k y)) := .tup e2 (.cons (.int _) (.cons (.int _) .nil))
    rw [← e1] at this
    exact this
section
variable {X : Cx}
theorem rc_sortP : RC1 (rSortedPO X.K) fSortP := fun G H v x Q Q' e hv ⟨ps, h1, h2⟩ k => by
  subst h1
  obtain ⟨l, xs, rfl, h3, h4⟩ := hv.lst e
  have z := rp_pairs e h4
  refine ⟨l, xs, keyP H, rfl, SqL.of h3, fun x hx => ?_, fun ys p sr st hp => ?_⟩
  · obtain ⟨t, e1, e2⟩ := z.2 x hx
    exact ⟨t, e1, e _ _ e2⟩
  · have hy : ∀ x ∈ ys, ∃ t, x = .ref t ∧ G t = some (.tup [.int (keyP H x).1, .int (keyP H x).2]) := fun x hx => z.2 x (st.perm.mem_iff.mp hx)
    have r := rp_of_pairs hy
    have pm : (ys.map (keyP H)).Perm ps := by
      have := st.perm.map (keyP H)
      rw [z.1] at this
      exact this
    refine k _ _ _ (.inr ⟨p, _, hp, rfl, rfl, .lst upd_same (r.up (Ex.new (none_up e hp)))⟩) (h2 _ pm ?_)
    rw [List.pairwise_map]
    exact sr
/-- sorted(l), l a list of ints -/
def fSortI : D1 := fun x Q => ∃ ns : List Int, x = .list (ns.map .int) ∧ ∀ ks : List Int, ks.Perm ns → ks.Pairwise (· ≤ ·) → Q (.list (ks.map .int))
theorem rc_sortI : RC1 (rSortedI X.K) fSortI := fun G H v x Q Q' e hv ⟨ns, h1, h2⟩ k => by
  subst h1
  obtain ⟨l, xs, rfl, h3, h4⟩ := hv.lst e
  have z := h4.ints
  subst z
  refine ⟨l, ns, rfl, SqL.of h3, fun ks p pm pw hp => ?_⟩
  exact k _ _ _ (.inr ⟨p, _, hp, rfl, rfl, .lst upd_same ((rp_ints ks).up (Ex.new (none_up e hp)))⟩) (h2 _ pm pw)
/-- sorted(set(l)), l a list of ints -/
def dSortSet (de : DE) : DE := fun ρ Q => de ρ fun x ρ1 => ∃ ns : List Int, x = .list (ns.map .int) ∧ ns.length < 64 ∧ ∀ ks : List Int, ks.Pairwise (· < ·) → (∀ k, k ∈ ks ↔ k ∈ ns) → Q (.list (ks.map .int)) ρ1
theorem pd_sortSet {e : Expr} {de : DE} {x y : Str} {p p2 pos pos2 : Pos} (hc : X.calm = true) (hm : X.mg x = none) (hm2 : X.mg y = none) (he : PD X e de) (hg : Gl X x := by rfl) (hv : bootBuiltins x = some (.builtin "sorted") := by decide +kernel) (hg2 : Gl X y := by rfl) (hv2 : bootBuiltins y = some (.type "set") := by decide +kernel) (hn : x ≠ "__name__" := by decide) (hdb : (x == ("__debug__" : Str)) = false := by decide) (hn2 : y ≠ "__name__" := by decide) (hdb2 : (y == ("__debug__" : Str)) = false := by decide)
    (hs : starEach [.Call (.Name y p2) [e] [] pos2] X.env = (false, eval (.Call (.Name y p2) [e] [] pos2) X.env) :: starEach [] X.env := by rfl) (hs2 : starEach [e] X.env = (false, eval e X.env) :: starEach [] X.env := by rfl) (hpl : (backTo pos (starEach [] X.env)).any (·.1) = false := by rfl) (hpl2 : (backTo pos2 (starEach [] X.env)).any (·.1) = false := by rfl) :
    PD X (.Call (.Name x p) [.Call (.Name y p2) [e] [] pos2] [] pos) (dSortSet de) := pe_imp (pe_callB (cr_sortedSet hc) hg hm hv (pa_cons (pe_callTy (cr_setLI hc) hg2 hm2 hv2 (pa_cons he pa_nil hs2) hn2 hdb2 hs2 hpl2) pa_nil hs) hn hdb hs hpl) fun σ H Q ⟨c, G, ρ, Q', rp, h, k⟩ => by
  refine ⟨c, G, ρ, _, rp, h, fun d ρ1 G1 H1 v q1 e1 r1 hx => ?_⟩
  obtain ⟨ns, rfl, hl, q⟩ := q1
  cases hx with
  | @lst a xs _ g1 g2 =>
    have z := g2.ints
    subst z
    refine ⟨a, ns, rfl, SqL.of (r1.gh _ _ g1), by omega, fun t n ht hle => ?_⟩
    refine ⟨t, _, n, rfl, upd_same, by omega, fun ks p' pw mem len hp' => ?_⟩
    have r2 := r1.newH (o := SetO X.w t (fun j => decide (j ∈ ns)) n) ht
    exact k _ ρ1 _ _ _ (q ks pw fun j => (mem j).trans decide_eq_true_iff) (e1.trans (Ex.new (none_up r2.gh hp'))) (r2.new hp') (.lst upd_same (rp_ints ks))
/-! ### range with a step -/
def stepD (lo c : Int) (n : Nat) : List PyData := (List.range n).map fun (i : Nat) => PyData.int (lo + (i : Int) * c)
theorem gives_step {G : Hp} {lo c : Int} {n : Nat} : Gives G (Itc lo c n) (stepD lo c n) := by
  have ln : (stepD lo c n).length = n := by unfold stepD; rw [List.length_map, List.length_range]
  refine ⟨fun _ => True, YFn fun i => .int (lo + (i : Nat) * c), by rw [ln]; exact walk_rangeC, fun _ _ => trivial, fun i H x H' d e y hd G1 e1 e2 => ?_⟩
  obtain ⟨rfl, rfl⟩ := y
  unfold stepD at hd
  rw [List.getElem?_map] at hd
  cases q : (List.range n)[i]? with
  | none => rw [q] at hd; cases hd
  | some j =>
    rw [q] at hd
    have hj : j = i := by
      obtain ⟨h1, h2⟩ := List.getElem?_eq_some_iff.mp q
      rw [List.getElem_range] at h2
      exact h2.symm
    subst hj
    cases hd
    exact .inl ⟨rfl, .int _⟩
def dRange3 (da db dc : DE) : DN := fun ρ Q => da ρ fun x ρ1 => db ρ1 fun y ρ2 => dc ρ2 fun z ρ3 => ∃ (i j c : Int) (n : Nat), x = .int i ∧ y = .int j ∧ z = .int c ∧ RgC i j c n ∧ Q (stepD i c n) ρ3
theorem pid_range3 {tg a b d : Expr} {p pos : Pos} {da db dc : DE} (hm : X.mg "range" = none) (ha : PD X a da) (hb : PD X b db) (hd : PD X d dc) (hg : Gl X "range" := by rfl) (hs : starEach [a, b, d] X.env = (false, eval a X.env) :: starEach [b, d] X.env := by rfl) (hs2 : starEach [b, d] X.env = (false, eval b X.env) :: starEach [d] X.env := by rfl) (hs3 : starEach [d] X.env = (false, eval d X.env) :: starEach [] X.env := by rfl) (hpl : (backTo pos (starEach [b, d] X.env)).any (·.1) = false := by rfl) :
    PID X tg (.Call (.Name "range" p) [a, b, d] [] pos) (dRange3 da db dc) := pi_imp (pi_range3 hg hm (pa_cons ha (pa_cons hb (pa_cons hd pa_nil hs3) hs2) hs) hs hpl) fun σ H R ⟨c, G, ρ, R', rp, h, k⟩ => by
  refine ⟨c, G, ρ, _, rp, h, fun x ρ1 G1 H1 v q1 e1 r1 hx => ?_⟩
  refine ⟨c, G1, ρ1, _, r1, q1, fun y ρ2 G2 H2 w q2 e2 r2 hy => ?_⟩
  refine ⟨c, G2, ρ2, _, r2, q2, fun z ρ3 G3 H3 u q3 e3 r3 hz => ?_⟩
  obtain ⟨i, j, st, n, rfl, rfl, rfl, hr, q⟩ := q3
  cases hx
  cases hy
  cases hz
  exact ⟨i, j, st, n, rfl, hr, k _ ρ3 G3 H3 _ q ((e1.trans e2).trans e3) r3 gives_step⟩
/-! ### is of bools -/
def fIsB : D2 := fun x y Q => ∃ a b : Bool, x = .bool a ∧ y = .bool b ∧ Q (.bool (decide (a = b)))
theorem ro_isB : ROp rIsB fIsB := fun G H v w x y Q Q' e hv hw ⟨a, b, h1, h2, h3⟩ k => by
  subst h1 h2
  exact ⟨a, b, hv.bl, hw.bl, k _ _ H (.inl ⟨rfl, .bl _⟩) h3⟩
end
end DL

set_option Elab.async false
set_option linter.all false
set_option maxRecDepth 100000
set_option maxHeartbeats 1000000
/-! DL13: l[::0 - 1]; told = [new, new]; keyword calls whose result is new. -/
namespace DL
open PySem L2 Evl PyProof.Rows RZ
section
variable {X : Cx}
/-- l[::st], st comes to -1 -/
def tBack (K : PySem.W.Frag) (te : TE) : TE := fun σ H Q => te σ H fun x H1 => ∃ a xs, x = .ref a ∧ SqL K H1 a xs ∧ ∀ p, H1 p = none → Q (.ref p) (upd H1 p (.lst xs.reverse))
theorem pe_back {e st : Expr} {te : TE} {p3 pos : Pos} (he : PE X e te) (hst : PO X (some st) (fun _ H R => R (some (-1)) H)) : PE X (.Subscript e (.Slice none none (some st) p3) pos) (tBack X.K te) := ⟨fun pins s σ H Q I h => by
  refine Subscript_ (thn (he.run pins s σ H _ I h) fun v s1 ⟨x, H1, I1, r1, a, xs, ex, hx, q⟩ => ?_)
  subst ex
  obtain rfl : v = Value.ref a := r1
  refine wpAny_Slice (thn (po_none.run pins s1 σ H1 (fun o H2 => o = none ∧ H2 = H1) I1 ⟨rfl, rfl⟩) fun vl s2 ⟨l, H2, I2, pl, el, e2⟩ => ?_)
  subst el e2
  refine thn (po_none.run pins s2 σ H2 (fun o H3 => o = none ∧ H3 = H2) I2 ⟨rfl, rfl⟩) fun vu s3 ⟨u, H3, I3, pu, eu, e3⟩ => ?_
  subst eu e3
  refine thn (hst.run pins s3 σ H3 (fun o H4 => o = some (-1) ∧ H4 = H3) I3 ⟨rfl, rfl⟩) fun vs s4 ⟨o, H4, I4, ps, eo, e4⟩ => ?_
  subst eo e4
  have J : Inv X pins σ H4 { s4 with heap := s4.heap.push { cls := .type "slice", data := .fields #[vl, vu, vs] } } := I4.kept (t' := s4.toks) fun b ob q => Heap.get?_push_of_some _ q
  obtain ⟨its, r, il, hz⟩ := J.list hx
  have n := r.length
  refine tail_any (ops := [.ref a, .ref s4.heap.objs.size]) il.isList.typeIs (PySem.slot_list_getitem.lookup) ?_ (by with_unfolding_all rfl)
  refine wpAny_getItem_list_slice il.isList (Heap.IsSliceOf.new _ vl vu vs) pl pu ps (by decide) ?_ (by rw [List.size_toArray]; omega)
  rw [PySem.W.krv_pick]
  refine ⟨.ref _, _, J.laid (t' := s4.toks) (o := .lst xs.reverse) (fun b ob q => Heap.get?_push_of_some _ q) (Nat.le_refl _) ⟨by rw [List.length_reverse]; omega, _, 0, r.reverse, Heap.get?_push_size _ rfl⟩, rfl, q _ (J.hok.fresh (Nat.le_refl _))⟩⟩
end
section
variable {X : Cx}
theorem po_m1 {j k : Nat} {p1 p2 pos : Pos} : PO X (some (.BinOp (.Constant (.int 0) j p1) .Sub (.Constant (.int 1) k p2) pos)) (fun _ H R => R (some (-1)) H) := po_imp (po_some (pe_op op_sub pe_int pe_int)) fun σ H R h => ⟨0, 1, rfl, rfl, -1, rfl, h⟩
def dRevV (i : Nat) : DN := fun ρ Q => rd ρ i fun x => match x with
  | .list ds => Q ds.reverse ρ
  | _ => False
theorem pn_revV (i : Nat) {x : Str} {p p3 pos : Pos} {st : Expr} (hst : PO X (some st) (fun _ H R => R (some (-1)) H)) (hN : X.N[i]? = some x := by rfl) (hv : Vis X.env.scope x := by first | exact Or.inl rfl | exact Or.inr (Or.inl rfl) | exact Or.inr (Or.inr rfl)) (hd : (x == ("__debug__" : Str)) = false := by decide)
    (hcd : (x == ("__classdict__" : Str)) = false := by decide) : PN X (.Subscript (.Name x p) (.Slice none none (some st) p3) pos) (dRevV i) := pe_imp (pe_back (pe_var hN hv hd hcd) hst) fun σ H Q ⟨c, G, ρ, Q', rp, h, k⟩ => by
  obtain ⟨v, d, h1, h2, h3⟩ := rd_some rp h
  refine ⟨v, h1, ?_⟩
  cases d with
  | list ds =>
    obtain ⟨a, xs, rfl, g1, g2⟩ := h2.lst rp.gh
    exact ⟨a, xs, rfl, SqL.of g1, fun p hp => k _ ρ G _ p _ h3 (Ex.refl G) (rp.pinN hp) (rp.free hp) g2.rev⟩
  | _ => exact h3.elim
def dRev (de : DE) : DN := fun ρ Q => de ρ fun x ρ1 => match x with
  | .list ds => Q ds.reverse ρ1
  | _ => False
theorem pn_rev {e st : Expr} {de : DE} {p3 pos : Pos} (he : PD X e de) (hst : PO X (some st) (fun _ H R => R (some (-1)) H)) : PN X (.Subscript e (.Slice none none (some st) p3) pos) (dRev de) := pe_imp (pe_back he hst) fun σ H Q ⟨c, G, ρ, Q', rp, h, k⟩ => by
  refine ⟨c, G, ρ, _, rp, h, fun x ρ1 G1 H1 v q1 e1 r1 hx => ?_⟩
  cases hx with
  | lst g1 g2 => exact ⟨_, _, rfl, SqL.of (r1.gh _ _ g1), fun p hp => k _ ρ1 G1 _ p _ q1 e1 (r1.pinN hp) (r1.free hp) g2.rev⟩
  | _ => exact q1.elim
/-- a keyword call whose result is new -/
theorem pf_callK0 {k : Nat} {f : Addr} {fd : FuncData} {ps ks : List Str} {x : Str} {p pos : Pos} {m : M1} {ix : List Nat} {kws : List Keyword} {dk : DN} (F : FnOk X.prog X.w X.K X.mg X.base CX0 k f fd ps (spN m)) (hr : Room k X.A) (hm : X.mg x = some (.ref f)) (hk : PySem.W.keepIn X.K (.ref f) = true) (hb : KPick X.K fd ps ks 0 ix) (hkw : PKD X kws dk)
    (hall : (backToKw pos (keywordEach kws X.env)).all (·.1.isSome) = true := by rfl) (hks : (backToKw pos (keywordEach kws X.env)).filterMap (·.1) = ks := by rfl) (hg : Gl X x := by rfl)
    (hdb : (x == ("__debug__" : Str)) = false := by decide)
    (hpl : ((backTo pos (starEach [] X.env)).any (·.1) || (backToKw pos (keywordEach kws X.env)).any (·.1.isNone)) = false := by rfl) :
    PF X (.Call (.Name x p) [] kws pos) (dCallK m 0 ks.length ix daNil dk) := ⟨fun pins s σ H Q I ⟨c, G, ρ, Q', rp, h, kk⟩ => by
  have h : dk ρ fun es ρ2 => ([] : List PyData).length = 0 ∧ es.length = ks.length ∧ m (pick ix ([] ++ es)) fun d => Q' d ρ2 := h
  refine wpAny_Call_Name_kw (ld_glob I hg hm ?_ hdb)
  refine PySem.W.callWith_KW0 (h₀ := X.base) I.ok.mod.kin hk hall ?_ hpl
  refine thn (hkw.run pos pins s σ H (fun zs H2 => zs.length = ks.length ∧ spN m (pick ix ([] ++ zs)) H2 Q E0) I ⟨c, G, ρ, _, rp, h, fun zs ρ2 G2 H2 ws q2 e2 r2 hz => ⟨by rw [hz.len]; exact q2.2.1, G2, _, _, r2.gh, pick_rp hz, q2.2.2, fun d G' H' v q3 fi hv fr => ?_⟩⟩) fun ws s2 ⟨zs, H2, I2, rz, l2, q2⟩ => ⟨I2.kIn, ?_⟩
  · obtain ⟨e3, r3⟩ := r2.called fi
    refine kk d ρ2 G' H' v q3 (e2.trans e3) r3 hv fun a z => ?_
    have := fr a z
    constructor
    · cases q : c.H0 a with
      | none => rfl
      | some o => exact absurd this (r2.dom a (by rw [q]; exact fun z => nomatch z))
    · cases q : G a with
      | none => rfl
      | some o => rw [r2.gh a o (e2 a o q)] at this; cases this
  · rw [hks]
    exact run_fnN (n := 0) (g := fun us ws => pick ix (us ++ ws)) (gV := fun vs zs => pick ix (vs ++ zs)) F hr ⟨hb, fun r rz => pick_vals (r.append rz)⟩ pass0 I2 .nil rz rfl l2 q2⟩
/-- told = [a new list, another] -/
def dTldFF (i : Nat) (da db : DE) : DS := fun D ρ => da ρ fun d1 ρ1 => db ρ1 fun d2 ρ2 => ∃ ts us, d1 = .list ts ∧ d2 = .list us ∧ inertAll ts = true ∧ inertAll us = true ∧ D.nx (ρ2.set i (.tld (.list [d1, d2])))
theorem psd_tldFF (i : Nat) {x : Str} {p pos lpos : Pos} {e1 e2 : Expr} {da db : DE} (hN : X.N.Nodup) (ha : PF X e1 da) (hb : PF X e2 db) (hi : X.N[i]? = some x := by rfl) (hx : Loc X.env.scope x := by first | exact Or.inl rfl | exact Or.inr rfl) (hs : swapsWith (.List [e1, e2] lpos) (some (.Name x p)) pos.line X.env = pure false := by rfl) (hf : X.fn x = true ∨ X.env.scope.names.lookup x = some .local := by first | exact .inl rfl | exact .inr rfl)
    (hs1 : starEach [e1, e2] X.env = (false, eval e1 X.env) :: starEach [e2] X.env := by rfl) (hs2 : starEach [e2] X.env = (false, eval e2 X.env) :: starEach [] X.env := by rfl) :
    PSD X (.Assign [.Name x p] (.List [e1, e2] lpos) pos) (dTldFF i da db) := ps_imp (ps_set hN hi hx (pe_lst (pa_cons ha (pa_cons hb pa_nil hs2) hs1)) hs hf) fun D σ H ⟨c, G, ρ, D', r, h, k⟩ => by
  refine ⟨c, G, ρ, _, r, h, fun d1 ρ1 G1 H1 v1 q1 f1 r1 h1 new1 => ⟨c, G1, ρ1, _, r1, q1, fun d2 ρ2 G2 H2 v2 q2 f2 r2 h2 new2 => ⟨sz_of (by decide : 2 ≤ 100000), fun a ap => ?_⟩⟩⟩
  obtain ⟨ts, us, rfl, rfl, i1, i2, q⟩ := q2
  have e3 : Ex G2 (upd G2 a (.lst [v1, v2])) := Ex.new (none_up r2.gh ap)
  have r3 := r2.new (o := .lst [v1, v2]) ap
  cases h1 with
  | @lst b ys _ g1 g2 =>
    cases h2 with
    | @lst b2 zs _ g3 g4 =>
      have hb : H2 b = some (.lst ys) := r2.gh _ _ (f2 _ _ g1)
      have hb2 : H2 b2 = some (.lst zs) := r2.gh _ _ g3
      have nb : b ≠ a := fun z => by rw [z, ap] at hb; cases hb
      have nb2 : b2 ≠ a := fun z => by rw [z, ap] at hb2; cases hb2
      have n12 : b ≠ b2 := fun z => by
        have := (new2 _ rfl).2
        rw [← z, g1] at this
        cases this
      have fr : c.H0 a = none := (r2.free ap).1
      refine k.nx _ _ _ _ q ((f1.trans f2).trans e3) (r3.setS rfl ⟨.ref a, _, rfl, .lst upd_same (.cons (.lst (e3 _ _ (f2 _ _ g1)) (inert_trAll ts ys (g2.up (f2.trans e3)) i1)) (.cons (.lst (e3 _ _ g3) (inert_trAll us zs (g4.up e3) i2)) .nil)), ?_, fun y hy => ?_⟩)
      · show ([b, b2, a] : List Addr).Nodup
        refine List.nodup_cons.mpr ⟨fun z => ?_, List.nodup_cons.mpr ⟨fun z => nb2 (List.mem_singleton.mp z), List.nodup_cons.mpr ⟨(fun z => (nomatch z)), List.nodup_nil⟩⟩⟩
        rcases List.mem_cons.mp z with z | z
        · exact n12 z
        · exact nb (List.mem_singleton.mp z)
      · have hy : y ∈ [b, b2, a] := hy
        rcases List.mem_cons.mp hy with rfl | hy
        · exact (new1 _ rfl).1
        · rcases List.mem_cons.mp hy with rfl | hy
          · exact (new2 _ rfl).1
          · rw [List.mem_singleton.mp hy]
            exact fr
end
end DL

set_option Elab.async false
set_option linter.all false
set_option maxRecDepth 100000
set_option maxHeartbeats 1000000
/-! DL14: l.count, l.insert, f(a, *t), d.get, comprehensions over d.values(), repr of tuples, what is in a list of tuples. -/
namespace DL
open PySem L2 Evl PyProof.Rows RZ
section
variable {X : Cx} {e a b o : Expr} {es : List Expr} {pos apos cpos : Pos} {de da db : DE}
/-- l.count(k), l of ints -/
def dCountL (de da : DE) : DE := fun ρ Q => de ρ fun x ρ1 => match x with
  | .list ds => da ρ1 fun y ρ2 => ∃ (ns : List Int) (k : Int), ds = ns.map .int ∧ y = .int k ∧ Q (.int (ns.count k : Nat)) ρ2
  | _ => False
theorem pd_lcount (hp : PE X e (tBM X.K "list" (rCntI X.K) (tD de) (tCons (tD da) tNil))) : PD X e (dCountL de da) := pe_imp hp fun σ H Q ⟨c, G, ρ, Q', rp, h, k⟩ => by
  refine ⟨c, G, ρ, _, rp, h, fun x ρ1 G1 H1 v q1 e1 r1 hx => ?_⟩
  cases hx with
  | @lst l xs _ g1 g2 =>
    refine ⟨Or.inl ⟨rfl, _, SqL.of (r1.gh _ _ g1)⟩, c, G1, ρ1, _, r1, q1, fun y ρ2 G2 H2 w q2 e2 r2 hy => ?_⟩
    obtain ⟨ns, kk, rfl, rfl, q3⟩ := q2
    cases hy
    have z := g2.ints
    subst z
    exact ⟨l, ns, kk, rfl, rfl, SqL.of (r2.gh _ _ (e2 _ _ g1)), k _ ρ2 G2 H2 _ q3 (e1.trans e2) r2 (.int _)⟩
  | _ => exact q1.elim
/-- l.insert(k, x) -/
abbrev rInsL : V → List V → Hp → VK → Prop := fun x vs H Q => ∃ (l : Addr) (xs : List V) (i : Int) (y : V), x = .ref l ∧ vs = [.int i, y] ∧ H l = some (.lst xs) ∧ xs.length < sizeLine ∧ 0 ≤ i ∧ i < 2 ^ 63 ∧
    Q .non (upd H l (.lst (xs.take i.toNat ++ [y] ++ xs.drop i.toNat)))
def dIns (i : Nat) (dk de : DE) : DS := fun D ρ => own ρ i fun _ _ => dk ρ fun x ρ1 => de ρ1 fun y ρ2 => own ρ2 i fun ds put => ∃ k : Int, x = .int k ∧ ds.length < 100000 ∧ 0 ≤ k ∧ k < 2 ^ 63 ∧ D.nx (put (ds.take k.toNat ++ [y] ++ ds.drop k.toNat))
theorem psd_ins (i : Nat) (hp : PE X e (tBM X.K "list" rInsL (tVar i) (tCons (tD da) (tCons (tD db) tNil)))) (hs : swapsWith e none pos.line X.env = pure false := by rfl) : PSD X (.Expr e pos) (dIns i da db) := ps_imp (ps_expr hp hs) fun D σ H ⟨c, G, ρ, D', r, h, k⟩ => by
  obtain ⟨p, xs, ds, put, h1, h2, h3, h4, h5⟩ := own_some r h
  refine ⟨_, h1, Or.inl ⟨rfl, xs, SqL.of h2⟩, c, G, ρ, _, r, h4, fun x ρ1 G1 H1 v q1 e1 r1 hx => ⟨c, G1, ρ1, _, r1, q1, fun y ρ2 G2 H2 w q2 e2 r2 hy => ?_⟩⟩
  obtain ⟨p', xs', ds', put', k1, k2, k3, k4, k5⟩ := own_some r2 q2
  rw [h1] at k1
  cases k1
  obtain ⟨n, rfl, z1, z2, z3, z4⟩ := k4
  cases hx
  exact ⟨p, xs', n, w, rfl, rfl, k2, sz_lt (by rw [k3.len]; exact z1), z2, z3, k.nx _ G2 _ _ z4 (e1.trans e2) (k5 _ _ (((k3.take _).app (.cons hy .nil)).app (k3.drop _)))⟩
/-- f(a, .., *t) -/
theorem pd_callT {k : Nat} {f : Addr} {fd : FuncData} {ps : List Str} {dvs : List V} {ds : List Value} {dd : List PyData} {x : Str} {p : Pos} {da : DN} {m : M1} (F : FnOk X.prog X.w X.K X.mg X.base CX0 k f fd ps (spD m)) (hr : Room k X.A) (hm : X.mg x = some (.ref f)) (hk : PySem.W.keepIn X.K (.ref f) = true) (hb : Binds X.K fd ps ds) (hd : Vals dvs ds) (hdd : ∀ G, RpAll G dvs dd) (ha : PAD X (e :: es) da)
    (hg : Gl X x := by rfl) (hdb : (x == ("__debug__" : Str)) = false := by decide) (he : starEach (e :: es) X.env = (false, eval e X.env) :: starEach es X.env := by rfl) (hst : (backTo pos (starEach es X.env)).any (·.1) = true := by rfl) :
    PD X (.Call (.Name x p) (e :: es) [] pos) (dCall m dd da) := pe_imp (StX.pe_callS2 (E := E0) (F.raw hb hd) hr hk hg hm pass0 ha hdb he hst) fun σ H Q ⟨c, G, ρ, Q', rp, h, kk⟩ => by
  refine ⟨c, G, ρ, _, rp, h, fun xs ρ1 G1 H1 vs q1 e1 r1 hx => ?_⟩
  refine ⟨G1, xs ++ dd, _, r1.gh, hx.app (hdd G1), q1, fun d G' H' v q2 fi hv => ?_⟩
  obtain ⟨e2, r2⟩ := r1.called fi
  exact kk d ρ1 G' H' v q2 (e1.trans e2) r2 hv
/-- d.get(k, x) -/
def dDGetD (i : Nat) (dk dx : DE) : DE := fun ρ Q => dic ρ i fun _ => dk ρ fun z ρ1 => dx ρ1 fun y ρ2 => dic ρ2 i fun kvs => ∃ k, keyD z = some k ∧ Q ((atD kvs k).getD y) ρ2
theorem pd_dgetD (i : Nat) {y : Str} {p2 : Pos} {f : Expr} {dk dx : DE} (hu : X.A.units + 1 < cLine) (hk : PD X e dk) (hx : PD X f dx) (m : M2 X (.Name y p2) "get" apos e f cpos) (hN : X.N[i]? = some y := by rfl) (hvy : Vis X.env.scope y := by first | exact Or.inl rfl | exact Or.inr (Or.inl rfl) | exact Or.inr (Or.inr rfl)) (hdy : (y == ("__debug__" : Str)) = false := by decide) (hcd : (y == ("__classdict__" : Str)) = false := by decide) :
    PD X (.Call (.Attribute (.Name y p2) "get" apos) [e, f] [] cpos) (dDGetD i dk dx) := pe_imp (pe_dget2 hu (pe_var hN hvy hdy hcd) hk hx m) fun σ H Q ⟨c, G, ρ, Q', rp, h, k⟩ => by
  obtain ⟨a, kws, kvs, h1, h2, _, h4, _⟩ := dic_some rp h
  refine ⟨_, h1, a, rfl, .inl ⟨kws, .inl h2⟩, c, G, ρ, _, rp, h4, fun z ρ1 G1 H1 w q1 e1 r1 hz => ⟨c, G1, ρ1, _, r1, q1, fun y ρ2 G2 H2 u q2 e2 r2 hy => ?_⟩⟩
  obtain ⟨a', kws', kvs', k1, k2, k3, ⟨kk, z1, z2⟩, _⟩ := dic_some r2 q2
  rw [h1] at k1
  cases k1
  refine ⟨valV kws' kk, ?_, ?_⟩
  · rw [key_v (H := H2) (.inl (hz.up e2)) z1]
    exact DGet.k k2
  · cases q : atD kvs' kk with
    | none =>
      rw [q] at z2
      rw [(kv_at k3).2 q]
      exact k _ ρ2 G2 H2 _ z2 (e1.trans e2) r2 hy
    | some d =>
      rw [q] at z2
      obtain ⟨v, v1, v2⟩ := (kv_at k3).1 d q
      rw [v1]
      exact k _ ρ2 G2 H2 _ z2 (e1.trans e2) r2 v2
/-- repr of a list or a tuple -/
def fReprT : D1 := fun x Q => match x with
  | .list ds => (PyData.list ds).showable = true ∧ (PyData.list ds).hasDict = false ∧ (PyData.list ds).depth ≤ 60 ∧ (PyData.list ds).shown.length ≤ sizeLine ∧ Q (.str (PyData.list ds).shown)
  | .tuple ds => (PyData.tuple ds).showable = true ∧ (PyData.tuple ds).hasDict = false ∧ (PyData.tuple ds).depth ≤ 60 ∧ (PyData.tuple ds).shown.length ≤ sizeLine ∧ Q (.str (PyData.tuple ds).shown)
  | _ => False
theorem rc_reprT {K : PySem.W.Frag} : RC1 (fun xs H Q => ∃ p d, xs = [.ref p] ∧ Dp K H (.ref p) d ∧ d.showable = true ∧ d.hasDict = false ∧ d.depth ≤ 60 ∧ d.shown.length ≤ sizeLine ∧ Q (.str d.shown) H) fReprT := by
  intro G H v x Q Q' e hv h k
  cases x with
  | list ds =>
    obtain ⟨a, xs, rfl, ha, hx⟩ := hv.lst e
    exact ⟨a, .list ds, rfl, hv.dp e, h.1, h.2.1, h.2.2.1, h.2.2.2.1, k _ _ H (.inl ⟨rfl, .str _⟩) h.2.2.2.2⟩
  | tuple ds =>
    obtain ⟨a, xs, rfl, ha, hx⟩ := hv.tup e
    exact ⟨a, .tuple ds, rfl, hv.dp e, h.1, h.2.1, h.2.2.1, h.2.2.2.1, k _ _ H (.inl ⟨rfl, .str _⟩) h.2.2.2.2⟩
  | _ => exact h.elim
/-- x in a list of data -/
def fInDeep : D2 := fun x y Q => match y with
  | .list ds => SeqAt.shaped x = true ∧ SeqAt.shaped (.list ds) = true ∧ Q (.bool (ds.any fun z => PyData.eqv z x))
  | _ => False
theorem ro_inDeep {K : PySem.W.Frag} : ROp (rInD K) fInDeep := by
  intro G H v w x y Q Q' e hv hw h k
  cases y with
  | list ds => exact ⟨x, ds, hv.dp e, hw.dp e, h.1, h.2.1, k _ _ H (.inl ⟨rfl, .bl _⟩) h.2.2⟩
  | _ => exact h.elim
end
end DL

set_option Elab.async false
set_option linter.all false
set_option maxRecDepth 100000
set_option maxHeartbeats 1000000
/-! DL15: comprehensions over the values of a dict of one's own. -/
namespace DL
open PySem L2 Evl PyProof.Rows RZ
mutual
/-- data lean on lists and tuples alone -/
theorem Rp.lean {G G' : Hp} (e1 : ∀ x ys, G x = some (.lst ys) → G' x = some (.lst ys)) (e2 : ∀ x ys, G x = some (.tup ys) → G' x = some (.tup ys)) : ∀ (d : PyData) (v : V), Rp G v d → Rp G' v d
  | .none, _, h => by cases h; exact .non
  | .bool b, _, h => by cases h; exact .bl b
  | .int i, _, h => by cases h; exact .int i
  | .str x, _, h => by cases h; exact .str x
  | .list ds, _, h => by
    cases h with
    | lst h1 h2 => exact .lst (e1 _ _ h1) (RpAll.lean e1 e2 ds _ h2)
  | .tuple ds, _, h => by
    cases h with
    | tup h1 h2 => exact .tup (e2 _ _ h1) (RpAll.lean e1 e2 ds _ h2)
  | .dict _, _, h => nomatch h
theorem RpAll.lean {G G' : Hp} (e1 : ∀ x ys, G x = some (.lst ys) → G' x = some (.lst ys)) (e2 : ∀ x ys, G x = some (.tup ys) → G' x = some (.tup ys)) : ∀ (ds : List PyData) (vs : List V), RpAll G vs ds → RpAll G' vs ds
  | [], _, h => by cases h; exact .nil
  | d :: ds, _, h => by
    cases h with
    | cons h1 h2 => exact .cons (Rp.lean e1 e2 d _ h1) (RpAll.lean e1 e2 ds _ h2)
end
theorem KvRp.vals {G : Hp} : ∀ {a : List (Key × V)} {b : List (Key × PyData)}, KvRp G a b → RpAll G (a.map (·.2)) (b.map (·.2))
  | _, _, .nil => .nil
  | _, _, .cons h t => .cons h (KvRp.vals t)
theorem kv_get {a : List (Key × V)} {i : Nat} {k : Key} {v : V} (h : a[i]? = some (k, v)) : (a.map (·.2))[i]? = some v := by
  rw [List.getElem?_map, h]
  rfl
section
variable {c : Co} {G H : Hp} {σ : L2.St} {ρ : Rho}
theorem lock_in {i : Nat} {a : Addr} {kws : List (Key × V)} {kvs : List (Key × PyData)} {od : Obj} (r : Rep c G σ H ρ) (hi : ρ[i]? = some (.dic kvs)) (ha : σ[i]? = some (some (.ref a))) (hk : H a = some (.dK kws)) (ga : G a = none) (h0 : c.H0 a = none) :
    Ex G (upd G a (.frz od (.dK kws))) ∧ Rep c (upd G a (.frz od (.dK kws))) σ (upd H a (.frz od (.dK kws))) (ρ.set i .no) := by
  have e : Ex G (upd G a (.frz od (.dK kws))) := Ex.new ga
  have oth : ∀ j s, j ≠ i → ρ[j]? = some s → s.mt = true → ∀ b, σ[j]? = some (some (.ref b)) → b ≠ a := fun j s hj hs m b hb z => by
    refine r.sep j i s _ hj hs hi m rfl ?_
    rw [hb, ha, z]
  refine ⟨e, ⟨⟨r.g0.trans e, fun b k1 k2 => ?_, fun b u hb => ?_, fun b u k1 k2 => ?_, fun b k1 => ?_⟩, ?_, fun j s hs => ?_, fun j l s t hjl k1 k2 m1 m2 => ?_, fun q hq => ?_, r.mats.sub (fun j s hs m => by
    rcases get_set hs with ⟨_, rfl, _⟩ | ⟨_, hs⟩
    · cases m
    · exact ⟨hs, rfl⟩) fun q hq => hq⟩⟩
  · rw [upd_ne (fun z => k1 (by rw [z]; exact h0))]
    exact r.fr b k1 k2
  · by_cases z : b = a
    · subst z
      rw [upd_same] at hb ⊢
      exact hb
    · rw [upd_ne z] at hb ⊢
      exact r.gh b u hb
  · rw [upd_ne (fun z => by rw [z, h0] at k1; cases k1)]
    exact r.hh b u k1 k2
  · by_cases z : b = a
    · rw [z, upd_same]
      exact fun y => nomatch y
    · rw [upd_ne z]
      exact r.dom b k1
  · rw [List.length_set]
    exact r.len
  · rcases get_set hs with ⟨rfl, rfl, _⟩ | ⟨hj, hs⟩
    · trivial
    · refine (r.ok j s hs).go e (fun b u z m hb => ?_) fun bs dss es b hb u hu => ?_
      · obtain ⟨b', q1, q2, _⟩ := (r.ok j s hs).adr m
        rw [z] at q1
        cases q1
        have nb := oth j s hj hs m b z
        rw [upd_ne nb, upd_ne nb]
        exact ⟨hb, q2⟩
      · subst es
        have nb : b ≠ a := fun y => (r.mats j bs dss hs).1 i _ hi rfl b hb (by rw [ha, y])
        rw [upd_ne nb, upd_ne nb]
        exact ⟨hu, ((r.ok j _ hs).inn b hb).1⟩
  · rcases get_set k1 with ⟨_, rfl, _⟩ | ⟨hj, k1⟩
    · cases m1
    · rcases get_set k2 with ⟨_, rfl, _⟩ | ⟨hl, k2⟩
      · cases m2
      · exact r.sep j l s t hjl k1 k2 m1 m2
  · obtain ⟨q1, q2, q3⟩ := r.pins q hq
    have nq : q.1 ≠ a := fun z => q3 i _ hi rfl (by rw [ha, z])
    rw [upd_ne nq, upd_ne nq]
    refine ⟨q1, q2, fun j s hs m => ?_⟩
    rcases get_set hs with ⟨_, rfl, _⟩ | ⟨hj, hs⟩
    · cases m
    · exact q3 j s hs m
def without (G : Hp) (a : Addr) : Hp := fun x => if x = a then none else G x
theorem lock_out {i : Nat} {a : Addr} {kws : List (Key × V)} {kvs : List (Key × PyData)} {od : Obj} (r : Rep c G σ H ρ) (hi : ρ[i]? = some .no) (ha : σ[i]? = some (some (.ref a))) (ga : G a = some (.frz od (.dK kws))) (h0 : c.H0 a = none) (g0 : c.G0 a = none) (kv : KvRp (without G a) kws kvs) :
    Rep c (without G a) σ (upd H a (.dK kws)) (ρ.set i (.dic kvs)) := by
  have wn : ∀ {x}, x ≠ a → without G a x = G x := fun {x} h => if_neg h
  have wa : without G a a = none := if_pos rfl
  have l1 : ∀ x ys, G x = some (.lst ys) → without G a x = some (.lst ys) := fun x ys h => by
    rw [wn fun z => by rw [z, ga] at h; cases h]
    exact h
  have l2 : ∀ x ys, G x = some (.tup ys) → without G a x = some (.tup ys) := fun x ys h => by
    rw [wn fun z => by rw [z, ga] at h; cases h]
    exact h
  have ex0 : Ex c.G0 (without G a) := fun b o hb => by
    rw [wn fun z => by rw [z, g0] at hb; cases hb]
    exact r.g0 b o hb
  have nm : ∀ (j : Nat) (s : Sl), ρ[j]? = some s → s.mt = true → ∀ b : Addr, σ[j]? = some (some (V.ref b)) → b ≠ a := fun j s hs m b hb z => by
    obtain ⟨b', q1, q2, _⟩ := (r.ok j s hs).adr m
    rw [hb] at q1
    cases q1
    rw [z, ga] at q2
    cases q2
  have ok : ∀ (j : Nat) (s : Sl), ρ[j]? = some s → SlOk c (without G a) (upd H a (.dK kws)) (σ[j]?) s := fun j s hs => by
    have o := r.ok j s hs
    cases s with
    | no => trivial
    | val d => obtain ⟨v, h1, h2⟩ := o; exact ⟨v, h1, Rp.lean l1 l2 d v h2⟩
    | scr K ns => exact o
    | bas d => exact o
    | tld d =>
      obtain ⟨v, S, h1, h2, h3⟩ := o
      exact ⟨v, S, h1, TrS.to d v S h2 l2 fun b hb o ho => by
        obtain ⟨ys, hy⟩ := TrS.lists d v S h2 b hb
        rw [hy] at ho
        cases ho
        exact l1 b ys hy, h3⟩
    | own ds =>
      obtain ⟨b, xs, h1, h2, h3, h4, h5⟩ := o
      have nb := nm j _ hs rfl b h1
      exact ⟨b, xs, h1, by rw [upd_ne nb]; exact h2, RpAll.lean l1 l2 ds xs h3, by rw [wn nb]; exact h4, h5⟩
    | pur ds =>
      obtain ⟨b, xs, h1, h2, h3, h4, h5⟩ := o
      have nb := nm j _ hs rfl b h1
      exact ⟨b, xs, h1, by rw [upd_ne nb]; exact h2, RpAll.lean l1 l2 ds xs h3, by rw [wn nb]; exact h4, h5⟩
    | dic ds =>
      obtain ⟨b, xs, h1, h2, h3, h4, h5⟩ := o
      have nb := nm j _ hs rfl b h1
      have up : ∀ {x : List (Key × V)} {y : List (Key × PyData)}, KvRp G x y → KvRp (without G a) x y := by
        intro x y h
        induction h with
        | nil => exact .nil
        | cons h _ ih => exact .cons (Rp.lean l1 l2 _ _ h) ih
      exact ⟨b, xs, h1, by rw [upd_ne nb]; exact h2, up h3, by rw [wn nb]; exact h4, h5⟩
    | mat bs dss =>
      have inn := fun b hb => SlOk.inn (H := H) (show SlOk c G H (σ[j]?) (.mat bs dss) from o) b hb
      obtain ⟨b, h1, h2, h3, h4, h5, h6, h7⟩ := o
      have nb := nm j _ hs rfl b h1
      refine ⟨b, h1, by rw [upd_ne nb]; exact h2, by rw [wn nb]; exact h3, h4, h5, h6, fun n x ds hx hd => ?_⟩
      obtain ⟨ys, q1, q2, q3, q4⟩ := h7 n x ds hx hd
      have nx : x ≠ a := fun y => by rw [y, ga] at q3; cases q3
      exact ⟨ys, by rw [upd_ne nx]; exact q1, RpAll.lean l1 l2 ds ys q2, by rw [wn nx]; exact q3, q4⟩
  refine ⟨⟨ex0, fun b k1 k2 => ?_, fun b u hb => ?_, fun b u k1 k2 => ?_, fun b k1 => ?_⟩, ?_, fun j s hs => ?_, fun j l s t hjl k1 k2 m1 m2 => ?_, fun q hq => ?_, fun k bs dss hk => ?_⟩
  rotate_left 8
  · rcases get_set hk with ⟨_, e, _⟩ | ⟨hk1, hk⟩
    · cases e
    · obtain ⟨x, y, z⟩ := r.mats k bs dss hk
      refine ⟨fun j u hj mu b hb => ?_, fun j bs' dss' hji hj => ?_, z⟩
      · rcases get_set hj with ⟨e1, _, _⟩ | ⟨_, hj⟩
        · rw [e1, ha]
          intro w
          have e2 : a = b := by have := Option.some.inj (Option.some.inj w); cases this; rfl
          have := ((r.ok k _ hk).inn b hb).1
          rw [← e2, ga] at this
          cases this
        · exact x j u hj mu b hb
      · rcases get_set hj with ⟨_, e, _⟩ | ⟨_, hj⟩
        · cases e
        · exact y j bs' dss' hji hj
  · by_cases z : b = a
    · rw [z]; exact wa
    · rw [wn z]; exact r.fr b k1 k2
  · have z : b ≠ a := fun z => by rw [z, wa] at hb; cases hb
    rw [wn z] at hb
    rw [upd_ne z]
    exact r.gh b u hb
  · rw [upd_ne (fun z => by rw [z, h0] at k1; cases k1)]
    exact r.hh b u k1 k2
  · by_cases z : b = a
    · rw [z, upd_same]
      exact fun y => nomatch y
    · rw [upd_ne z]
      exact r.dom b k1
  · rw [List.length_set]
    exact r.len
  · rcases get_set hs with ⟨rfl, rfl, _⟩ | ⟨hj, hs⟩
    · exact ⟨a, kws, ha, upd_same, kv, wa, h0⟩
    · exact ok j s hs
  · rcases get_set k1 with ⟨e1, _, _⟩ | ⟨hj, k3⟩
    · rcases get_set k2 with ⟨e2, _, _⟩ | ⟨hl, k4⟩
      · exact absurd (e1.trans e2.symm) hjl
      · intro z
        rw [e1, ha] at z
        exact nm l t k4 m2 a z.symm rfl
    · rcases get_set k2 with ⟨e2, _, _⟩ | ⟨hl, k4⟩
      · intro z
        rw [e2, ha] at z
        exact nm j s k3 m1 a z rfl
      · exact r.sep j l s t hjl k3 k4 m1 m2
  · obtain ⟨q1, q2, q3⟩ := r.pins q hq
    have nq : q.1 ≠ a := fun z => by rw [z, ga] at q2; cases q2
    rw [upd_ne nq, wn nq]
    refine ⟨q1, q2, fun j s hs m => ?_⟩
    rcases get_set hs with ⟨rfl, rfl, _⟩ | ⟨hj, hs⟩
    · intro z
      rw [ha] at z
      exact nq (by have := Option.some.inj (Option.some.inj z); cases this; rfl)
    · exact q3 j s hs m
end
/-- the turns of a comprehension over J -/
theorem lc_turns {dg : DG} {dt : DT} {de : DE} {is vs : List Nat} (hs : ∀ j ∈ is, j ∈ vs) {c : Co} {G1 : Hp} {σ : L2.St} {H1 : Hp} {ρ1 : Rho} {J : It} {items : List PyData} {Q' : List PyData → Rho → Prop} {Q : VK} (r1 : Rep c G1 σ H1 ρ1) (gv : Gives G1 J items)
    (q1 : dLc (fun ρ R => R items ρ) dg dt de vs ρ1 Q') (k : ∀ ds ρ' G' H' p xs, Q' ds ρ' → Ex G1 G' → Rep { c with pin := (p, .lst xs) :: c.pin } G' σ H' ρ' → freeAt c p → RpAll G' xs ds → Q (.ref p) H') :
    tLc (fun _ H R => H = H1 ∧ R J H) (gD is dg) (tT dt) (tD de) vs σ H1 Q := by
  refine ⟨rfl, fun D hD => ?_⟩
  obtain ⟨I, i0, step, fin⟩ := q1
  obtain ⟨Gd, Y, W, hG, hY⟩ := gv
  have fr := r1.free hD
  let Pv : Nat → Hp → Prop := fun i H' => ∃ G' ρ' acc xs, Ex G1 G' ∧ Rep { c with pin := (D, .lst xs) :: c.pin } G' (L2.wipe σ vs) H' (wipeR ρ' vs) ∧ RpAll G' xs acc ∧ I i (wipeR ρ' vs) acc
  refine lc_it W Pv ⟨G1, ρ1, [], [], Ex.refl G1, (r1.pinN hD).wiped vs, .nil, i0⟩ (fun i H' _ ⟨G', ρ', acc, xs, e, r, _, _⟩ => hG H' (e.trans r.gh)) (fun i x H' H'' hi p y => ?_) (fun H' p => ?_)
  · obtain ⟨G', ρ', acc, xs, e, r, ra, hI⟩ := p
    obtain ⟨d, hdi⟩ : ∃ d, items[i]? = some d := ⟨_, List.getElem?_eq_getElem hi⟩
    obtain ⟨G2, e2, r2, hx⟩ := r.out (hY i H' x H'' d (e.trans r.gh) y hdi G' e r.gh)
    refine ⟨_, G2, _, d, _, r2, hx, step i d _ acc hdi hI, fun σ2 ρ2 q2 r3 l2 => ?_⟩
    have hw : L2.wipe σ2 vs = L2.wipe σ vs := by rw [wipe_same l2.1 l2.2 hs, wipe_idem]
    refine ⟨hw, _, G2, ρ2, _, r3, q2, fun b ρ3 G3 H3 q3 e3 r4 => ?_⟩
    cases b with
    | false =>
      have r5 := r4.wiped vs
      rw [hw] at r5
      exact (show Pv (i + 1) H3 from ⟨G3, ρ3, acc, xs, (e.trans e2).trans e3, r5, ra.up (e2.trans e3), q3⟩)
    | true =>
      show tD de σ2 H3 _
      refine ⟨_, G3, ρ3, _, r4, q3, fun y ρ4 G4 H4 w q4 e4 r5 hy => ?_⟩
      have r6 := (r5.repin (o' := .lst (xs ++ [w])) fr).wiped vs
      rw [hw] at r6
      exact ⟨xs, (r5.pins _ List.mem_cons_self).1, sz_lt (by rw [ra.len]; exact q4.1), G4, ρ4, acc ++ [y], xs ++ [w], ((e.trans e2).trans e3).trans e4, r6, (ra.up ((e2.trans e3).trans e4)).app (.cons hy .nil), q4.2⟩
  · obtain ⟨G', ρ', acc, xs, e, r, ra, hI⟩ := p
    have r5 := r.wiped vs
    rw [wipe_idem] at r5
    exact k acc _ G' H' D xs (fin _ acc hI) e (r5.unwipe fun j hj => wipeR_no hj) fr ra
/-- [.. for x in d.values()] -/
def dLcV (i : Nat) (dg : DG) (dt : DT) (de : DE) (vs : List Nat) : DN := fun ρ Q => dic ρ i fun kvs => dLc (fun ρ R => R (kvs.map (·.2)) ρ) dg dt de vs (ρ.set i .no) fun ds ρ2 => ρ2[i]? = some .no ∧ Q ds (ρ2.set i (.dic kvs))
theorem pn_lcV {X : Cx} (i : Nat) {y : Str} {p2 apos cpos : Pos} {elt tg : Expr} {ifs : List Expr} {scope : Scope} {own : List (Str × Nat)} {pos : Pos} {dg : DG} {dt : DT} {de : DE} {is : List Nat} (hc : X.calm = true) (hNd : X.N.Nodup) (ok : BlkOk X.N X.env.scope scope own)
    (hg : ∀ (s : Shared) (H : Hp) (C : Addr) (cl : List (Str × Addr)) (fp : List Addr), PGD (X.blk s H scope (compEnvC scope cl C X.env) fp) tg is dg) (ht : ∀ (s : Shared) (H : Hp) (C : Addr) (cl : List (Str × Addr)) (fp : List Addr), PTsD (X.blk s H scope (compEnvC scope cl C X.env) fp) ifs dt)
    (he : ∀ (s : Shared) (H : Hp) (C : Addr) (cl : List (Str × Addr)) (fp : List Addr), PD (X.blk s H scope (compEnvC scope cl C X.env) fp) elt de) (hN : X.N[i]? = some y := by rfl) (hvy : Vis X.env.scope y := by first | exact Or.inl rfl | exact Or.inr (Or.inl rfl) | exact Or.inr (Or.inr rfl)) (hdy : (y == ("__debug__" : Str)) = false := by decide) (hcd : (y == ("__classdict__" : Str)) = false := by decide)
    (hj : ∀ j ∈ is, j ∈ own.map (·.2) := by decide) (hbase : attributeBase (.Name y p2) "values" X.env (eval (.Name y p2) X.env) = eval (.Name y p2) X.env := by rfl) (hline : (apos.endLine == cpos.line) = true := by rfl) (hs : ∀ x, foldedSetIterable (.Call (.Attribute (.Name y p2) "values" apos) [] [] cpos) X.env x = pure x := by intro _; rfl) :
    PN X (.ListComp elt [⟨tg, .Call (.Attribute (.Name y p2) "values" apos) [] [] cpos, ifs, 0⟩] scope pos) (dLcV i dg dt de (own.map (·.2))) := pe_imp (pe_lock (pe_lc hc hNd (pi_values (pe_var hN hvy hdy hcd) hbase hline) ok hg ht he hs)) fun σ H Q ⟨c, G, ρ, Q', rp, h, k⟩ => by
  obtain ⟨a, kws, kvs, h1, h2, h3, h4, hi, ga, h0⟩ := dic_some rp h
  refine ⟨a, .dK kws, h2, trivial, fun od => ?_⟩
  obtain ⟨eG, rL⟩ := lock_in (od := od) rp hi h1 h2 ga h0
  have g0 : c.G0 a = none := by
    cases z : c.G0 a with
    | none => rfl
    | some o => rw [rp.g0 a o z] at ga; cases ga
  have gv : Gives (upd G a (.frz od (.dK kws))) (Itd a od kws) (kvs.map (·.2)) := by
    refine ⟨fun H => H a = some (.frz od (.dK kws)), _, by rw [List.length_map, ← kv_len h3]; exact walk_values, fun H e => e _ _ upd_same, fun j H1 x H2 d e yy hd G1 e1 e2 => ?_⟩
    obtain ⟨rfl, kk, hk⟩ := yy
    obtain ⟨v, v1, v2⟩ := h3.vals.at hd
    rw [kv_get hk] at v1
    cases v1
    exact .inl ⟨rfl, v2.up (eG.trans e1)⟩
  have core := lc_turns (Q := fun v H' => H' a = some (.frz od (.dK kws)) ∧ Q v (upd H' a (.dK kws))) hj rL gv h4 fun ds ρ' G' H' p xs q e r' f h' => by
    have ga' : G' a = some (.frz od (.dK kws)) := e _ _ upd_same
    refine ⟨r'.gh _ _ ga', ?_⟩
    have l1 : ∀ x ys, G' x = some (.lst ys) → without G' a x = some (.lst ys) := fun x ys hx => by
      have z : x ≠ a := fun z => by rw [z, ga'] at hx; cases hx
      exact (if_neg z).trans hx
    have l2 : ∀ x ys, G' x = some (.tup ys) → without G' a x = some (.tup ys) := fun x ys hx => by
      have z : x ≠ a := fun z => by rw [z, ga'] at hx; cases hx
      exact (if_neg z).trans hx
    have exG : Ex G (without G' a) := fun x o hx => by
      have z : x ≠ a := fun z => by rw [z, ga] at hx; cases hx
      exact (if_neg z).trans (e _ _ (eG _ _ hx))
    have ro := lock_out (kvs := kvs) r' q.1 h1 ga' h0 g0 (KvRp.up exG h3)
    exact k ds _ _ _ p xs q.2 exG ro f (RpAll.lean l1 l2 ds xs h')
  obtain ⟨_, core⟩ := core
  exact ⟨_, h1, a, od, kws, rfl, upd_same, core⟩
end DL

set_option Elab.async false
set_option linter.all false
set_option maxRecDepth 100000
set_option maxHeartbeats 1000000
/-! DL16: blocks at whose end what was told is spoilt, with a purse about; what is told: any number of things. -/
namespace DL
open PySem L2 Evl PyProof.Rows RZ
def isI : PyData → Bool
  | .int _ => true
  | _ => false
def toB : Sl → Sl
  | .val d => .bas d
  | .pur ds => .pur ds
  | _ => .no
def unB : Sl → Sl
  | .bas d => .val d
  | .pur ds => if ds.all isI = true then .pur ds else .no
  | _ => .no
theorem rp_flatI {G G' : Hp} : ∀ {xs : List V} {ds : List PyData}, RpAll G xs ds → ds.all isI = true → RpAll G' xs ds
  | _, [], h, _ => by cases h; exact .nil
  | _, d :: ds, h, i => by
    rw [List.all_cons, Bool.and_eq_true] at i
    cases h with
    | cons h1 h2 =>
      refine .cons ?_ (rp_flatI h2 i.2)
      cases d with
      | int n => cases h1; exact .int n
      | _ => exact absurd i.1 (fun z => nomatch z)
def nest (c : Co) (G H : Hp) : Co := ⟨G, H, c.P.filter fun a => decide (∀ q ∈ c.pin, q.1 ≠ a), []⟩
section
variable {c : Co} {G H : Hp} {σ : L2.St} {ρ : Rho}
theorem toB_mt {s : Sl} (h : (toB s).mt = true) : s.mt = true := by cases s <;> first | exact h | rfl
theorem map_at' {f : Sl → Sl} {i : Nat} {s : Sl} (h : (ρ.map f)[i]? = some s) : ∃ t, ρ[i]? = some t ∧ s = f t := by
  rw [List.getElem?_map] at h
  cases q : ρ[i]? with
  | none => rw [q] at h; cases h
  | some t => rw [q] at h; cases h; exact ⟨t, rfl, rfl⟩
theorem rep_nestP (r : Rep c G σ H ρ) : Rep (nest c G H) G σ H (ρ.map toB) where
  toFin := ⟨Ex.refl G, fun _ _ h => h, r.gh, fun _ _ h _ => h, fun _ h => h⟩
  len := by rw [List.length_map, r.len]
  ok := fun i s h => by
    obtain ⟨t, ht, rfl⟩ := map_at' h
    have o := r.ok i t ht
    cases t with
    | val d => exact o
    | pur ds =>
      obtain ⟨a, xs, h1, h2, h3, h4, h5⟩ := o
      exact ⟨a, xs, h1, h2, h3, h4, List.mem_filter.mpr ⟨h5, decide_eq_true fun q hq z => (r.pins q hq).2.2 i _ ht rfl (by rw [h1, z])⟩⟩
    | _ => trivial
  sep := fun i j s t hij h1 h2 m1 m2 => by
    obtain ⟨u, hu, rfl⟩ := map_at' h1
    obtain ⟨w, hw, rfl⟩ := map_at' h2
    exact r.sep i j u w hij hu hw (toB_mt m1) (toB_mt m2)
  pins := fun q hq => nomatch hq
  mats := Mats.no fun i s h => by
    obtain ⟨t, ht, rfl⟩ := map_at' h
    cases t <;> rfl
theorem unB_mt {s : Sl} (h : (unB s).mt = true) : ∃ ds, s = .pur ds ∧ ds.all isI = true := by
  cases s with
  | pur ds =>
    refine ⟨ds, rfl, ?_⟩
    cases z : ds.all isI with
    | true => rfl
    | false =>
      have h : (if ds.all isI = true then Sl.pur ds else Sl.no).mt = true := h
      rw [z] at h
      exact absurd h (fun z => nomatch z)
  | _ => exact absurd h (fun z => nomatch z)
theorem rep_backP {G2 H2 H3 : Hp} {σ2 : L2.St} {ρ2 : Rho} {S : List Addr} (r : Rep c G σ H ρ) (r2 : Rep (nest c G H) G2 σ2 H2 ρ2) (ch : Chg H2 H3 S) (new : ∀ a ∈ S, H a = none ∧ G2 a ≠ none) : Rep c G σ2 H3 (ρ2.map unB) := by
  have keepP : ∀ a o, H a = some o → a ∉ (nest c G H).P → H3 a = some o := fun a o h hp => ch.keep a o (r2.hh a o h hp) fun z => by rw [(new a z).1] at h; cases h
  have nP : ∀ a, a ∉ c.P → a ∉ (nest c G H).P := fun a h z => h (List.mem_filter.mp z).1
  have gh : Ex G H3 := fun a o h => ch.keep a o (r2.gh a o (r2.g0 a o h)) fun z => by
    have := (new a z).1
    rw [r.gh a o h] at this
    cases this
  refine ⟨⟨r.g0, r.fr, gh, fun a o h1 h2 => keepP a o (r.hh a o h1 h2) (nP a h2), fun a h z => ?_⟩, by rw [List.length_map, r2.len], fun i s h => ?_, fun i j s t hij h1 h2 m1 m2 => ?_, fun q hq => ?_, Mats.no fun i s h => ?_⟩
  rotate_left 4
  · obtain ⟨t, ht, rfl⟩ := map_at' h
    cases z : (unB t).isM with
    | false => rfl
    | true =>
      obtain ⟨ds, rfl, hi⟩ := unB_mt (s := t) (by revert z; cases unB t <;> intro z <;> first | rfl | cases z)
      rw [show unB (.pur ds) = .pur ds from if_pos hi] at z
      cases z
  · have d2 : H2 a ≠ none := r2.dom a (r.dom a h)
    cases y : H2 a with
    | none => exact d2 y
    | some o =>
      by_cases hs : a ∈ S
      · obtain ⟨ys, e⟩ := ch.lst a hs
        rw [e] at z
        cases z
      · rw [ch.keep a o y hs] at z
        cases z
  · obtain ⟨t, ht, rfl⟩ := map_at' h
    have o := r2.ok i t ht
    cases t with
    | bas d => exact o
    | pur ds =>
      show SlOk c G H3 (σ2[i]?) (if ds.all isI = true then Sl.pur ds else Sl.no)
      by_cases hi : ds.all isI = true
      · rw [if_pos hi]
        obtain ⟨a, xs, h1, h2, h3, h4, h5⟩ := o
        refine ⟨a, xs, h1, ch.keep a _ h2 fun z => (new a z).2 h4, rp_flatI h3 hi, ?_, (List.mem_filter.mp h5).1⟩
        cases y : G a with
        | none => rfl
        | some o => rw [r2.g0 a o y] at h4; cases h4
      · rw [if_neg hi]
        trivial
    | _ => trivial
  · obtain ⟨u, hu, rfl⟩ := map_at' h1
    obtain ⟨w, hw, rfl⟩ := map_at' h2
    obtain ⟨ds, rfl, _⟩ := unB_mt m1
    obtain ⟨es, rfl, _⟩ := unB_mt m2
    exact r2.sep i j _ _ hij hu hw rfl rfl
  · obtain ⟨h1, h2, _⟩ := r.pins q hq
    refine ⟨keepP _ _ h1 fun z => (of_decide_eq_true (List.mem_filter.mp z).2) q hq rfl, h2, fun i s h m z => ?_⟩
    obtain ⟨t, ht, rfl⟩ := map_at' h
    obtain ⟨ds, rfl, _⟩ := unB_mt m
    obtain ⟨a, xs, k1, _, _, _, k5⟩ := r2.ok i _ ht
    rw [z] at k1
    cases k1
    exact (of_decide_eq_true (List.mem_filter.mp k5).2) q hq rfl
end
/-- T may be run within the block, by the data B -/
def Good (T : TS) (B : DEnds → Rho → Prop) : Prop := ∀ (D : Ends) (D' : DEnds) (c : Co) (G H : Hp) (σ : L2.St) (ρ : Rho), Rep c G σ H ρ → EndsOk c G D D' → ∀ (G2 : Hp) (σ2 : L2.St) (H2 : Hp) (ρ2 : Rho), Rep (nest c G H) G2 σ2 H2 ρ2 → B D' ρ2 → T D σ2 H2
def bCons (d : DS) (B : DEnds → Rho → Prop) : DEnds → Rho → Prop := fun D' ρ => d { nx := B D', rt := fun _ _ _ => False, bk := fun _ => False, ct := fun _ => False } ρ
theorem gd_cons {d : DS} {T : TS} {B : DEnds → Rho → Prop} (g : Good T B) : Good (tSeq (tS d) T) (bCons d B) := fun D D' c G H σ ρ r k G2 σ2 H2 ρ2 r2 h =>
  ⟨_, G2, ρ2, _, r2, h, ⟨fun σ' G' H' ρ' q _ r' => g D D' c G H σ ρ r k G' σ' H' ρ' r' q, fun _ _ _ _ _ _ _ z => z.elim, fun _ _ _ _ z => z.elim, fun _ _ _ _ z => z.elim⟩⟩
/-- _law_spoilt(told) -/
def bSpo (i n : Nat) (dr : DS) : DEnds → Rho → Prop := fun D' ρ2 => ∃ d, ρ2[i]? = some (.tld d) ∧ fitD n d = true ∧ dr D' (ρ2.map unB)
theorem gd_spo {i n : Nat} {dr : DS} : Good (tSeq (tDrop (tCall (spoS n) [] E0 (tCons (tVar i) tNil))) (tS dr)) (bSpo i n dr) := fun D D' c G H σ ρ r k G2 σ2 H2 ρ2 r2 ⟨d, hi, fit, q⟩ => by
  obtain ⟨v, S, hv, tr, nd, new⟩ := r2.ok i _ hi
  refine ⟨v, hv, G2, v, d, S, rfl, r2.gh, tr, nd, fit, fun H3 ch => ?_⟩
  refine ⟨c, G, _, D', rep_backP r r2 ch fun a ha => ⟨new a ha, fun z => ?_⟩, q, k⟩
  obtain ⟨ys, e⟩ := TrS.lists d v S tr a ha
  rw [e] at z
  cases z
/-- told[0].append('more') -/
def bApp0 (i : Nat) (dr : DS) : DEnds → Rho → Prop := fun D' ρ2 => ∃ ts ds, ρ2[i]? = some (.tld (.list (.list ts :: ds))) ∧ ts.length < 100000 ∧ dr D' (ρ2.map unB)
theorem gd_app0 {K : PySem.W.Frag} {i : Nat} {s : Str} {dr : DS} : Good (tSeq (tDrop (tBM K "list" rAppend (tOp (rIx K) (tVar i) (tC (.int 0))) (tCons (tC (.str s)) tNil))) (tS dr)) (bApp0 i dr) := fun D D' c G H σ ρ r k G2 σ2 H2 ρ2 r2 ⟨ts, ds, hi, hl, q⟩ => by
  obtain ⟨v, S, hv, tr, nd, new⟩ := r2.ok i _ hi
  cases tr with
  | @lst a xs _ T g1 g2 =>
    cases g2 with
    | @cons x0 xr _ _ S1 S2 t1 t2 =>
      cases t1 with
      | @lst b ys _ S3 g3 g4 =>
        have hb : H2 b = some (.lst ys) := r2.gh _ _ g3
        have at_0 : atI (V.ref b :: xr) 0 = some (.ref b) := by
          unfold atI ixN
          rw [if_pos (by omega), if_pos (by rw [List.length_cons]; omega)]
          rfl
        refine ⟨_, hv, Or.inl ⟨a, _, 0, _, rfl, rfl, SqL.of (r2.gh _ _ g1), at_0, ?_⟩⟩
        refine ⟨Or.inl ⟨rfl, _, SqL.of hb⟩, b, ys, _, rfl, rfl, hb, sz_lt (by rw [g4.len]; exact hl), ?_⟩
        refine ⟨c, G, _, D', rep_backP (S := [b]) r r2 ⟨fun x o hx m => ?_, fun x hx => ?_⟩ fun x hx => ⟨?_, fun z => ?_⟩, q, k⟩
        · rw [upd_ne fun z => m (List.mem_singleton.mpr z)]
          exact hx
        · rw [List.mem_singleton.mp hx]
          exact ⟨_, upd_same⟩
        · rw [List.mem_singleton.mp hx]
          exact new b (List.mem_append_left _ (List.mem_append_left _ (List.mem_append_right _ (List.mem_singleton.mpr rfl))))
        · rw [List.mem_singleton.mp hx, g3] at z
          cases z
def dBlkG (B : DEnds → Rho → Prop) : DS := fun D ρ => B D (ρ.map toB)
theorem pssd_blk {X : Cx} {sts : List Stmt} {T : TS} {B : DEnds → Rho → Prop} (h : PSs X sts T) (g : Good T B) : PSsD X sts (dBlkG B) := pss_imp h fun D σ H ⟨c, G, ρ, D', r, hB, k⟩ => g D D' c G H σ ρ r k G σ H _ (rep_nestP r) hB
/-! ### what is told -/
/-- true: a new list of what has no list in it; false: what has no list in it -/
def dtl : List (Bool × DE) → DN
  | [] => fun ρ Q => Q [] ρ
  | (true, de) :: r => fun ρ Q => de ρ fun d ρ1 => (∃ ts, d = .list ts ∧ inertAll ts = true) ∧ dtl r ρ1 fun ds ρ2 => Q (d :: ds) ρ2
  | (false, de) :: r => fun ρ Q => de ρ fun d ρ1 => inert d = true ∧ dtl r ρ1 fun ds ρ2 => Q (d :: ds) ρ2
def tTl (l : List (Bool × DE)) : TA := fun σ H Q => ∃ c G ρ Q', Rep c G σ H ρ ∧ dtl l ρ Q' ∧ ∀ ds ρ' G' H' vs S, Q' ds ρ' → Ex G G' → Rep c G' σ H' ρ' → TrSAll G' vs ds S → S.Nodup → (∀ a ∈ S, c.H0 a = none ∧ G a = none) → Q vs H'
section
variable {X : Cx} {e : Expr} {es : List Expr} {de : DE} {l : List (Bool × DE)}
theorem ptl_nil : PA X [] (tTl []) := pa_imp pa_nil fun σ H Q ⟨c, G, ρ, Q', rp, h, k⟩ => k [] ρ G H [] [] h (Ex.refl G) rp .nil List.nodup_nil fun _ z => nomatch z
theorem ptl_F (ha : PF X e de) (hr : PA X es (tTl l)) (hs : starEach (e :: es) X.env = (false, eval e X.env) :: starEach es X.env := by rfl) : PA X (e :: es) (tTl ((true, de) :: l)) := pa_imp (pa_cons ha hr hs) fun σ H Q ⟨c, G, ρ, Q', rp, h, k⟩ => by
  refine ⟨c, G, ρ, _, rp, h, fun d ρ1 G1 H1 v q1 e1 r1 hv new => ⟨c, G1, ρ1, _, r1, q1.2, fun ds ρ2 G2 H2 vs S q2 e2 r2 hs nd nS => ?_⟩⟩
  obtain ⟨⟨ts, rfl, it⟩, _⟩ := q1
  cases hv with
  | @lst b ys _ g1 g2 =>
    refine k _ ρ2 G2 H2 _ ([] ++ [b] ++ S) q2 (e1.trans e2) r2 (.cons (.lst (e2 _ _ g1) (inert_trAll ts ys (g2.up e2) it)) hs) ?_ fun a ha => ?_
    · refine List.nodup_cons.mpr ⟨fun z => ?_, nd⟩
      have := (nS b z).2
      rw [g1] at this
      cases this
    · rcases List.mem_cons.mp ha with rfl | ha
      · exact new _ rfl
      · refine ⟨(nS a ha).1, ?_⟩
        cases y : G a with
        | none => rfl
        | some o => have := (nS a ha).2; rw [e1 a o y] at this; cases this
theorem ptl_D (ha : PD X e de) (hr : PA X es (tTl l)) (hs : starEach (e :: es) X.env = (false, eval e X.env) :: starEach es X.env := by rfl) : PA X (e :: es) (tTl ((false, de) :: l)) := pa_imp (pa_cons ha hr hs) fun σ H Q ⟨c, G, ρ, Q', rp, h, k⟩ => by
  refine ⟨c, G, ρ, _, rp, h, fun d ρ1 G1 H1 v q1 e1 r1 hv => ⟨c, G1, ρ1, _, r1, q1.2, fun ds ρ2 G2 H2 vs S q2 e2 r2 hs nd nS => ?_⟩⟩
  refine k _ ρ2 G2 H2 _ ([] ++ S) q2 (e1.trans e2) r2 (.cons (inert_tr d v (hv.up e2) q1.1) hs) nd fun a ha => ⟨(nS a ha).1, ?_⟩
  cases y : G a with
  | none => rfl
  | some o => have := (nS a ha).2; rw [e1 a o y] at this; cases this
def dTld (i : Nat) (l : List (Bool × DE)) : DS := fun D ρ => dtl l ρ fun ds ρ1 => ds.length ≤ 100000 ∧ D.nx (ρ1.set i (.tld (.list ds)))
theorem psd_tld (i : Nat) {x : Str} {p pos lpos : Pos} (hN : X.N.Nodup) (ha : PA X es (tTl l)) (hi : X.N[i]? = some x := by rfl) (hx : Loc X.env.scope x := by first | exact Or.inl rfl | exact Or.inr rfl) (hs : swapsWith (.List es lpos) (some (.Name x p)) pos.line X.env = pure false := by rfl) (hf : X.fn x = true ∨ X.env.scope.names.lookup x = some .local := by first | exact .inl rfl | exact .inr rfl) :
    PSD X (.Assign [.Name x p] (.List es lpos) pos) (dTld i l) := ps_imp (ps_set hN hi hx (pe_lst ha) hs hf) fun D σ H ⟨c, G, ρ, D', r, h, k⟩ => by
  refine ⟨c, G, ρ, _, r, h, fun ds ρ1 G1 H1 vs S q1 e1 r1 tr nd new => ⟨sz_of (by rw [tr.len]; exact q1.1), fun a ap => ?_⟩⟩
  have e3 : Ex G1 (upd G1 a (.lst vs)) := Ex.new (none_up r1.gh ap)
  refine k.nx _ _ _ _ q1.2 (e1.trans e3) ((r1.new (o := .lst vs) ap).setS rfl ⟨.ref a, S ++ [a], rfl, .lst upd_same (TrSAll.to ds vs S tr (fun x ys hx => e3 _ _ hx) fun x _ o hx => e3 _ _ hx), ?_, fun y hy => ?_⟩)
  · refine List.nodup_append.mpr ⟨nd, List.nodup_cons.mpr ⟨(fun z => (nomatch z)), List.nodup_nil⟩, fun x hx y hy z => ?_⟩
    rw [List.mem_singleton.mp hy] at z
    obtain ⟨ys, hy2⟩ := TrSAll.lists ds vs S tr x hx
    rw [z, none_up r1.gh ap] at hy2
    cases hy2
  · rcases List.mem_append.mp hy with hy | hy
    · exact (new y hy).1
    · rw [List.mem_singleton.mp hy]
      exact (r1.free ap).1
end
end DL

set_option Elab.async false
set_option linter.all false
set_option maxRecDepth 100000
set_option maxHeartbeats 1000000
/-! DL17: more assignments at once. -/
namespace DL
open PySem L2 Evl PyProof.Rows RZ
section
variable {X : Cx} {e1 e2 e3 : Expr} {da db dc : DE} {dn : DN} {pos : Pos}
def dPar3 (i j l : Nat) (da db dc : DE) : DS := fun D ρ => da ρ fun x ρ1 => db ρ1 fun y ρ2 => dc ρ2 fun z ρ3 => D.nx (((ρ3.set i (.val x)).set j (.val y)).set l (.val z))
theorem psd_par3 (i j l : Nat) {x y z : Str} {px py pz pt : Pos} {kt k2 pt2} (hc : X.calm = true) (hN : X.N.Nodup) (ha : PD X e1 da) (hb : PD X e2 db) (hd : PD X e3 dc) (hi : X.N[i]? = some x := by rfl) (hj : X.N[j]? = some y := by rfl) (hl : X.N[l]? = some z := by rfl) (hij : i ≠ j := by decide) (hil : i ≠ l := by decide) (hjl : j ≠ l := by decide)
    (hx : X.env.scope.names.lookup x = some .local := by rfl) (hy : X.env.scope.names.lookup y = some .local := by rfl) (hz : X.env.scope.names.lookup z = some .local := by rfl) (hs1 : starEach [e1, e2, e3] X.env = (false, eval e1 X.env) :: starEach [e2, e3] X.env := by rfl) (hs2 : starEach [e2, e3] X.env = (false, eval e2 X.env) :: starEach [e3] X.env := by rfl) (hs3 : starEach [e3] X.env = (false, eval e3 X.env) :: starEach [] X.env := by rfl)
    (hw : swappedStores [.Tuple [.Name x px, .Name y py, .Name z pz] kt pt] (.Tuple [e1, e2, e3] k2 pt2) X.env = pure (some [x, y, z]) := by rfl) (hs : swapsWithSole [.Tuple [.Name x px, .Name y py, .Name z pz] kt pt] (.Tuple [e1, e2, e3] k2 pt2) pos.line X.env = pure false := by rfl) :
    PSD X (.Assign [.Tuple [.Name x px, .Name y py, .Name z pz] kt pt] (.Tuple [e1, e2, e3] k2 pt2) pos) (dPar3 i j l da db dc) := ps_imp (ps_par3 hc hN hi hj hl hij hil hjl hx hy hz (pa_cons ha (pa_cons hb (pa_cons hd pa_nil hs3) hs2) hs1) hw hs) fun D σ H ⟨c, G, ρ, D', r, h, k⟩ =>
  ⟨c, G, ρ, _, r, h, fun d ρ1 G1 H1 v q1 f1 r1 hx => ⟨c, G1, ρ1, _, r1, q1, fun d2 ρ2 G2 H2 w q2 f2 r2 hy => ⟨c, G2, ρ2, _, r2, q2, fun d3 ρ3 G3 H3 u q3 f3 r3 hz => ⟨v, w, u, rfl, k.nx _ G3 H3 _ q3 ((f1.trans f2).trans f3) (((r3.setV (hx.up (f2.trans f3))).setV (hy.up f3)).setV hz)⟩⟩⟩⟩
/-- a, b = x, [..] -/
def dParVN (i j : Nat) (da : DE) (dn : DN) : DS := fun D ρ => da ρ fun x ρ1 => dn ρ1 fun ys ρ2 => D.nx ((ρ2.set i (.val x)).set j (.own ys))
theorem psd_parVN (i j : Nat) {x y : Str} {px py pt : Pos} {kt k2 pt2} (hc : X.calm = true) (hN : X.N.Nodup) (ha : PD X e1 da) (hb : PN X e2 dn) (hi : X.N[i]? = some x := by rfl) (hj : X.N[j]? = some y := by rfl) (hij : i ≠ j := by decide)
    (hx : X.env.scope.names.lookup x = some .local := by rfl) (hy : X.env.scope.names.lookup y = some .local := by rfl) (hs1 : starEach [e1, e2] X.env = (false, eval e1 X.env) :: starEach [e2] X.env := by rfl) (hs2 : starEach [e2] X.env = (false, eval e2 X.env) :: starEach [] X.env := by rfl)
    (hw : swappedStores [.Tuple [.Name x px, .Name y py] kt pt] (.Tuple [e1, e2] k2 pt2) X.env = pure (some [x, y]) := by rfl) (hs : swapsWithSole [.Tuple [.Name x px, .Name y py] kt pt] (.Tuple [e1, e2] k2 pt2) pos.line X.env = pure false := by rfl) :
    PSD X (.Assign [.Tuple [.Name x px, .Name y py] kt pt] (.Tuple [e1, e2] k2 pt2) pos) (dParVN i j da dn) := ps_imp (ps_par hc hN hi hj hij hx hy (pa_cons ha (pa_cons hb pa_nil hs2) hs1) hw hs) fun D σ H ⟨c, G, ρ, D', r, h, k⟩ =>
  ⟨c, G, ρ, _, r, h, fun d ρ1 G1 H1 v q1 f1 r1 hx => ⟨c, G1, ρ1, _, r1, q1, fun ds ρ2 G2 H2 p xs q2 f2 r2 f hy => ⟨v, _, rfl, k.nx _ G2 H2 _ q2 (f1.trans f2)
    ((r2.setV (hx.up f2)).setM (s := .own ds) rfl ⟨p, xs, rfl, (r2.pins _ List.mem_cons_self).1, hy, (r2.pins _ List.mem_cons_self).2.1, f.1⟩ f.2)⟩⟩⟩
/-- the same where one of the names is a cell: a tuple is laid and taken apart -/
theorem psd_unpVN (i j : Nat) {x y : Str} {px py pt : Pos} {kt k2 pt2} (hc : X.calm = true) (hN : X.N.Nodup) (ha : PD X e1 da) (hb : PN X e2 dn) (hi : X.N[i]? = some x := by rfl) (hj : X.N[j]? = some y := by rfl)
    (hx : Loc X.env.scope x := by first | exact Or.inl rfl | exact Or.inr rfl) (hy : Loc X.env.scope y := by first | exact Or.inl rfl | exact Or.inr rfl) (hfx : X.fn x = true ∨ X.env.scope.names.lookup x = some .local := by first | exact .inl rfl | exact .inr rfl) (hfy : X.fn y = true ∨ X.env.scope.names.lookup y = some .local := by first | exact .inl rfl | exact .inr rfl) (hs1 : starEach [e1, e2] X.env = (false, eval e1 X.env) :: starEach [e2] X.env := by rfl) (hs2 : starEach [e2] X.env = (false, eval e2 X.env) :: starEach [] X.env := by rfl)
    (hw : swappedStores [.Tuple [.Name x px, .Name y py] kt pt] (.Tuple [e1, e2] k2 pt2) X.env = pure none := by rfl) (hs : swapsWithSole [.Tuple [.Name x px, .Name y py] kt pt] (.Tuple [e1, e2] k2 pt2) pos.line X.env = pure false := by rfl)
    (h1 : (assignEach [.Tuple [.Name x px, .Name y py] kt pt] X.env).map (·.2) = [assign (.Tuple [.Name x px, .Name y py] kt pt) X.env] := by rfl) (h2 : (assignEach [.Name x px, .Name y py] X.env).map (·.2) = assign (.Name x px) X.env :: (assignEach [.Name y py] X.env).map (·.2) := by rfl) (h3 : (assignEach [.Name y py] X.env).map (·.2) = assign (.Name y py) X.env :: (assignEach [] X.env).map (·.2) := by rfl)
    (hn : (assignEach [.Name x px, .Name y py] X.env).length = 2 := by rfl) (hst : (assignEach [.Name x px, .Name y py] X.env).findIdx? (·.1) = none := by rfl) :
    PSD X (.Assign [.Tuple [.Name x px, .Name y py] kt pt] (.Tuple [e1, e2] k2 pt2) pos) (dParVN i j da dn) := ps_imp (ps_asg (pe_tup (pa_cons ha (pa_cons hb pa_nil hs2) hs1)) (pg_tup hc (pgs_cons (pg_name hN hi hx hfx) (pgs_cons (pg_name hN hj hy hfy) pgs_nil h3) h2) hn hst) hs hw h1) fun D σ H ⟨c, G, ρ, D', r, h, k⟩ => by
  refine ⟨c, G, ρ, _, r, h, fun d ρ1 G1 H1 v q1 f1 r1 hx => ⟨c, G1, ρ1, _, r1, q1, fun ds ρ2 G2 H2 p xs q2 f2 r2 f hy => ⟨sz_of (by decide : 2 ≤ 100000), fun t ht => ?_⟩⟩⟩
  have r3 := r2.newH (o := .tup [v, .ref p]) ht
  refine ⟨t, _, rfl, SqT.of upd_same, rfl, _, _, rfl, _, _, rfl, rfl, ?_⟩
  exact k.nx _ G2 _ _ q2 (f1.trans f2) ((r3.setV (hx.up f2)).setM (s := .own ds) rfl ⟨p, xs, rfl, (r3.pins _ List.mem_cons_self).1, hy, (r3.pins _ List.mem_cons_self).2.1, f.1⟩ f.2)
/-- list(range(n)), list(range(a, b)) -/
theorem rp_rgV {G : Hp} (a b : Int) : RpAll G (rgV a b) (rngD a (b - a).toNat) := by
  unfold rgV rngD
  generalize List.range (b - a).toNat = l
  induction l with
  | nil => exact .nil
  | cons x r ih => exact .cons (.int _) ih
def dLRg1 (da : DE) : DN := fun ρ Q => da ρ fun x ρ1 => ∃ n : Int, x = .int n ∧ 0 ≤ n ∧ n ≤ 16000000 ∧ Q (rngD 0 n.toNat) ρ1
theorem pn_listRg1 {a : Expr} {p p2 pos2 : Pos} (hc : X.calm = true) (hm2 : X.mg "range" = none) (hm : X.mg "list" = none) (ha : PD X a da) (hg : Gl X "list" := by rfl) (hg2 : Gl X "range" := by rfl) (na : starEach [a] X.env = (false, eval a X.env) :: starEach [] X.env := by rfl) (nb : starEach [.Call (.Name "range" p2) [a] [] pos2] X.env = (false, eval (.Call (.Name "range" p2) [a] [] pos2) X.env) :: starEach [] X.env := by rfl) :
    PN X (.Call (.Name "list" p) [.Call (.Name "range" p2) [a] [] pos2] [] pos) (dLRg1 da) := pe_imp (pe_listRg hc hg hm (prg_1 hg2 hm2 ha na) nb) fun σ H Q ⟨c, G, ρ, Q', rp, h, k⟩ => by
  refine ⟨c, G, ρ, _, rp, h, fun d ρ1 G1 H1 v q1 e1 r1 hx => ?_⟩
  obtain ⟨n, rfl, h0, h1, q⟩ := q1
  cases hx
  refine ⟨n, rfl, RgOk.of_le (by decide) (by omega) (by decide) h0, fun t ht => ?_⟩
  have e : rngD 0 n.toNat = rngD 0 (n - 0).toNat := by rw [Int.sub_zero]
  rw [e] at q
  exact k _ ρ1 G1 _ t _ q e1 (r1.pinN ht) (r1.free ht) (rp_rgV 0 n)
end
end DL

set_option Elab.async false
set_option linter.all false
set_option maxRecDepth 100000
set_option maxHeartbeats 1000000
/-! DL18: `[..] * n` as a new list, `d = {}`, `d[k] = e` at a key old or new. -/
namespace DL
open PySem L2 Evl PyProof.Rows RZ
section
variable {X : Cx} {e a b kx : Expr} {de da db dk : DE} {pos : Pos}
def dRepN (da db : DE) : DN := fun ρ Q => da ρ fun x ρ1 => db ρ1 fun y ρ2 => match x, y with
  | .list ds, .int k => (-(2 ^ 63) ≤ k ∧ k < 2 ^ 63 ∧ ds.length * k.toNat ≤ 100000) ∧ Q (repD k.toNat ds) ρ2
  | _, _ => False
theorem pn_rep (ha : PD X a da) (hb : PR X b db) : PN X (.BinOp a .Mult b pos) (dRepN da db) := pe_imp (pe_op op_rep ha hb) fun σ H Q ⟨c, G, ρ, Q', rp, h, k⟩ => by
  refine ⟨c, G, ρ, _, rp, h, fun x ρ1 G1 H1 v q1 e1 r1 hx => ⟨c, G1, ρ1, _, r1, q1, fun y ρ2 G2 H2 w q2 e2 r2 hy => ?_⟩⟩
  cases x with
  | list ds =>
    cases y with
    | int n =>
      have hx2 := hx.up e2
      cases hx2 with
      | lst h4 h5 =>
      exact ⟨_, n, _, rfl, hy.int, r2.gh _ _ h4, q2.1.1, q2.1.2.1, sz_of (by rw [h5.len]; exact q2.1.2.2), fun p hp => k _ ρ2 G2 _ p _ q2.2 (e1.trans e2) (r2.pinN hp) (r2.free hp) (h5.rep _)⟩
    | _ => exact q2.elim
  | _ => cases y <;> exact q2.elim
/-- d = {} -/
def dSetDic (i : Nat) : DS := fun D ρ => D.nx (ρ.set i (.dic []))
theorem psd_setDic (i : Nat) {x : Str} {p pd : Pos} (hN : X.N.Nodup) (hi : X.N[i]? = some x := by rfl) (hx : Loc X.env.scope x := by first | exact Or.inl rfl | exact Or.inr rfl) (hs : swapsWith (.Dict [] [] pd) (some (.Name x p)) pos.line X.env = pure false := by rfl) (hf : X.fn x = true ∨ X.env.scope.names.lookup x = some .local := by first | exact .inl rfl | exact .inr rfl) :
    PSD X (.Assign [.Name x p] (.Dict [] [] pd) pos) (dSetDic i) := ps_imp (ps_set hN hi hx pe_dnewK hs hf) fun D σ H ⟨c, G, ρ, D', r, h, k⟩ => by
  intro p hp
  have r1 := r.pinN (o := .dK []) hp
  have fp := r.free hp
  have a2 := r1.pins (p, .dK []) List.mem_cons_self
  exact k.nx _ G _ _ h (Ex.refl G) (Rep.setM (c := c) (i := i) r1 (s := .dic []) rfl ⟨p, [], rfl, a2.1, .nil, a2.2.1, fp.1⟩ fp.2)
/-- put in its place, or at the end -/
def putD (kvs : List (Key × PyData)) (k : Key) (d : PyData) : List (Key × PyData) := if (atD kvs k).isSome then kvs.map (fun kv => if kv.1 = k then (kv.1, d) else kv) else kvs ++ [(k, d)]
theorem kv_put {G : Hp} {k : Key} {v : V} {d : PyData} {a : List (Key × V)} {b : List (Key × PyData)} (h : KvRp G a b) (hv : Rp G v d) : KvRp G (putK a k v) (putD b k d) := by
  cases q : atD b k with
  | none =>
    have e : putD b k d = b ++ [(k, d)] := by unfold putD; rw [q]; rfl
    rw [e]
    exact kv_new h q hv
  | some z =>
    have e : putD b k d = b.map (fun kv => if kv.1 = k then (kv.1, d) else kv) := by unfold putD; rw [q]; rfl
    obtain ⟨u, u1, _⟩ := (kv_at h).1 z q
    have e2 : putK a k v = a.map (fun kv => if kv.1 = k then (kv.1, v) else kv) := by
      unfold putK
      rw [valV_any, u1]
      rfl
    rw [e, e2]
    clear e e2 q u1
    induction h with
    | nil => exact .nil
    | @cons j w f r s hw t ih =>
      rw [List.map_cons, List.map_cons]
      by_cases y : j = k
      · rw [if_pos (show (j, w).1 = k from y), if_pos (show (j, f).1 = k from y)]
        exact .cons hv ih
      · rw [if_neg (show ¬ (j, w).1 = k from y), if_neg (show ¬ (j, f).1 = k from y)]
        exact .cons hw ih
def dDPutU (i : Nat) (dk de : DE) : DS := fun D ρ => de ρ fun d ρ1 => dic ρ1 i fun _ => dk ρ1 fun z ρ2 => dic ρ2 i fun kvs => ∃ k, keyD z = some k ∧ kvs.length < 100000 ∧ D.nx (ρ2.set i (.dic (putD kvs k d)))
theorem psd_dputU (i : Nat) {y : Str} {p2 p3 : Pos} (hu : X.A.units + 1 < cLine) (he : PD X e de) (hk : PD X kx dk) (hN : X.N[i]? = some y := by rfl) (hvy : Vis X.env.scope y := by first | exact Or.inl rfl | exact Or.inr (Or.inl rfl) | exact Or.inr (Or.inr rfl)) (hdy : (y == ("__debug__" : Str)) = false := by decide) (hcd : (y == ("__classdict__" : Str)) = false := by decide)
    (hs : swapsWith e (some (.Subscript (.Name y p2) kx p3)) pos.line X.env = pure false := by rfl) : PSD X (.Assign [.Subscript (.Name y p2) kx p3] e pos) (dDPutU i dk de) := ps_imp (ps_dput hu (pe_var hN hvy hdy hcd) hk he hs) fun D σ H ⟨c, G, ρ, D', r, h, k⟩ => by
  refine ⟨c, G, ρ, _, r, h, fun d ρ1 G1 H1 v q1 e1 r1 hx => ?_⟩
  obtain ⟨a, _, _, h1, _, _, h4, _⟩ := dic_some r1 q1
  refine ⟨_, h1, c, G1, ρ1, _, r1, h4, fun z ρ2 G2 H2 w q2 e2 r2 hz => ?_⟩
  obtain ⟨a', kws, kvs, k1, k2, k3, ⟨kk, z1, z3, z4⟩, k5, k6, k7⟩ := dic_some r2 q2
  rw [h1] at k1
  cases k1
  refine ⟨a, _, rfl, ?_, k.nx _ G2 _ _ z4 (e1.trans e2) (r2.chg (t := .dic (putD kvs kk d)) (o := .dK (putK kws kk v)) k5 rfl rfl h1 (.inl k7) ⟨a, _, rfl, upd_same, kv_put k3 (hx.up e2), k6, k7⟩)⟩
  rw [key_v (H := H2) (.inl hz) z1]
  exact DPut.k k2 (sz_lt (by rw [kv_len k3]; exact z3))
end
end DL

set_option Elab.async false
set_option linter.all false
set_option maxRecDepth 100000
set_option maxHeartbeats 1000000
/-! DL19: a list of one's own whose items are lists of one's own. -/
namespace DL
open PySem L2 Evl PyProof.Rows RZ
section
variable {c : Co} {G G1 H H1 : Hp} {σ : L2.St} {ρ ρ1 : Rho}
def over (G H : Hp) (S : List Addr) : Hp := fun x => if x ∈ S then H x else G x
theorem rp_rows {G' H : Hp} : ∀ (bs : List Addr) (dss : List (List PyData)), bs.length = dss.length → (∀ (k : Nat) (b : Addr) (ds : List PyData), bs[k]? = some b → dss[k]? = some ds → ∃ ys, G' b = some (.lst ys) ∧ RpAll G' ys ds) → RpAll G' (bs.map V.ref) (dss.map PyData.list)
  | [], [], _, _ => .nil
  | [], _ :: _, h, _ => by cases h
  | _ :: _, [], h, _ => by cases h
  | b :: bs, ds :: dss, hl, k => by
    obtain ⟨ys, q1, q2⟩ := k 0 b ds rfl rfl
    exact .cons (.lst q1 q2) (rp_rows (H := H) bs dss (by simpa using hl) fun n x d hx hd => k (n + 1) x d hx hd)
/-- such a list becomes data -/
theorem Rep.freezeM (r : Rep c G σ H ρ) {i : Nat} {bs : List Addr} {dss : List (List PyData)} (h : ρ[i]? = some (.mat bs dss)) : ∃ v G', σ[i]? = some (some v) ∧ Ex G G' ∧ Rep c G' σ H (ρ.set i (.val (.list (dss.map .list)))) ∧ Rp G' v (.list (dss.map .list)) := by
  have inn := SlOk.inn (r.ok i _ h)
  obtain ⟨a, h1, h2, h3, h4, h5, h6, h7⟩ := r.ok i _ h
  obtain ⟨m1, m2, m3⟩ := r.mats i bs dss h
  have new : ∀ x ∈ a :: bs, G x = none ∧ H x ≠ none ∧ c.H0 x = none := fun x hx => by
    rcases List.mem_cons.mp hx with rfl | hx
    · exact ⟨h3, by rw [h2]; exact fun z => (nomatch z), h4⟩
    · exact inn x hx
  have ow : ∀ {x}, x ∈ a :: bs → over G H (a :: bs) x = H x := fun h => if_pos h
  have on : ∀ {x}, x ∉ a :: bs → over G H (a :: bs) x = G x := fun h => if_neg h
  have e : Ex G (over G H (a :: bs)) := fun x o hx => by
    rw [on fun z => by rw [(new x z).1] at hx; cases hx]
    exact hx
  have ra : Rp (over G H (a :: bs)) (.ref a) (.list (dss.map .list)) := .lst (by rw [ow List.mem_cons_self]; exact h2) (rp_rows (H := H) bs dss h6 fun k b ds hb hd => by
    obtain ⟨ys, q1, q2, _⟩ := h7 k b ds hb hd
    exact ⟨ys, by rw [ow (List.mem_cons_of_mem _ (List.mem_of_getElem? hb))]; exact q1, q2.up e⟩)
  have away : ∀ (j : Nat) (s : Sl), j ≠ i → ρ[j]? = some s → s.mt = true → ∀ b : Addr, σ[j]? = some (some (V.ref b)) → b ∉ a :: bs := fun j s hj hs m b hb z => by
    rcases List.mem_cons.mp z with rfl | z
    · exact r.sep j i s _ hj hs h m rfl (by rw [hb, h1])
    · exact m1 j s hs m b z hb
  refine ⟨.ref a, _, h1, e, ⟨⟨r.g0.trans e, fun b k1 k2 => ?_, fun b u hb => ?_, r.hh, r.dom⟩, ?_, fun j s hs => ?_, fun j l s t hjl k1 k2 m1 m2 => ?_, fun q hq => ?_, r.mats.sub (fun j s hs m => by
    rcases get_set hs with ⟨_, rfl, _⟩ | ⟨_, hs⟩
    · cases m
    · exact ⟨hs, rfl⟩) fun q hq => hq⟩, ra⟩
  · rw [on fun z => k1 (new b z).2.2]
    exact r.fr b k1 k2
  · by_cases z : b ∈ a :: bs
    · rw [ow z] at hb
      exact hb
    · rw [on z] at hb
      exact r.gh b u hb
  · rw [List.length_set]
    exact r.len
  · rcases get_set hs with ⟨rfl, rfl, hi⟩ | ⟨hj, hs⟩
    · exact ⟨.ref a, h1, ra⟩
    · refine (r.ok j s hs).go e (fun b u z m hb => ⟨hb, ?_⟩) fun bs' dss' es b hb u hu => ⟨hu, ?_⟩
      · obtain ⟨b', q1, q2, _⟩ := (r.ok j s hs).adr m
        rw [z] at q1
        cases q1
        rw [on (away j s hj hs m b z)]
        exact q2
      · subst es
        have nb : b ∉ a :: bs := fun z => by
          rcases List.mem_cons.mp z with rfl | z
          · exact (r.mats j bs' dss' hs).1 i _ h rfl b hb h1
          · exact m2 j bs' dss' hj hs b z hb
        rw [on nb]
        exact ((r.ok j _ hs).inn b hb).1
  · rcases get_set k1 with ⟨_, rfl, _⟩ | ⟨hj, k1⟩
    · cases m1
    · rcases get_set k2 with ⟨_, rfl, _⟩ | ⟨hl, k2⟩
      · cases m2
      · exact r.sep j l s t hjl k1 k2 m1 m2
  · obtain ⟨q1, q2, q3⟩ := r.pins q hq
    have nq : q.1 ∉ a :: bs := fun z => by
      rcases List.mem_cons.mp z with z | z
      · exact q3 i _ h rfl (by rw [h1, z])
      · exact m3 q hq z
    refine ⟨q1, ?_, fun j s hs m => ?_⟩
    · rw [on nq]
      exact q2
    · rcases get_set hs with ⟨_, rfl, _⟩ | ⟨hj, hs⟩
      · cases m
      · exact q3 j s hs m
/-- one of its lists is changed -/
theorem Rep.chgM (r : Rep c G σ H ρ) {i k : Nat} {bs : List Addr} {dss : List (List PyData)} {b : Addr} {ds' : List PyData} {ys' : List V} (h : ρ[i]? = some (.mat bs dss)) (hb : bs[k]? = some b) (hy : RpAll G ys' ds') : Rep c G σ (upd H b (.lst ys')) (ρ.set i (.mat bs (dss.set k ds'))) := by
  have inn := SlOk.inn (r.ok i _ h) b (List.mem_of_getElem? hb)
  have hbm := List.mem_of_getElem? hb
  obtain ⟨a, h1, h2, h3, h4, h5, h6, h7⟩ := r.ok i _ h
  obtain ⟨m1, m2, m3⟩ := r.mats i bs dss h
  have hi := (List.getElem?_eq_some_iff.mp h).1
  have hk := (List.getElem?_eq_some_iff.mp hb).1
  have fix : ∀ {j : Nat} {u : Sl}, (ρ.set i (.mat bs (dss.set k ds')))[j]? = some u → u.mt = true → ∃ u', ρ[j]? = some u' ∧ u'.mt = true := fun {j u} q mu => by
    rcases get_set q with ⟨rfl, rfl, _⟩ | ⟨_, q⟩
    · exact ⟨_, h, rfl⟩
    · exact ⟨u, q, mu⟩
  refine ⟨⟨r.g0, r.fr, fun x u hx => ?_, fun x u k1 k2 => ?_, fun x hx => ?_⟩, by rw [List.length_set]; exact r.len, fun j s hs => ?_, fun j l s t hjl k1 k2 n1 n2 => ?_, fun q hq => ?_, fun j bs' dss' hj => ?_⟩
  · rw [upd_ne (ne_of_none hx inn.1)]
    exact r.gh x u hx
  · rw [upd_ne (fun z => by rw [z, inn.2.2] at k1; cases k1)]
    exact r.hh x u k1 k2
  · by_cases z : x = b
    · rw [z, upd_same]
      exact fun y => nomatch y
    · rw [upd_ne z]
      exact r.dom x hx
  · rcases get_set hs with ⟨rfl, rfl, _⟩ | ⟨hj, hs⟩
    · have nab : a ≠ b := fun z => m1 j _ h rfl b hbm (by rw [h1, z])
      refine ⟨a, h1, by rw [upd_ne nab]; exact h2, h3, h4, h5, by rw [List.length_set]; exact h6, fun n x ds hx hd => ?_⟩
      rcases get_set hd with ⟨rfl, rfl, _⟩ | ⟨hn, hd⟩
      · rw [hb] at hx
        cases hx
        exact ⟨ys', upd_same, hy, inn.1, inn.2.2⟩
      · obtain ⟨ys, q1, q2⟩ := h7 n x ds hx hd
        have nx : x ≠ b := fun z => by
          subst z
          obtain ⟨l1, l2⟩ := List.getElem?_eq_some_iff.mp hx
          obtain ⟨l3, l4⟩ := List.getElem?_eq_some_iff.mp hb
          rcases Nat.lt_or_ge n k with y | y
          · exact List.pairwise_iff_getElem.mp h5 n k l1 l3 y (by rw [l2, l4])
          · exact List.pairwise_iff_getElem.mp h5 k n l3 l1 (by omega) (by rw [l2, l4])
        exact ⟨ys, by rw [upd_ne nx]; exact q1, q2⟩
    · refine (r.ok j s hs).go (Ex.refl G) (fun x u z m hx => ?_) fun bs' dss' es x hx u hu => ?_
      · obtain ⟨b', q1, q2, _⟩ := (r.ok j s hs).adr m
        rw [z] at q1
        cases q1
        refine ⟨?_, q2⟩
        rw [upd_ne (fun y => m1 j s hs m b hbm (by rw [z, y]))]
        exact hx
      · subst es
        refine ⟨?_, ((r.ok j _ hs).inn x hx).1⟩
        rw [upd_ne (fun y => m2 j bs' dss' hj hs b hbm (by rw [← y]; exact hx))]
        exact hu
  · obtain ⟨u', q1, q2⟩ := fix k1 n1
    obtain ⟨w', q3, q4⟩ := fix k2 n2
    exact r.sep j l u' w' hjl q1 q3 q2 q4
  · obtain ⟨q1, q2, q3⟩ := r.pins q hq
    refine ⟨?_, q2, fun j u hs mu => ?_⟩
    · rw [upd_ne (fun z => m3 q hq (by rw [z]; exact hbm))]
      exact q1
    · obtain ⟨u', w1, w2⟩ := fix hs mu
      exact q3 j u' w1 w2
  · have old : ∃ d2, ρ[j]? = some (.mat bs' d2) := by
      rcases get_set hj with ⟨rfl, e, _⟩ | ⟨_, hj⟩
      · cases e
        exact ⟨_, h⟩
      · exact ⟨_, hj⟩
    obtain ⟨d2, hj2⟩ := old
    obtain ⟨x, y, z⟩ := r.mats j bs' d2 hj2
    refine ⟨fun l u hl mu b hb => ?_, fun l bs2 dss2 hlj hl => ?_, z⟩
    · obtain ⟨u', w1, w2⟩ := fix hl mu
      exact x l u' w1 w2 b hb
    · rcases get_set hl with ⟨rfl, e, _⟩ | ⟨_, hl⟩
      · cases e
        exact y l bs _ hlj h
      · exact y l bs2 dss2 hlj hl
/-! ### what stays when such a list comes to be -/
def KeepS (x : Option Sl) : Sl → Prop
  | .no => True
  | .val d => x = some (.val d)
  | .bas d => x = some (.bas d)
  | .scr K ns => x = some (.scr K ns)
  | .own ds => ds.all isI = true
  | .pur ds => ds.all isI = true
  | _ => False
def Keeps : Rho → Rho → Prop
  | s :: r, t :: u => KeepS (some s) t ∧ Keeps r u
  | [], [] => True
  | _, _ => False
theorem keeps_at : ∀ {ρ ρ1 : Rho} {j : Nat} {s : Sl}, Keeps ρ ρ1 → ρ1[j]? = some s → KeepS (ρ[j]?) s
  | [], [], j, s, _, h => by cases h
  | [], _ :: _, _, _, k, _ => k.elim
  | _ :: _, [], _, _, k, _ => k.elim
  | t :: r, u :: v, 0, s, k, h => by
    cases h
    exact k.1
  | t :: r, u :: v, j + 1, s, k, h => keeps_at (j := j) k.2 h
theorem rep_mat {p : Addr} {bs : List Addr} {dss : List (List PyData)} {i : Nat} (r : Rep c G σ H ρ) (r1 : Rep { c with pin := (p, .lst (bs.map V.ref)) :: c.pin } G1 σ H1 ρ1) (e1 : Ex G G1) (kp : Keeps ρ ρ1) (fp : freeAt c p) (hx : RpAll G1 (bs.map V.ref) (dss.map PyData.list)) (fl : ∀ ds ∈ dss, ds.all isI = true) (nd : bs.Nodup) (new : ∀ b ∈ bs, G b = none ∧ c.H0 b = none) :
    Rep c G (σ.set i (some (.ref p))) H1 (ρ1.set i (.mat bs dss)) := by
  have dn : ∀ {x : Addr}, G1 x = none → G x = none := fun {x} h => by
    cases q : G x with
    | none => rfl
    | some o => rw [e1 x o q] at h; cases h
  obtain ⟨p1, p2, p3⟩ := r1.pins _ List.mem_cons_self
  have inG : ∀ b ∈ bs, G1 b ≠ none := fun b hb => by
    obtain ⟨n, hn⟩ := List.getElem?_of_mem hb
    obtain ⟨d, _, hd⟩ := hx.atv (i := n) (v := .ref b) (by rw [List.getElem?_map, hn]; rfl)
    cases hd with
    | lst q _ => rw [q]; exact fun z => nomatch z
    | tup q _ => rw [q]; exact fun z => nomatch z
  have hl : bs.length = dss.length := by
    have := hx.len
    rw [List.length_map, List.length_map] at this
    exact this
  have adr : ∀ (j : Nat) (s : Sl), ρ1[j]? = some s → s.mt = true → ∃ a : Addr, σ[j]? = some (some (V.ref a)) ∧ G1 a = none := fun j s hs m => by
    obtain ⟨a, q1, q2, _⟩ := (r1.ok j s hs).adr m
    exact ⟨a, q1, q2⟩
  have nm : ∀ (j : Nat) (s : Sl), ρ1[j]? = some s → s.isM = false := fun j s hs => by
    have := keeps_at kp hs
    cases s <;> first | rfl | exact this.elim
  refine ⟨⟨r.g0, r.fr, e1.trans r1.gh, r1.hh, r1.dom⟩, by rw [List.length_set, List.length_set]; exact r1.len, fun j s hs => ?_, fun j l s t hjl k1 k2 n1 n2 => ?_, fun q hq => ?_, fun j bs' dss' hj => ?_⟩
  · rcases get_set hs with ⟨rfl, rfl, hi⟩ | ⟨hj, hs⟩
    · rw [List.getElem?_set_self (by rw [← r1.len]; exact hi)]
      refine ⟨p, rfl, p1, dn p2, fp.1, nd, hl, fun k b ds hb hd => ?_⟩
      obtain ⟨d, hd2, rp⟩ := hx.atv (i := k) (v := .ref b) (by rw [List.getElem?_map, hb]; rfl)
      rw [List.getElem?_map, hd] at hd2
      cases hd2
      cases rp with
      | @lst _ ys _ q1 q2 =>
        obtain ⟨n1, n2⟩ := new b (List.mem_of_getElem? hb)
        exact ⟨ys, r1.gh _ _ q1, rp_flatI q2 (fl ds (List.mem_of_getElem? hd)), n1, n2⟩
    · rw [set_at hj]
      have kk := keeps_at kp hs
      have o := r1.ok j s hs
      cases s with
      | no => trivial
      | val d => exact r.ok j _ kk
      | bas d => exact r.ok j _ kk
      | scr K ns => exact r.ok j _ kk
      | own ds =>
        obtain ⟨a, xs, h1, h2, h3, h4, h5⟩ := o
        exact ⟨a, xs, h1, h2, rp_flatI h3 kk, dn h4, h5⟩
      | pur ds =>
        obtain ⟨a, xs, h1, h2, h3, h4, h5⟩ := o
        exact ⟨a, xs, h1, h2, rp_flatI h3 kk, dn h4, h5⟩
      | dic _ => exact kk.elim
      | tld _ => exact kk.elim
      | mat _ _ => exact kk.elim
  · rcases get_set k1 with ⟨e1, _, hi⟩ | ⟨hj, k1⟩
    · rcases get_set k2 with ⟨e2, _, _⟩ | ⟨hl, k2⟩
      · exact absurd (e1.trans e2.symm) hjl
      · rw [e1, List.getElem?_set_self (by rw [← r1.len]; exact hi), set_at hl]
        exact fun z => p3 l t k2 n2 z.symm
    · rcases get_set k2 with ⟨e2, _, hi⟩ | ⟨hl, k2⟩
      · rw [e2, List.getElem?_set_self (by rw [← r1.len]; exact hi), set_at hj]
        exact fun z => p3 j s k1 n1 z
      · rw [set_at hj, set_at hl]
        exact r1.sep j l s t hjl k1 k2 n1 n2
  · obtain ⟨q1, q2, q3⟩ := r1.pins q (List.mem_cons_of_mem _ hq)
    refine ⟨q1, dn q2, fun j s hs m => ?_⟩
    rcases get_set hs with ⟨rfl, rfl, hi⟩ | ⟨hj, hs⟩
    · rw [List.getElem?_set_self (by rw [← r1.len]; exact hi)]
      intro z
      have z2 : p = q.1 := by
        have := Option.some.inj (Option.some.inj z)
        cases this
        rfl
      exact fp.2 q hq z2.symm
    · rw [set_at hj]
      exact q3 j s hs m
  · rcases get_set hj with ⟨rfl, e, hi⟩ | ⟨_, hj⟩
    · cases e
      refine ⟨fun l u hl mu b hb => ?_, fun l bs2 dss2 hlj hl => ?_, fun q hq z => ?_⟩
      · rcases get_set hl with ⟨rfl, _, _⟩ | ⟨hl1, hl⟩
        · rw [List.getElem?_set_self (by rw [← r1.len]; exact hi)]
          intro z
          have z2 : p = b := by
            have := Option.some.inj (Option.some.inj z)
            cases this
            rfl
          exact inG b hb (by rw [← z2]; exact p2)
        · rw [set_at hl1]
          obtain ⟨a, w1, w2⟩ := adr l u hl mu
          rw [w1]
          intro z
          have z2 : a = b := by
            have := Option.some.inj (Option.some.inj z)
            cases this
            rfl
          exact inG b hb (by rw [← z2]; exact w2)
      · rcases get_set hl with ⟨e, _, _⟩ | ⟨_, hl⟩
        · exact absurd e hlj
        · exact nomatch nm l _ hl
      · obtain ⟨_, q2, _⟩ := r1.pins q (List.mem_cons_of_mem _ hq)
        exact inG _ z q2
    · exact nomatch nm j _ hj
end
/-! ### the slot read and changed -/
def mat (ρ : Rho) (i : Nat) (k : List Addr → List (List PyData) → Prop) : Prop := match ρ[i]? with
  | some (.mat bs dss) => k bs dss
  | _ => False
theorem mat_some {ρ : Rho} {i : Nat} {k : List Addr → List (List PyData) → Prop} (h : mat ρ i k) : ∃ bs dss, ρ[i]? = some (.mat bs dss) ∧ k bs dss := by
  unfold mat at h
  cases q : ρ[i]? with
  | none => rw [q] at h; exact h.elim
  | some s =>
    rw [q] at h
    cases s with
    | mat bs dss => exact ⟨bs, dss, rfl, h⟩
    | _ => exact h.elim
theorem ixN_lt {n : Nat} {z : Int} {j : Nat} (h : ixN n z = some j) : j < n := by
  unfold ixN at h
  split at h
  · split at h
    · cases h; omega
    · cases h
  · split at h
    · cases h; omega
    · cases h
section
variable {X : Cx} {e k1 k2 : Expr} {de d1 d2 : DE} {dn : DN} {pos pos2 : Pos}
/-- x[k1][k2] -/
def dIx2 (i : Nat) (d1 d2 : DE) : DE := fun ρ Q => mat ρ i fun _ _ => d1 ρ fun z1 ρ1 => mat ρ1 i fun bs dss => match z1 with
  | .int n => ∃ j, ixN dss.length n = some j ∧ d2 ρ1 fun z2 ρ2 => ρ2[i]? = some (.mat bs dss) ∧ match z2 with
    | .int m => ∃ ds d, dss[j]? = some ds ∧ atI ds m = some d ∧ Q d ρ2
    | _ => False
  | _ => False
theorem pd_ix2 (i : Nat) {x : Str} {p : Pos} (hk1 : PD X k1 d1) (hk2 : PD X k2 d2) (hs1 : PlainIx k1 := by intro _ _; rfl) (hs2 : PlainIx k2 := by intro _ _; rfl) (hN : X.N[i]? = some x := by rfl) (hv : Vis X.env.scope x := by first | exact Or.inl rfl | exact Or.inr (Or.inl rfl) | exact Or.inr (Or.inr rfl)) (hd : (x == ("__debug__" : Str)) = false := by decide)
    (hcd : (x == ("__classdict__" : Str)) = false := by decide) : PD X (.Subscript (.Subscript (.Name x p) k1 pos2) k2 pos) (dIx2 i d1 d2) := pe_imp (pe_ix ix_list (pe_ix ix_list (pe_var hN hv hd hcd) hk1 hs1) hk2 hs2) fun σ H Q ⟨c, G, ρ, Q', r, h, k⟩ => by
  obtain ⟨bs, dss, hi, h⟩ := mat_some h
  obtain ⟨a, h1, h2, _⟩ := r.ok i _ hi
  refine ⟨_, h1, c, G, ρ, _, r, h, fun z1 ρ1 G1 H1 w q1 e1 r1 hz => ?_⟩
  obtain ⟨bs1, dss1, hi1, q1⟩ := mat_some q1
  obtain ⟨a1, g1, g2, g3, g4, g5, g6, g7⟩ := r1.ok i _ hi1
  rw [h1] at g1
  cases g1
  cases hz with
  | int n =>
    obtain ⟨j, j1, q1⟩ := q1
    have jl := ixN_lt j1
    obtain ⟨b, hb⟩ : ∃ b, bs1[j]? = some b := ⟨_, List.getElem?_eq_getElem (by rw [g6]; exact jl)⟩
    refine ⟨a, bs1.map V.ref, n, .ref b, rfl, rfl, SqL.of g2, ?_, ?_⟩
    · unfold atI
      rw [List.length_map, g6, j1]
      show (bs1.map V.ref)[j]? = _
      rw [List.getElem?_map, hb]
      rfl
    refine ⟨c, G1, ρ1, _, r1, q1, fun z2 ρ2 G2 H2 w2 q2 e2 r2 hz2 => ?_⟩
    obtain ⟨hi2, q2⟩ := q2
    obtain ⟨a2, _, _, _, _, _, _, f7⟩ := r2.ok i _ hi2
    cases hz2 with
    | int m =>
      obtain ⟨ds, d, k1, k2, k3⟩ := q2
      obtain ⟨ys, y1, y2, _⟩ := f7 j b ds hb k1
      obtain ⟨u, u1, u2⟩ := atI_rp y2 k2
      exact ⟨b, ys, m, u, rfl, rfl, SqL.of y1, u1, k d ρ2 G2 H2 u k3 (e1.trans e2) r2 u2⟩
    | _ => exact q2.elim
  | _ => exact q1.elim
/-- x[k1][k2] = e -/
def dSetIx2 (i : Nat) (de d1 d2 : DE) : DS := fun D ρ => de ρ fun d ρ0 => mat ρ0 i fun _ _ => d1 ρ0 fun z1 ρ1 => mat ρ1 i fun bs dss => match z1 with
  | .int n => ∃ j, ixN dss.length n = some j ∧ d2 ρ1 fun z2 ρ2 => ρ2[i]? = some (.mat bs dss) ∧ match z2 with
    | .int m => ∃ ds l, dss[j]? = some ds ∧ ixN ds.length m = some l ∧ D.nx (ρ2.set i (.mat bs (dss.set j (ds.set l d))))
    | _ => False
  | _ => False
theorem psd_setIx2 (i : Nat) {x : Str} {p tpos : Pos} (he : PD X e de) (hk1 : PD X k1 d1) (hk2 : PD X k2 d2) (hs1 : PlainIx k1 := by intro _ _; rfl) (hN : X.N[i]? = some x := by rfl) (hv : Vis X.env.scope x := by first | exact Or.inl rfl | exact Or.inr (Or.inl rfl) | exact Or.inr (Or.inr rfl)) (hd : (x == ("__debug__" : Str)) = false := by decide)
    (hcd : (x == ("__classdict__" : Str)) = false := by decide) (ha : ∀ v, assign (.Subscript (.Subscript (.Name x p) k1 pos2) k2 tpos) X.env v = (do
      let ov ← holding [v] (eval (.Subscript (.Name x p) k1 pos2) X.env)
      let iv ← holding [v, ov] (eval k2 X.env)
      standAt tpos
      holding [v, ov, iv] (setItem ov iv v)
      release [v, ov, iv] []) := by intro _; rfl) (hs : swapsWithSole [.Subscript (.Subscript (.Name x p) k1 pos2) k2 tpos] e pos.line X.env = pure false := by rfl) (hw : swappedStores [.Subscript (.Subscript (.Name x p) k1 pos2) k2 tpos] e X.env = pure none := by rfl)
    (h1 : (assignEach [.Subscript (.Subscript (.Name x p) k1 pos2) k2 tpos] X.env).map (·.2) = [assign (.Subscript (.Subscript (.Name x p) k1 pos2) k2 tpos) X.env] := by rfl) : PSD X (.Assign [.Subscript (.Subscript (.Name x p) k1 pos2) k2 tpos] e pos) (dSetIx2 i de d1 d2) :=
  ps_imp (ps_asg he (pg_sub (pe_ix ix_list (pe_var hN hv hd hcd) hk1 hs1) hk2 set_list ha) hs hw h1) fun D σ H ⟨c, G, ρ, D', r, h, k⟩ => by
    refine ⟨c, G, ρ, _, r, h, fun d ρ0 G0 H0 v q0 e0 r0 hx => ?_⟩
    obtain ⟨bs, dss, hi, q0⟩ := mat_some q0
    obtain ⟨a, h1, h2, _⟩ := r0.ok i _ hi
    refine ⟨_, h1, c, G0, ρ0, _, r0, q0, fun z1 ρ1 G1 H1 w q1 e1 r1 hz => ?_⟩
    obtain ⟨bs1, dss1, hi1, q1⟩ := mat_some q1
    obtain ⟨a1, g1, g2, g3, g4, g5, g6, g7⟩ := r1.ok i _ hi1
    rw [h1] at g1
    cases g1
    cases hz with
    | int n =>
      obtain ⟨j, j1, q1⟩ := q1
      have jl := ixN_lt j1
      obtain ⟨b, hb⟩ : ∃ b, bs1[j]? = some b := ⟨_, List.getElem?_eq_getElem (by rw [g6]; exact jl)⟩
      refine ⟨a, bs1.map V.ref, n, .ref b, rfl, rfl, SqL.of g2, ?_, ?_⟩
      · unfold atI
        rw [List.length_map, g6, j1]
        show (bs1.map V.ref)[j]? = _
        rw [List.getElem?_map, hb]
        rfl
      refine ⟨c, G1, ρ1, _, r1, q1, fun z2 ρ2 G2 H2 w2 q2 e2 r2 hz2 => ?_⟩
      obtain ⟨hi2, q2⟩ := q2
      obtain ⟨a2, _, _, _, _, _, _, f7⟩ := r2.ok i _ hi2
      cases hz2 with
      | int m =>
        obtain ⟨ds, l, k1, k2, k3⟩ := q2
        obtain ⟨ys, y1, y2, _⟩ := f7 j b ds hb k1
        exact ⟨b, ys, m, l, rfl, rfl, y1, by rw [y2.len]; exact k2, k.nx _ G2 _ _ k3 ((e0.trans e1).trans e2) (r2.chgM hi2 hb (y2.put l (hx.up (e1.trans e2))))⟩
      | _ => exact q2.elim
    | _ => exact q1.elim
/-- such a list told as data -/
def dMatV (i : Nat) : DE := fun ρ Q => mat ρ i fun _ dss => Q (.list (dss.map .list)) (ρ.set i (.val (.list (dss.map .list))))
theorem pd_matV (i : Nat) {x : Str} (hN : X.N[i]? = some x := by rfl) (hv : Vis X.env.scope x := by first | exact Or.inl rfl | exact Or.inr (Or.inl rfl) | exact Or.inr (Or.inr rfl)) (hd : (x == ("__debug__" : Str)) = false := by decide)
    (hcd : (x == ("__classdict__" : Str)) = false := by decide) : PD X (.Name x pos) (dMatV i) := pe_imp (pe_var hN hv hd hcd) fun σ H Q ⟨c, G, ρ, Q', r, h, k⟩ => by
  obtain ⟨bs, dss, hi, h⟩ := mat_some h
  obtain ⟨v, G', h1, e, r', hv⟩ := r.freezeM hi
  exact ⟨v, h1, k _ _ G' H v h e r' hv⟩
/-! ### how such a list comes to be -/
def tFN (dn : DN) : TE := fun σ H Q => ∃ c G ρ Q', Rep c G σ H ρ ∧ dn ρ Q' ∧ ∀ ds ρ' G' H' p (bs : List Addr), Q' ds ρ' → Ex G G' → Rep { c with pin := (p, .lst (bs.map V.ref)) :: c.pin } G' σ H' ρ' → freeAt c p → RpAll G' (bs.map V.ref) ds → bs.Nodup → (∀ b ∈ bs, G b = none ∧ c.H0 b = none) → Q (.ref p) H'
abbrev PFN (X : Cx) (e : Expr) (dn : DN) : Prop := PE X e (tFN dn)
/-- [e for g in i if t], each item a new list -/
def dLcM (di : DN) (dg : DG) (dt : DT) (de : DE) (vs : List Nat) : DN := fun ρ Q => di ρ fun items ρ1 => ∃ I : Nat → Rho → List PyData → Prop, I 0 (wipeR ρ1 vs) [] ∧
  (∀ i x ρ acc, items[i]? = some x → I i ρ acc → dg x ρ fun ρ2 => dt ρ2 fun b ρ3 => match b with
    | true => de ρ3 fun y ρ4 => (∃ ds, y = .list ds) ∧ acc.length < 100000 ∧ I (i + 1) (wipeR ρ4 vs) (acc ++ [y])
    | false => I (i + 1) (wipeR ρ3 vs) acc) ∧
  ∀ ρ acc, I items.length ρ acc → Q acc (wipeR ρ vs)
theorem lc_goM {di : DN} {dg : DG} {dt : DT} {de : DE} {is vs : List Nat} (hs : ∀ j ∈ is, j ∈ vs) {σ : L2.St} {H : Hp} {Q : VK} (h : tFN (dLcM di dg dt de vs) σ H Q) : tLc (iD di) (gD is dg) (tT dt) (tF de) vs σ H Q := by
  obtain ⟨c, G, ρ, Q', rp, hd, k⟩ := h
  refine ⟨c, G, ρ, _, rp, hd, fun items ρ1 G1 H1 J q1 e1 r1 gv D hD => ?_⟩
  obtain ⟨I, i0, step, fin⟩ := q1
  obtain ⟨Gd, Y, W, hG, hY⟩ := gv
  have fr := r1.free hD
  let Pv : Nat → Hp → Prop := fun i H' => ∃ G' ρ' acc, ∃ bs : List Addr, Ex G1 G' ∧ Rep { c with pin := (D, .lst (bs.map V.ref)) :: c.pin } G' (L2.wipe σ vs) H' (wipeR ρ' vs) ∧ RpAll G' (bs.map V.ref) acc ∧ I i (wipeR ρ' vs) acc ∧ bs.Nodup ∧ ∀ b ∈ bs, (G b = none ∧ c.H0 b = none) ∧ G' b ≠ none
  have h0 : Pv 0 (upd H1 D (.lst [])) := ⟨G1, ρ1, [], [], Ex.refl G1, (r1.pinN hD).wiped vs, .nil, i0, List.nodup_nil, fun _ z => nomatch z⟩
  refine lc_it W Pv h0 (fun i H' _ ⟨G', ρ', acc, bs, e, r, _⟩ => hG H' (e.trans r.gh)) (fun i x H' H'' hi p y => ?_) (fun H' p => ?_)
  · obtain ⟨G', ρ', acc, bs, e, r, ra, hI, nd, nw⟩ := p
    obtain ⟨d, hdi⟩ : ∃ d, items[i]? = some d := ⟨_, List.getElem?_eq_getElem hi⟩
    obtain ⟨G2, e2, r2, hx⟩ := r.out (hY i H' x H'' d (e.trans r.gh) y hdi G' e r.gh)
    refine ⟨_, G2, _, d, _, r2, hx, step i d _ acc hdi hI, fun σ2 ρ2 q2 r3 l2 => ?_⟩
    have hw : L2.wipe σ2 vs = L2.wipe σ vs := by rw [wipe_same l2.1 l2.2 hs, wipe_idem]
    refine ⟨hw, _, G2, ρ2, _, r3, q2, fun b ρ3 G3 H3 q3 e3 r4 => ?_⟩
    have up : ∀ {A B : Hp} (f : Ex A B) (b : Addr), A b ≠ none → B b ≠ none := fun {A B} f b h => by
      cases q : A b with
      | none => exact absurd q h
      | some o => rw [f b o q]; exact fun z => nomatch z
    cases b with
    | false =>
      show Pv (i + 1) H3
      have r5 := r4.wiped vs
      rw [hw] at r5
      exact ⟨G3, ρ3, acc, bs, (e.trans e2).trans e3, r5, ra.up (e2.trans e3), q3, nd, fun b hb => ⟨(nw b hb).1, up (e2.trans e3) b (nw b hb).2⟩⟩
    | true =>
      show tF de σ2 H3 _
      refine ⟨_, G3, ρ3, _, r4, q3, fun y ρ4 G4 H4 w q4 e4 r5 hy new => ?_⟩
      obtain ⟨⟨ds, rfl⟩, hl, q4⟩ := q4
      have eg : Ex G G3 := ((e1.trans e).trans e2).trans e3
      cases hy with
      | @lst a ys _ g1 g2 =>
        obtain ⟨n1, n2⟩ := new a rfl
        have ga : G a = none := by
          cases q : G a with
          | none => rfl
          | some o => rw [eg a o q] at n2; cases n2
        have em : (bs ++ [a]).map V.ref = bs.map V.ref ++ [V.ref a] := by rw [List.map_append]; rfl
        have r6 := (r5.repin (o' := .lst ((bs ++ [a]).map V.ref)) fr).wiped vs
        rw [hw] at r6
        refine ⟨bs.map V.ref, (r5.pins _ List.mem_cons_self).1, sz_lt (by rw [ra.len]; exact hl), ?_⟩
        rw [← em]
        refine ⟨G4, ρ4, acc ++ [.list ds], bs ++ [a], ((e.trans e2).trans e3).trans e4, r6, ?_, q4, ?_, fun b hb => ?_⟩
        · rw [em]
          exact (ra.up ((e2.trans e3).trans e4)).app (.cons (.lst g1 g2) .nil)
        · refine List.nodup_append.mpr ⟨nd, List.pairwise_singleton _ _, fun x hx y hy => ?_⟩
          rw [List.mem_singleton.mp hy]
          intro z
          exact up (e2.trans e3) x (nw x hx).2 (by rw [z]; exact n2)
        · rcases List.mem_append.mp hb with hb | hb
          · exact ⟨(nw b hb).1, up ((e2.trans e3).trans e4) b (nw b hb).2⟩
          · rw [List.mem_singleton.mp hb]
            exact ⟨⟨ga, n1⟩, by rw [g1]; exact fun z => nomatch z⟩
  · obtain ⟨G', ρ', acc, bs, e, r, ra, hI, nd, nw⟩ := p
    refine k acc _ G' H' D bs (fin _ acc hI) (e1.trans e) ?_ fr ra nd fun b hb => (nw b hb).1
    have r5 := r.wiped vs
    rw [wipe_idem] at r5
    exact r5.unwipe fun j hj => wipeR_no hj
theorem pfn_lc {elt tg iter : Expr} {ifs : List Expr} {scope : Scope} {own : List (Str × Nat)} {pos : Pos} {di : DN} {dg : DG} {dt : DT} {de : DE} {is : List Nat} (hc : X.calm = true) (hN : X.N.Nodup) (hi : PID X tg iter di) (ok : BlkOk X.N X.env.scope scope own)
    (hg : ∀ (s : Shared) (H : Hp) (C : Addr) (cl : List (Str × Addr)) (fp : List Addr), PGD (X.blk s H scope (compEnvC scope cl C X.env) fp) tg is dg) (ht : ∀ (s : Shared) (H : Hp) (C : Addr) (cl : List (Str × Addr)) (fp : List Addr), PTsD (X.blk s H scope (compEnvC scope cl C X.env) fp) ifs dt)
    (he : ∀ (s : Shared) (H : Hp) (C : Addr) (cl : List (Str × Addr)) (fp : List Addr), PF (X.blk s H scope (compEnvC scope cl C X.env) fp) elt de) (hj : ∀ j ∈ is, j ∈ own.map (·.2) := by decide) (hs : ∀ x, foldedSetIterable iter X.env x = pure x := by intro _; rfl) :
    PFN X (.ListComp elt [⟨tg, iter, ifs, 0⟩] scope pos) (dLcM di dg dt de (own.map (·.2))) := pe_imp (pe_lc hc hN hi ok hg ht he hs) fun _ _ _ h => lc_goM hj h
/-- x = [..], each item a new list of ints -/
def dSetMat (i : Nat) (dn : DN) : DS := fun D ρ => dn ρ fun ds ρ1 => ∃ dss, ds = dss.map .list ∧ (∀ l ∈ dss, l.all isI = true) ∧ Keeps ρ ρ1 ∧ ∀ bs, D.nx (ρ1.set i (.mat bs dss))
theorem psd_setMat (i : Nat) {x : Str} {p : Pos} (he : PFN X e dn) (hN : X.N.Nodup) (hi : X.N[i]? = some x := by rfl) (hx : Loc X.env.scope x := by first | exact Or.inl rfl | exact Or.inr rfl) (hs : swapsWith e (some (.Name x p)) pos.line X.env = pure false := by rfl) (hf : X.fn x = true ∨ X.env.scope.names.lookup x = some .local := by first | exact .inl rfl | exact .inr rfl) :
    PSD X (.Assign [.Name x p] e pos) (dSetMat i dn) := ps_imp (ps_set hN hi hx he hs hf) fun D σ H ⟨c, G, ρ, D', r, h, k⟩ => by
  refine ⟨c, G, ρ, _, r, h, fun ds ρ1 G1 H1 q bs q1 e1 r1 fp hx nd new => ?_⟩
  obtain ⟨dss, rfl, fl, kp, q1⟩ := q1
  exact k.nx _ G H1 _ (q1 bs) (Ex.refl G) (rep_mat r r1 e1 kp fp hx fl nd new)
end
end DL

set_option Elab.async false
set_option linter.all false
set_option maxRecDepth 100000
set_option maxHeartbeats 1000000
/-! DL20: minus, slices with a step, two fors in a comprehension, abs, min of data, two new lists at once. -/
namespace DL
open PySem L2 Evl PyProof.Rows RZ
section
variable {X : Cx}
/-! ### -e -/
def fNeg : D1 := fun x Q => match x with
  | .int i => Q (.int (-i))
  | _ => False
theorem ru_neg : RU1 (rU fun i => .int (-i)) fNeg := fun G H v x Q Q' e hv h k => by
  cases x with
  | int i => exact ⟨i, hv.int, k _ _ _ (.inl ⟨rfl, .int _⟩) h⟩
  | _ => exact h.elim
theorem pd_neg {e : Expr} {de : DE} {pos : Pos} (he : PD X e de) : PD X (.UnaryOp .USub e pos) (dUn fNeg de) := pd_un un_neg ru_neg (pd_r he)
theorem po_n1 {j : Nat} {p1 pos : Pos} : PO X (some (.UnaryOp .USub (.Constant (.int 1) j p1) pos)) (fun _ H R => R (some (-1)) H) := po_imp (po_some (pe_un un_neg pe_int)) fun σ H R h => ⟨1, rfl, -1, rfl, h⟩
/-! ### abs -/
def fAbs : D1 := fun x Q => match x with
  | .int i => Q (.int (if i < 0 then -i else i))
  | _ => False
theorem rc_abs : RC1 (fun xs H Q => ∃ i, xs = [.int i] ∧ Q (.int (if i < 0 then -i else i)) H) fAbs := fun G H v x Q Q' e hv h k => by
  cases x with
  | int i => exact ⟨i, by rw [hv.int], k _ _ _ (.inl ⟨rfl, .int _⟩) h⟩
  | _ => exact h.elim
/-! ### min of data -/
def rMinDt (K : PySem.W.Frag) : List V → Hp → VK → Prop := fun vs H Q => ∃ (a : Addr) (xs : List V) (d : PyData) (ds : List PyData), vs = [V.ref a] ∧ SqL K H a xs ∧ DpAll K H xs (d :: ds) ∧ PySem.W.AlikeAll (d :: ds) ∧ SeqAt.shaped (.list (d :: ds)) = true ∧ ∀ (i : Nat) (v : V), xs[i]? = some v → (d :: ds)[i]? = some (PySem.W.minD d ds) → Q v H
theorem vals_at2 : ∀ {vs : List V} {us : List Value} {i : Nat} {u : Value}, Vals vs us → us[i]? = some u → ∃ v, vs[i]? = some v ∧ RelV v u
  | _, _, _, _, .nil, h => by simp at h
  | _, _, 0, _, .cons r _, h => by
    have e := Option.some.inj h
    subst e
    exact ⟨_, rfl, r⟩
  | _, _, i + 1, _, .cons _ t, h => vals_at2 (i := i) t (by simpa using h)
theorem cr_minDt (hc : X.calm = true) (hu : X.A.units + 65 < cLine) : CallR X (.builtin "min") (rMinDt X.K) := by
  intro pins s σ H vs us Q I r h
  obtain ⟨a, xs, d, ds, rfl, hs, hd, al, sh, q⟩ := h
  obtain ⟨its, rv, hl, _⟩ := I.list hs
  rw [Vals.ref1 r]
  obtain ⟨as, ra⟩ := Dp.readsAll I (d :: ds) xs its hd rv
  have cl : PyData.canLayAll0 (d :: ds) = true := SeqAt.canLay_of_shaped sh
  have dp : PyData.depthAll (d :: ds) ≤ 63 := by
    unfold SeqAt.shaped at sh
    rw [Bool.and_eq_true, decide_eq_true_eq] at sh
    have := sh.2
    simp only [PyData.depth] at this
    omega
  refine PySem.W.min_list_data (I.ok.hd hc) hl.isList (show ReadsAll s.heap its.toArray.toList (d :: ds) as from ra) al (by omega) fun i u h' tk bs hi hr hk => ?_
  have hi2 : its[i]? = some u := by simpa using hi
  obtain ⟨v, hv, rv2⟩ := vals_at2 rv hi2
  obtain ⟨cs, c1, c2, c3, _⟩ := PySem.W.readsAll_at ra i u hi2
  refine ⟨v, H, I.kept (t' := tk) hk, rv2, q i v hv ?_⟩
  have e : (d :: ds).getD i .none = PySem.W.minD d ds := ((Reads.keeps hk c1).unique _ _ hr).1
  rw [← e, List.getD_eq_getElem?_getD, List.getElem?_eq_getElem c2]
  rfl
def fMinD : D1 := fun x Q => ∃ d ds, x = .list (d :: ds) ∧ PySem.W.AlikeAll (d :: ds) ∧ SeqAt.shaped (.list (d :: ds)) = true ∧ Q (PySem.W.minD d ds)
theorem rc_minD {K : PySem.W.Frag} : RC1 (rMinDt K) fMinD := fun G H v x Q Q' e hv ⟨d, ds, h1, h2, h3, h4⟩ k => by
  subst h1
  obtain ⟨l, xs, rfl, g1, g2⟩ := hv.lst e
  refine ⟨l, xs, d, ds, rfl, SqL.of g1, RpAll.dp0 e _ _ g2, h2, h3, fun i v hv hd => ?_⟩
  obtain ⟨d2, k1, k2⟩ := g2.atv hv
  rw [hd] at k1
  cases k1
  exact k _ _ _ (.inl ⟨rfl, k2⟩) h4
/-! ### slices with a step -/
def pickL {α : Type} (xs : List α) (lo hi st : Option Int) : List α := (sliceRange (sliceBounds lo hi st xs.length).1 (sliceBounds lo hi st xs.length).2.1 (sliceBounds lo hi st xs.length).2.2).filterMap (xs[·]?)
theorem RpAll.pickI {G : Hp} {xs : List V} {ds : List PyData} (r : RpAll G xs ds) : ∀ l : List Nat, RpAll G (l.filterMap (xs[·]?)) (l.filterMap (ds[·]?))
  | [] => .nil
  | i :: l => by
    rw [List.filterMap_cons, List.filterMap_cons]
    cases q : ds[i]? with
    | none =>
      have : xs[i]? = none := by
        rw [List.getElem?_eq_none_iff] at q ⊢
        rw [r.len]
        exact q
      rw [this]
      exact RpAll.pickI r l
    | some d =>
      obtain ⟨v, h1, h2⟩ := r.at q
      rw [h1]
      exact .cons h2 (RpAll.pickI r l)
theorem RpAll.pickL {G : Hp} {xs : List V} {ds : List PyData} (r : RpAll G xs ds) (lo hi st : Option Int) : RpAll G (DL.pickL xs lo hi st) (DL.pickL ds lo hi st) := by
  unfold DL.pickL
  rw [r.len]
  exact r.pickI _
theorem vals_pick {vs : List V} {us : List Value} (r : Vals vs us) : ∀ l : List Nat, Vals (l.filterMap (vs[·]?)) (l.filterMap (us[·]?))
  | [] => .nil
  | i :: l => by
    rw [List.filterMap_cons, List.filterMap_cons]
    cases q : us[i]? with
    | none =>
      have : vs[i]? = none := by
        rw [List.getElem?_eq_none_iff] at q ⊢
        rw [r.length]
        exact q
      rw [this]
      exact vals_pick r l
    | some d =>
      obtain ⟨v, h1, h2⟩ := vals_at2 r q
      rw [h1]
      exact .cons h2 (vals_pick r l)
theorem pick_len {α : Type} (xs : List α) (l : List Nat) : (l.filterMap (xs[·]?)).length ≤ l.length := List.length_filterMap_le _ _
def tPick (K : PySem.W.Frag) (te : TE) (tl tu ts : TO) : TE := fun σ H Q => te σ H fun x H1 => tl σ H1 fun lo H2 => tu σ H2 fun hi H3 => ts σ H3 fun st H4 => ∃ a xs, x = .ref a ∧ SqL K H4 a xs ∧ st ≠ some 0 ∧ ∀ p, H4 p = none → Q (.ref p) (upd H4 p (.lst (pickL xs lo hi st)))
theorem pe_pick {e st : Expr} {el eu : Option Expr} {te : TE} {tl tu ts : TO} {p3 pos : Pos} (he : PE X e te) (hl : PO X el tl) (hu : PO X eu tu) (hst : PO X (some st) ts) : PE X (.Subscript e (.Slice el eu (some st) p3) pos) (tPick X.K te tl tu ts) := ⟨fun pins s σ H Q I h => by
  refine Subscript_ (thn (he.run pins s σ H _ I h) fun v s1 ⟨x, H1, I1, r1, q1⟩ => ?_)
  refine wpAny_Slice (thn (hl.run pins s1 σ H1 _ I1 q1) fun vl s2 ⟨lo, H2, I2, pl, q2⟩ => ?_)
  refine thn (hu.run pins s2 σ H2 _ I2 q2) fun vu s3 ⟨hi, H3, I3, pu, q3⟩ => ?_
  refine thn (hst.run pins s3 σ H3 _ I3 q3) fun vs s4 ⟨sp, H4, I4, ps, q4⟩ => ?_
  obtain ⟨a, xs, rfl, hx, h0, q⟩ := q4
  obtain rfl : v = Value.ref a := r1
  have J : Inv X pins σ H4 { s4 with heap := s4.heap.push { cls := .type "slice", data := .fields #[vl, vu, vs] } } := I4.kept (t' := s4.toks) fun b ob q => Heap.get?_push_of_some _ q
  obtain ⟨its, r, il, hz⟩ := J.list hx
  have n := r.length
  refine tail_any (ops := [.ref a, .ref s4.heap.objs.size]) il.isList.typeIs (PySem.slot_list_getitem.lookup) ?_ (by with_unfolding_all rfl)
  refine wpAny_getItem_list_slice il.isList (Heap.IsSliceOf.new _ vl vu vs) pl pu ps h0 ?_ (by rw [List.size_toArray]; omega)
  have ep : slicePick its.toArray lo hi sp = (pickL its lo hi sp).toArray := by
    unfold slicePick pickL
    rw [List.size_toArray]
    congr 1
    refine congrArg (fun f => List.filterMap f _) (funext fun i => ?_)
    simp
  rw [ep]
  have rr : Vals (pickL xs lo hi sp) (pickL its lo hi sp) := by
    unfold pickL
    rw [n]
    exact vals_pick r _
  have hle : (pickL xs lo hi sp).length ≤ sizeLine := by
    have b : (slicePick its.toArray lo hi sp).size ≤ its.toArray.size := slicePick_size_le _ _ _ _
    rw [ep, List.size_toArray, List.size_toArray] at b
    rw [rr.length]
    omega
  exact ⟨.ref _, _, J.laid (t' := s4.toks) (o := .lst (pickL xs lo hi sp)) (fun b ob q => Heap.get?_push_of_some _ q) (Nat.le_refl _) ⟨hle, _, 0, rr, Heap.get?_push_size _ rfl⟩, rfl, q _ (J.hok.fresh (Nat.le_refl _))⟩⟩
/-- e[lo:hi:st] of a list -/
def dPick (de : DE) (ol ou os : DO) : DN := fun ρ Q => de ρ fun x ρ1 => ol ρ1 fun lo ρ2 => ou ρ2 fun hi ρ3 => os ρ3 fun st ρ4 => match x with
  | .list ds => st ≠ some 0 ∧ Q (pickL ds lo hi st) ρ4
  | _ => False
theorem pn_pick {e st : Expr} {el eu : Option Expr} {de : DE} {ol ou os : DO} {p3 pos : Pos} (he : PD X e de) (hl : POD X el ol) (hu : POD X eu ou) (hst : POD X (some st) os) : PN X (.Subscript e (.Slice el eu (some st) p3) pos) (dPick de ol ou os) := pe_imp (pe_pick he hl hu hst) fun σ H Q ⟨c, G, ρ, Q', rp, h, k⟩ => by
  refine ⟨c, G, ρ, _, rp, h, fun x ρ1 G1 H1 v q1 e1 r1 hx => ⟨c, G1, ρ1, _, r1, q1, fun lo ρ2 G2 H2 q2 e2 r2 => ⟨c, G2, ρ2, _, r2, q2, fun hi ρ3 G3 H3 q3 e3 r3 => ⟨c, G3, ρ3, _, r3, q3, fun st ρ4 G4 H4 q4 e4 r4 => ?_⟩⟩⟩⟩
  cases hx with
  | lst a b => exact ⟨_, _, rfl, SqL.of (r4.gh _ _ (e4 _ _ (e3 _ _ (e2 _ _ a)))), q4.1, fun p hp => k _ ρ4 G4 _ p _ q4.2 (((e1.trans e2).trans e3).trans e4) (r4.pinN hp) (r4.free hp) ((b.up ((e2.trans e3).trans e4)).pickL lo hi st)⟩
  | _ => exact q4.elim
end
end DL

set_option Elab.async false
set_option linter.all false
set_option maxRecDepth 100000
set_option maxHeartbeats 1000000
/-! DL21: two fors in a comprehension; two new lists at once. -/
namespace DL
open PySem L2 Evl PyProof.Rows RZ
/-- [e for g in i if t for g1 in i1 if t1]: vs the block's own slots, vs1 those of the inner for -/
def dLc2 (di : DN) (dg : DG) (dt : DT) (di1 : DN) (dg1 : DG) (dt1 : DT) (de : DE) (vs vs1 : List Nat) : DN := fun ρ Q => di ρ fun items ρ1 => ∃ I : Nat → Rho → List PyData → Prop, I 0 (wipeR ρ1 vs) [] ∧
  (∀ i x ρ acc, items[i]? = some x → I i ρ acc → dg x ρ fun ρ2 => dt ρ2 fun b ρ3 => match b with
    | true => di1 ρ3 fun items1 ρ4 => ∃ J : Nat → Rho → List PyData → Prop, J 0 (wipeR ρ4 vs1) acc ∧
      (∀ j y ρ acc, items1[j]? = some y → J j ρ acc → dg1 y ρ fun ρ5 => dt1 ρ5 fun b ρ6 => match b with
        | true => de ρ6 fun z ρ7 => acc.length < 100000 ∧ J (j + 1) (wipeR ρ7 vs1) (acc ++ [z])
        | false => J (j + 1) (wipeR ρ6 vs1) acc) ∧
      ∀ ρ acc, J items1.length ρ acc → I (i + 1) (wipeR ρ vs) acc
    | false => I (i + 1) (wipeR ρ3 vs) acc) ∧
  ∀ ρ acc, I items.length ρ acc → Q acc (wipeR ρ vs)
theorem wipe_sub (σ : L2.St) {vs vs1 : List Nat} (h : ∀ j ∈ vs1, j ∈ vs) : L2.wipe (L2.wipe σ vs1) vs = L2.wipe σ vs := by
  refine List.ext_getElem? fun j => ?_
  by_cases hj : j ∈ vs
  · rw [wipe_in hj, wipe_in hj, wipe_length]
  · rw [wipe_at hj, wipe_at hj, wipe_at fun z => hj (h j z)]
theorem lc2_go {di di1 : DN} {dg dg1 : DG} {dt dt1 : DT} {de : DE} {is is1 vs vs1 : List Nat} (hs : ∀ j ∈ is, j ∈ vs) (hs1 : ∀ j ∈ is1, j ∈ vs1) (hv : ∀ j ∈ vs1, j ∈ vs) {σ : L2.St} {H : Hp} {Q : VK} (h : tN (dLc2 di dg dt di1 dg1 dt1 de vs vs1) σ H Q) :
    tLc2 (iD di) (gD is dg) (tT dt) (iD di1) (gD is1 dg1) (tT dt1) (tD de) vs vs1 σ H Q := by
  obtain ⟨c, G, ρ, Q', rp, hd, k⟩ := h
  refine ⟨c, G, ρ, _, rp, hd, fun items ρ1 G1 H1 J q1 e1 r1 gv D hD => ?_⟩
  obtain ⟨I, i0, step, fin⟩ := q1
  obtain ⟨Gd, Y, W, hG, hY⟩ := gv
  have fr := r1.free hD
  let Pv : Nat → Hp → Prop := fun i H' => ∃ G' ρ' acc xs, Ex G1 G' ∧ Rep { c with pin := (D, .lst xs) :: c.pin } G' (L2.wipe σ vs) H' (wipeR ρ' vs) ∧ RpAll G' xs acc ∧ I i (wipeR ρ' vs) acc
  have h0 : Pv 0 (upd H1 D (.lst [])) := ⟨G1, ρ1, [], [], Ex.refl G1, (r1.pinN hD).wiped vs, .nil, i0⟩
  refine ⟨fun i m H' => m = items.length - i ∧ i ≤ items.length ∧ Pv i H', ⟨items.length, by simp, Nat.zero_le _, h0⟩, ?_⟩
  rintro i m H' ⟨rfl, hi, p⟩
  have gd : Gd H' := by
    obtain ⟨G', ρ', acc, xs, e, r, _, _⟩ := p
    exact hG H' (e.trans r.gh)
  by_cases hlt : i < items.length
  · refine .inr ⟨W.goes i H' hlt gd, Pv (i + 1), fun H2 p' => ⟨items.length - (i + 1), by omega, rfl, hlt, p'⟩, fun x H'' y => ?_⟩
    obtain ⟨G', ρ', acc, xs, e, r, ra, hI⟩ := p
    obtain ⟨d, hdi⟩ : ∃ d, items[i]? = some d := ⟨_, List.getElem?_eq_getElem hlt⟩
    obtain ⟨G2, e2, r2, hx⟩ := r.out (hY i H' x H'' d (e.trans r.gh) (W.yields i H' x H'' hlt gd y) hdi G' e r.gh)
    refine ⟨_, G2, _, d, _, r2, hx, step i d _ acc hdi hI, fun σ2 ρ2 q2 r3 l2 => ?_⟩
    have hw : L2.wipe σ2 vs = L2.wipe σ vs := by rw [wipe_same l2.1 l2.2 hs, wipe_idem]
    refine ⟨hw, _, G2, ρ2, _, r3, q2, fun b ρ3 G3 H3 q3 e3 r4 => ?_⟩
    cases b with
    | false =>
      show Pv (i + 1) H3
      have r5 := r4.wiped vs
      rw [hw] at r5
      exact ⟨G3, ρ3, acc, xs, (e.trans e2).trans e3, r5, ra.up (e2.trans e3), q3⟩
    | true =>
      show iD di1 σ2 H3 _
      refine ⟨_, G3, ρ3, _, r4, q3, fun items1 ρ4 G4 H4 J1 q4 e4 r5 gv1 => ?_⟩
      obtain ⟨J', j0, jstep, jfin⟩ := q4
      obtain ⟨Gd1, Y1, W1, hG1, hY1⟩ := gv1
      let Pw : Nat → Hp → Prop := fun j H' => ∃ G' ρ' acc xs, Ex G4 G' ∧ Rep { c with pin := (D, .lst xs) :: c.pin } G' (L2.wipe σ2 vs1) H' (wipeR ρ' vs1) ∧ RpAll G' xs acc ∧ J' j (wipeR ρ' vs1) acc
      refine ⟨fun j m H' => m = items1.length - j ∧ j ≤ items1.length ∧ Pw j H', ⟨items1.length, by simp, Nat.zero_le _, G4, ρ4, acc, xs, Ex.refl _, r5.wiped vs1, ra.up ((e2.trans e3).trans e4), j0⟩, ?_⟩
      rintro j m H5 ⟨rfl, hj, p⟩
      have gd1 : Gd1 H5 := by
        obtain ⟨G', ρ', acc, xs, e, r, _, _⟩ := p
        exact hG1 H5 (e.trans r.gh)
      obtain ⟨G5, ρ5, acc1, xs1, e5, r6, ra1, hJ⟩ := p
      by_cases hlt1 : j < items1.length
      · refine .inr ⟨W1.goes j H5 hlt1 gd1, Pw (j + 1), fun H2 p' => ⟨items1.length - (j + 1), by omega, rfl, hlt1, p'⟩, fun x1 H6 y1 => ?_⟩
        obtain ⟨d1, hd1⟩ : ∃ d, items1[j]? = some d := ⟨_, List.getElem?_eq_getElem hlt1⟩
        obtain ⟨G7, e7, r7, hx1⟩ := r6.out (hY1 j H5 x1 H6 d1 (e5.trans r6.gh) (W1.yields j H5 x1 H6 hlt1 gd1 y1) hd1 G5 e5 r6.gh)
        refine ⟨_, G7, _, d1, _, r7, hx1, jstep j d1 _ acc1 hd1 hJ, fun σ3 ρ6 q5 r8 l3 => ?_⟩
        have hw1 : L2.wipe σ3 vs1 = L2.wipe σ2 vs1 := by rw [wipe_same l3.1 l3.2 hs1, wipe_idem]
        refine ⟨hw1, _, G7, ρ6, _, r8, q5, fun b ρ7 G8 H8 q6 e8 r9 => ?_⟩
        cases b with
        | false =>
          show Pw (j + 1) H8
          have r10 := r9.wiped vs1
          rw [hw1] at r10
          exact ⟨G8, ρ7, acc1, xs1, (e5.trans e7).trans e8, r10, ra1.up (e7.trans e8), q6⟩
        | true =>
          show tD de σ3 H8 _
          refine ⟨_, G8, ρ7, _, r9, q6, fun z ρ8 G9 H9 w q7 e9 r10 hz => ?_⟩
          have r11 := (r10.repin (o' := .lst (xs1 ++ [w])) fr).wiped vs1
          rw [hw1] at r11
          refine ⟨xs1, (r10.pins _ List.mem_cons_self).1, sz_lt (by rw [ra1.len]; exact q7.1), ?_⟩
          exact ⟨G9, ρ8, acc1 ++ [z], xs1 ++ [w], ((e5.trans e7).trans e8).trans e9, r11, (ra1.up ((e7.trans e8).trans e9)).app (.cons hz .nil), q7.2⟩
      · have ej : j = items1.length := by omega
        subst ej
        refine .inl ⟨W1.stops H5 gd1, ?_⟩
        have r7 := r6.wiped vs
        rw [wipe_sub σ2 hv, hw] at r7
        exact ⟨G5, wipeR ρ5 vs1, acc1, xs1, (((e.trans e2).trans e3).trans e4).trans e5, r7, ra1, jfin _ acc1 hJ⟩
  · have ei : i = items.length := by omega
    subst ei
    refine .inl ⟨W.stops H' gd, ?_⟩
    obtain ⟨G', ρ', acc, xs, e, r, ra, hI⟩ := p
    refine k acc _ G' H' D xs (fin _ acc hI) (e1.trans e) ?_ fr ra
    have r5 := r.wiped vs
    rw [wipe_idem] at r5
    exact r5.unwipe fun j hj => wipeR_no hj
section
variable {X : Cx}
theorem pn_lc2 {elt tg iter tg1 iter1 : Expr} {ifs ifs1 : List Expr} {scope : Scope} {own : List (Str × Nat)} {vs1 : List Nat} {pos : Pos} {di di1 : DN} {dg dg1 : DG} {dt dt1 : DT} {de : DE} {is is1 : List Nat} (hc : X.calm = true) (hN : X.N.Nodup) (hi : PID X tg iter di) (ok : BlkOk X.N X.env.scope scope own)
    (hg : ∀ (s : Shared) (H : Hp) (C : Addr) (cl : List (Str × Addr)) (fp : List Addr), PGD (X.blk s H scope (compEnvC scope cl C X.env) fp) tg is dg) (ht : ∀ (s : Shared) (H : Hp) (C : Addr) (cl : List (Str × Addr)) (fp : List Addr), PTsD (X.blk s H scope (compEnvC scope cl C X.env) fp) ifs dt)
    (hi1 : ∀ (s : Shared) (H : Hp) (C : Addr) (cl : List (Str × Addr)) (fp : List Addr), PID (X.blk s H scope (compEnvC scope cl C X.env) fp) tg1 iter1 di1)
    (hg1 : ∀ (s : Shared) (H : Hp) (C : Addr) (cl : List (Str × Addr)) (fp : List Addr), PGD (X.blk s H scope (compEnvC scope cl C X.env) fp) tg1 is1 dg1) (ht1 : ∀ (s : Shared) (H : Hp) (C : Addr) (cl : List (Str × Addr)) (fp : List Addr), PTsD (X.blk s H scope (compEnvC scope cl C X.env) fp) ifs1 dt1)
    (he : ∀ (s : Shared) (H : Hp) (C : Addr) (cl : List (Str × Addr)) (fp : List Addr), PD (X.blk s H scope (compEnvC scope cl C X.env) fp) elt de) (hv : ∀ i ∈ vs1, i ∈ own.map (·.2) := by decide) (hj : ∀ j ∈ is, j ∈ own.map (·.2) := by decide) (hj1 : ∀ j ∈ is1, j ∈ vs1 := by decide) (hs : ∀ x, foldedSetIterable iter X.env x = pure x := by intro _; rfl) (hs1 : ∀ env x, foldedSetIterable iter1 env x = pure x := by intro _ _; rfl) :
    PN X (.ListComp elt [⟨tg, iter, ifs, 0⟩, ⟨tg1, iter1, ifs1, 0⟩] scope pos) (dLc2 di dg dt di1 dg1 dt1 de (own.map (·.2)) vs1) := pe_imp (pe_lc2 hc hN hi ok hv hg ht hi1 hg1 ht1 he hs hs1) fun _ _ _ h => lc2_go hj hj1 hv h
/-! ### a, b = [..], [..] -/
def dParNN (i j : Nat) (dn dm : DN) : DS := fun D ρ => dn ρ fun xs ρ1 => dm ρ1 fun ys ρ2 => D.nx ((ρ2.set i (.own xs)).set j (.own ys))
theorem rep_twoN {c : Co} {G H : Hp} {σ : L2.St} {ρ : Rho} {i j : Nat} {p q : Addr} {xs ys : List V} {ds es : List PyData} (r2 : Rep { c with pin := (q, .lst ys) :: (p, .lst xs) :: c.pin } G σ H ρ) (fp : freeAt c p) (f : freeAt { c with pin := (p, .lst xs) :: c.pin } q) (hx : RpAll G xs ds) (hy : RpAll G ys es) :
    Rep c G ((σ.set i (some (.ref p))).set j (some (.ref q))) H ((ρ.set i (.own ds)).set j (.own es)) := by
  have a1 := r2.pins (q, .lst ys) List.mem_cons_self
  have a2 := r2.pins (p, .lst xs) (List.mem_cons_of_mem _ List.mem_cons_self)
  have hpq : p ≠ q := f.2 (p, .lst xs) List.mem_cons_self
  have r3 : Rep { c with pin := (p, .lst xs) :: (q, .lst ys) :: c.pin } G σ H ρ := by
    refine ⟨⟨r2.g0, r2.fr, r2.gh, r2.hh, r2.dom⟩, r2.len, fun i s h => ?_, r2.sep, fun z hz => ?_, r2.mats.sub (fun _ _ h _ => ⟨h, rfl⟩) fun z hz => ?_⟩
    rotate_left 2
    · rcases List.mem_cons.mp hz with rfl | hz
      · exact List.mem_cons_of_mem _ List.mem_cons_self
      · rcases List.mem_cons.mp hz with rfl | hz
        · exact List.mem_cons_self
        · exact List.mem_cons_of_mem _ (List.mem_cons_of_mem _ hz)
    · have := r2.ok i s h
      cases s <;> exact this
    · rcases List.mem_cons.mp hz with rfl | hz
      · exact a2
      · rcases List.mem_cons.mp hz with rfl | hz
        · exact a1
        · exact r2.pins z (List.mem_cons_of_mem _ (List.mem_cons_of_mem _ hz))
  have r4 := Rep.setM (c := { c with pin := (q, .lst ys) :: c.pin }) (i := i) r3 (s := .own ds) rfl ⟨p, xs, rfl, a2.1, hx, a2.2.1, fp.1⟩ fun z hz => by
    rcases List.mem_cons.mp hz with rfl | hz
    · exact fun y => hpq y.symm
    · exact fp.2 z hz
  exact Rep.setM (c := c) r4 (s := .own es) rfl ⟨q, ys, rfl, a1.1, hy, a1.2.1, f.1⟩ fun z hz => f.2 z (List.mem_cons_of_mem _ hz)
variable {e1 e2 : Expr} {dn dm : DN} {pos : Pos}
theorem psd_parNN (i j : Nat) {x y : Str} {px py pt : Pos} {kt k2 pt2} (hc : X.calm = true) (hN : X.N.Nodup) (ha : PN X e1 dn) (hb : PN X e2 dm) (hi : X.N[i]? = some x := by rfl) (hj : X.N[j]? = some y := by rfl) (hij : i ≠ j := by decide)
    (hx : X.env.scope.names.lookup x = some .local := by rfl) (hy : X.env.scope.names.lookup y = some .local := by rfl) (hs1 : starEach [e1, e2] X.env = (false, eval e1 X.env) :: starEach [e2] X.env := by rfl) (hs2 : starEach [e2] X.env = (false, eval e2 X.env) :: starEach [] X.env := by rfl)
    (hw : swappedStores [.Tuple [.Name x px, .Name y py] kt pt] (.Tuple [e1, e2] k2 pt2) X.env = pure (some [x, y]) := by rfl) (hs : swapsWithSole [.Tuple [.Name x px, .Name y py] kt pt] (.Tuple [e1, e2] k2 pt2) pos.line X.env = pure false := by rfl) :
    PSD X (.Assign [.Tuple [.Name x px, .Name y py] kt pt] (.Tuple [e1, e2] k2 pt2) pos) (dParNN i j dn dm) := ps_imp (ps_par hc hN hi hj hij hx hy (pa_cons ha (pa_cons hb pa_nil hs2) hs1) hw hs) fun D σ H ⟨c, G, ρ, D', r, h, k⟩ =>
  ⟨c, G, ρ, _, r, h, fun ds ρ1 G1 H1 p xs q1 f1 r1 fp hx => ⟨_, G1, ρ1, _, r1, q1, fun es ρ2 G2 H2 q ys q2 f2 r2 f hy => ⟨_, _, rfl, k.nx _ G2 H2 _ q2 (f1.trans f2) (rep_twoN r2 fp f (hx.up f2) hy)⟩⟩⟩
theorem psd_unpNN (i j : Nat) {x y : Str} {px py pt : Pos} {kt k2 pt2} (hc : X.calm = true) (hN : X.N.Nodup) (ha : PN X e1 dn) (hb : PN X e2 dm) (hi : X.N[i]? = some x := by rfl) (hj : X.N[j]? = some y := by rfl)
    (hx : Loc X.env.scope x := by first | exact Or.inl rfl | exact Or.inr rfl) (hy : Loc X.env.scope y := by first | exact Or.inl rfl | exact Or.inr rfl) (hfx : X.fn x = true ∨ X.env.scope.names.lookup x = some .local := by first | exact .inl rfl | exact .inr rfl) (hfy : X.fn y = true ∨ X.env.scope.names.lookup y = some .local := by first | exact .inl rfl | exact .inr rfl) (hs1 : starEach [e1, e2] X.env = (false, eval e1 X.env) :: starEach [e2] X.env := by rfl) (hs2 : starEach [e2] X.env = (false, eval e2 X.env) :: starEach [] X.env := by rfl)
    (hw : swappedStores [.Tuple [.Name x px, .Name y py] kt pt] (.Tuple [e1, e2] k2 pt2) X.env = pure none := by rfl) (hs : swapsWithSole [.Tuple [.Name x px, .Name y py] kt pt] (.Tuple [e1, e2] k2 pt2) pos.line X.env = pure false := by rfl)
    (h1 : (assignEach [.Tuple [.Name x px, .Name y py] kt pt] X.env).map (·.2) = [assign (.Tuple [.Name x px, .Name y py] kt pt) X.env] := by rfl) (h2 : (assignEach [.Name x px, .Name y py] X.env).map (·.2) = assign (.Name x px) X.env :: (assignEach [.Name y py] X.env).map (·.2) := by rfl) (h3 : (assignEach [.Name y py] X.env).map (·.2) = assign (.Name y py) X.env :: (assignEach [] X.env).map (·.2) := by rfl)
    (hn : (assignEach [.Name x px, .Name y py] X.env).length = 2 := by rfl) (hst : (assignEach [.Name x px, .Name y py] X.env).findIdx? (·.1) = none := by rfl) :
    PSD X (.Assign [.Tuple [.Name x px, .Name y py] kt pt] (.Tuple [e1, e2] k2 pt2) pos) (dParNN i j dn dm) := ps_imp (ps_asg (pe_tup (pa_cons ha (pa_cons hb pa_nil hs2) hs1)) (pg_tup hc (pgs_cons (pg_name hN hi hx hfx) (pgs_cons (pg_name hN hj hy hfy) pgs_nil h3) h2) hn hst) hs hw h1) fun D σ H ⟨c, G, ρ, D', r, h, k⟩ => by
  refine ⟨c, G, ρ, _, r, h, fun ds ρ1 G1 H1 p xs q1 f1 r1 fp hx => ⟨_, G1, ρ1, _, r1, q1, fun es ρ2 G2 H2 q ys q2 f2 r2 f hy => ⟨sz_of (by decide : 2 ≤ 100000), fun t ht => ?_⟩⟩⟩
  refine ⟨t, _, rfl, SqT.of upd_same, rfl, _, _, rfl, _, _, rfl, rfl, ?_⟩
  exact k.nx _ G2 _ _ q2 (f1.trans f2) (rep_twoN (r2.newH ht) fp f (hx.up f2) hy)
end
end DL

set_option Elab.async false
set_option linter.all false
set_option maxRecDepth 100000
set_option maxHeartbeats 1000000
/-! DL22: slices and sums of lists and of tuples. -/
namespace DL
open PySem L2 Evl PyProof.Rows RZ
section
variable {X : Cx}
/-- + of ints, lists, tuples -/
def fAddA : D2 := fun x y Q => match x, y with
  | .int i, .int j => Q (.int (i + j))
  | .list a, .list b => a.length + b.length ≤ 100000 ∧ Q (.list (a ++ b))
  | .tuple a, .tuple b => a.length + b.length ≤ 100000 ∧ Q (.tuple (a ++ b))
  | _, _ => False
theorem op_addA : OpR X (binaryOp .Add) (fun x y H Q => rAddU x y H Q ∨ rCatA X.K x y H Q) := or_i op_addU op_catA
theorem Rv.ofTup {G H : Hp} {v : V} {ds : List PyData} (h : Rv G H v (.tuple ds)) : Rp G v (.tuple ds) := by
  rcases h with h | ⟨a, xs, es, _, e, _, _⟩
  · exact h
  · cases e
theorem ro_addA {K : PySem.W.Frag} : ROp (fun x y H Q => rAddU x y H Q ∨ rCatA K x y H Q) fAddA := fun G H v w x y Q Q' e hv hw h k => by
  have old : ∀ {x y}, Rv G H v x → Rv G H w y → fAdd x y Q' → rAddU v w H Q := fun hv hw h => ro_add G H v w _ _ Q Q' e hv hw h k
  cases x with
  | int i =>
    cases y with
    | int j => exact .inl (old hv hw h)
    | _ => exact h.elim
  | list a =>
    cases y with
    | list b => exact .inl (old hv hw h)
    | _ => exact h.elim
  | tuple a =>
    cases y with
    | tuple b =>
      have p1 := hv.ofTup
      have p2 := hw.ofTup
      cases p1 with
      | @tup l xs _ h1 h2 =>
        cases p2 with
        | @tup l2 ys _ h3 h4 =>
          refine .inr ⟨l, l2, xs, ys, rfl, rfl, SqT.of (e _ _ h1), SqT.of (e _ _ h3), sz_of (by rw [h2.len, h4.len]; exact h.1), fun z => ?_, fun _ z => ?_, fun _ _ p hp => k _ _ _ (out_tup e hp (h2.app h4)) h.2⟩
          · subst z
            cases h2
            exact k _ _ _ (.inl ⟨rfl, .tup h3 h4⟩) h.2
          · subst z
            cases h4
            have ea : a ++ [] = a := List.append_nil a
            have q := h.2
            rw [ea] at q
            exact k _ _ _ (.inl ⟨rfl, .tup h1 h2⟩) q
    | _ => exact h.elim
  | _ => cases y <;> exact h.elim
/-- x[lo:hi] of a list or a tuple; x a name -/
def dSlA (i : Nat) (ol oh : DO) : DE := fun ρ Q => rd ρ i fun _ => ol ρ fun lo ρ1 => oh ρ1 fun hi ρ2 => rd ρ2 i fun x => match x with
  | .list ds => Q (.list (cutD ds lo hi)) ρ2
  | .tuple ds => Q (.tuple (cutD ds lo hi)) ρ2
  | _ => False
theorem cut_all {α : Type} (xs : List α) (lo hi : Option Int) (h : HT.sIx xs.length 0 lo = 0 ∧ HT.sIx xs.length xs.length hi = xs.length) : (xs.drop (HT.sIx xs.length 0 lo)).take (HT.sIx xs.length xs.length hi - HT.sIx xs.length 0 lo) = xs := by
  rw [h.1, h.2, List.drop_zero, Nat.sub_zero, List.take_length]
theorem pd_slA (i : Nat) {x : Str} {p p2 pos : Pos} {lo hi : Option Expr} {ol oh : DO} (hl : POD X lo ol) (hh : POD X hi oh) (hN : X.N[i]? = some x := by rfl) (hv : Vis X.env.scope x := by first | exact Or.inl rfl | exact Or.inr (Or.inl rfl) | exact Or.inr (Or.inr rfl)) (hd : (x == ("__debug__" : Str)) = false := by decide)
    (hcd : (x == ("__classdict__" : Str)) = false := by decide) : PD X (.Subscript (.Name x p) (.Slice lo hi none p2) pos) (dSlA i ol oh) := pe_imp (pe_slice (or_sl sl_list sl_tupA) (pe_var hN hv hd hcd) hl hh) fun σ H Q ⟨c, G, ρ, Q', rp, h, k⟩ => by
  obtain ⟨v, d0, h1, _, h⟩ := rd_some rp h
  refine ⟨v, h1, c, G, ρ, _, rp, h, fun lo ρ1 G1 H1 q1 e1 r1 => ⟨c, G1, ρ1, _, r1, q1, fun hi ρ2 G2 H2 q2 e2 r2 => ?_⟩⟩
  obtain ⟨v', d, h2, h3, q3⟩ := rd_some r2 q2
  rw [h1] at h2
  cases h2
  cases d with
  | list ds =>
    obtain ⟨l, xs, rfl, h4, h5⟩ := h3.lst r2.gh
    refine .inl ⟨l, xs, rfl, SqL.of h4, fun p hp => ?_⟩
    have e3 : Ex G2 (upd G2 p (.lst (cutV xs lo hi))) := Ex.new (none_up r2.gh hp)
    exact k _ ρ2 _ _ _ q3 ((e1.trans e2).trans e3) (r2.new hp) (.lst upd_same ((h5.cut lo hi).up e3))
  | tuple ds =>
    have p1 := h3.ofTup
    cases p1 with
    | @tup l xs _ h4 h5 =>
      have hlen := h5.len
      refine .inr ⟨l, xs, rfl, SqT.of (r2.gh _ _ h4), fun hw => ?_, fun _ p hp => ?_⟩
      · have ew : cutD ds lo hi = ds := by
          unfold DL.cutD
          exact cut_all ds lo hi (by rw [← hlen]; exact hw)
        have q3 : Q' (.tuple (cutD ds lo hi)) ρ2 := q3
        rw [ew] at q3
        exact k _ ρ2 G2 H2 _ q3 (e1.trans e2) r2 (.tup h4 h5)
      · have e3 : Ex G2 (upd G2 p (.tup (cutV xs lo hi))) := Ex.new (none_up r2.gh hp)
        exact k _ ρ2 _ _ _ q3 ((e1.trans e2).trans e3) (r2.new hp) (.tup upd_same ((h5.cut lo hi).up e3))
  | _ => exact q3.elim
end
end DL

set_option Elab.async false
set_option linter.all false
set_option maxRecDepth 100000
set_option maxHeartbeats 1000000
/-! DL23: comprehensions over a list of one's own that stays one's own; x + e as a new list. -/
namespace DL
open PySem L2 Evl PyProof.Rows RZ
/-- the comprehension walks the slot k's own list: en: with its numbers -/
def srcO (en : Bool) (ds : List PyData) : List PyData := if en then enumD 0 ds else ds
theorem srcO_len (en : Bool) (ds : List PyData) : (srcO en ds).length = ds.length := by
  cases en
  · rfl
  · exact enumD_len 0 ds
def itO (K : PySem.W.Frag) (en : Bool) (a : Addr) : It := if en then Ite K a else Itl K a
def dLcO (k : Nat) (en : Bool) (dg : DG) (dt : DT) (de : DE) (vs : List Nat) : DN := fun ρ Q => match ρ[k]? with
  | some (.own ds) => k ∉ vs ∧ ∃ I : Nat → Rho → List PyData → Prop, I 0 (wipeR ρ vs) [] ∧
    (∀ i ρ acc, I i ρ acc → ρ[k]? = some (.own ds)) ∧
    (∀ i x ρ acc, (srcO en ds)[i]? = some x → I i ρ acc → dg x ρ fun ρ2 => dt ρ2 fun b ρ3 => match b with
      | true => de ρ3 fun y ρ4 => acc.length < 100000 ∧ I (i + 1) (wipeR ρ4 vs) (acc ++ [y])
      | false => I (i + 1) (wipeR ρ3 vs) acc) ∧
    ∀ ρ acc, I ds.length ρ acc → Q acc (wipeR ρ vs)
  | _ => False
def GdO (a : Addr) (n : Nat) (H : Hp) : Prop := ∃ xs : List V, H a = some (.lst xs) ∧ xs.length = n
def YO (en : Bool) (a : Addr) (i : Nat) (H : Hp) (v : V) (H' : Hp) : Prop := ∃ xs x, H a = some (.lst xs) ∧ xs[i]? = some x ∧ (if en then ∃ T, v = .ref T ∧ H T = none ∧ H' = upd H T (.tup [.int (i : Nat), x]) else v = x ∧ H' = H)
theorem walk_O {K : PySem.W.Frag} (en : Bool) (a : Addr) (n : Nat) : Walk (itO K en a) n (GdO a n) (YO en a) := by
  cases en with
  | false => exact ⟨fun i H hi ⟨xs, q, l⟩ => ⟨xs, xs[i], SqL.of q, by simp⟩, fun H ⟨xs, q, l⟩ => ⟨xs, SqL.of q, by omega⟩, fun i H x H' hi ⟨xs, q, l⟩ y => ⟨xs, x, q, y.2 xs (SqL.of q), rfl, y.1⟩⟩
  | true => exact ⟨fun i H hi ⟨xs, q, l⟩ => ⟨xs, xs[i], SqL.of q, by simp⟩, fun H ⟨xs, q, l⟩ => ⟨xs, SqL.of q, by omega⟩, fun i H v H' hi ⟨xs, q, l⟩ ⟨T, x, h1, h2, h3, h4⟩ => ⟨xs, x, q, h4 xs (SqL.of q), T, h1, h2, h3⟩⟩
theorem out_O {G H : Hp} {en : Bool} {a : Addr} {i : Nat} {v : V} {H' : Hp} {ds xs : List V} {es : List PyData} {d : PyData} (gh : Ex G H) (ha : H a = some (.lst xs)) (r : RpAll G xs es) (y : YO en a i H v H') (hd : (srcO en es)[i]? = some d) : Out G H v d H' := by
  obtain ⟨ys, x, h1, h2, h3⟩ := y
  rw [ha] at h1
  cases h1
  cases en with
  | false =>
    obtain ⟨rfl, rfl⟩ := h3
    obtain ⟨d', k1, k2⟩ := r.atv h2
    have hd : es[i]? = some d := hd
    rw [hd] at k1
    cases k1
    exact .inl ⟨rfl, k2⟩
  | true =>
    obtain ⟨T, rfl, hT, rfl⟩ := h3
    obtain ⟨d', k1, rfl⟩ := enumD_at 0 es i d hd
    obtain ⟨d2, k2, k3⟩ := r.atv h2
    rw [k1] at k2
    cases k2
    rw [show (0 + i : Nat) = i by omega]
    exact out_pair hT gh (.int _) k3
/-- the source: the name of the list, or enumerate of it -/
def tSrcO (K : PySem.W.Frag) (en : Bool) (k : Nat) : TI := fun σ H R => ∃ (a : Addr) (xs : List V), σ[k]? = some (some (.ref a)) ∧ H a = some (.lst xs) ∧ R (itO K en a) H
theorem lc_goO {K : PySem.W.Frag} {k : Nat} {en : Bool} {dg : DG} {dt : DT} {de : DE} {is vs : List Nat} (hs : ∀ j ∈ is, j ∈ vs) {σ : L2.St} {H : Hp} {Q : VK} (h : tN (dLcO k en dg dt de vs) σ H Q) : tLc (tSrcO K en k) (gD is dg) (tT dt) (tD de) vs σ H Q := by
  obtain ⟨c, G, ρ, Q', rp, hd, kk⟩ := h
  unfold dLcO at hd
  cases q : ρ[k]? with
  | none => rw [q] at hd; exact hd.elim
  | some s =>
    rw [q] at hd
    cases s with
    | own ds =>
      obtain ⟨hk, I, i0, keep, step, fin⟩ := hd
      obtain ⟨a, xs0, a1, a2, a3, a4, a5⟩ := rp.ok k _ q
      refine ⟨a, xs0, a1, a2, fun D hD => ?_⟩
      have fr := rp.free hD
      let Pv : Nat → Hp → Prop := fun i H' => ∃ G' ρ' acc xs, Ex G G' ∧ Rep { c with pin := (D, .lst xs) :: c.pin } G' (L2.wipe σ vs) H' (wipeR ρ' vs) ∧ RpAll G' xs acc ∧ I i (wipeR ρ' vs) acc
      have at_ : ∀ {i H'}, Pv i H' → ∃ ys, H' a = some (.lst ys) ∧ ys.length = ds.length := fun {i H'} ⟨G', ρ', acc, xs, e, r, ra, hI⟩ => by
        obtain ⟨b, ys, b1, b2, b3, _⟩ := r.ok k _ (keep i _ acc hI)
        rw [wipe_at hk, a1] at b1
        cases b1
        exact ⟨ys, b2, b3.len⟩
      refine lc_it (walk_O en a ds.length) Pv ⟨G, ρ, [], [], Ex.refl G, (rp.pinN hD).wiped vs, .nil, i0⟩ (fun i H' _ p => at_ p) (fun i x H' H'' hi p y => ?_) (fun H' p => ?_)
      · obtain ⟨G', ρ', acc, xs, e, r, ra, hI⟩ := p
        obtain ⟨b, ys, b1, b2, b3, _⟩ := r.ok k _ (keep i _ acc hI)
        rw [wipe_at hk, a1] at b1
        cases b1
        obtain ⟨d, hdi⟩ : ∃ d, (srcO en ds)[i]? = some d := ⟨_, List.getElem?_eq_getElem (by rw [srcO_len]; exact hi)⟩
        obtain ⟨G2, e2, r2, hx⟩ := r.out (out_O (ds := ys) r.gh b2 b3 y hdi)
        refine ⟨_, G2, _, d, _, r2, hx, step i d _ acc hdi hI, fun σ2 ρ2 q2 r3 l2 => ?_⟩
        have hw : L2.wipe σ2 vs = L2.wipe σ vs := by rw [wipe_same l2.1 l2.2 hs, wipe_idem]
        refine ⟨hw, _, G2, ρ2, _, r3, q2, fun b ρ3 G3 H3 q3 e3 r4 => ?_⟩
        cases b with
        | false =>
          show Pv (i + 1) H3
          have r5 := r4.wiped vs
          rw [hw] at r5
          exact ⟨G3, ρ3, acc, xs, (e.trans e2).trans e3, r5, ra.up (e2.trans e3), q3⟩
        | true =>
          show tD de σ2 H3 _
          refine ⟨_, G3, ρ3, _, r4, q3, fun y ρ4 G4 H4 w q4 e4 r5 hy => ?_⟩
          have r6 := (r5.repin (o' := .lst (xs ++ [w])) fr).wiped vs
          rw [hw] at r6
          refine ⟨xs, (r5.pins _ List.mem_cons_self).1, sz_lt (by rw [ra.len]; exact q4.1), ?_⟩
          exact ⟨G4, ρ4, acc ++ [y], xs ++ [w], ((e.trans e2).trans e3).trans e4, r6, (ra.up ((e2.trans e3).trans e4)).app (.cons hy .nil), q4.2⟩
      · obtain ⟨G', ρ', acc, xs, e, r, ra, hI⟩ := p
        refine kk acc _ G' H' D xs (fin _ acc hI) e ?_ fr ra
        have r5 := r.wiped vs
        rw [wipe_idem] at r5
        exact r5.unwipe fun j hj => wipeR_no hj
    | _ => exact hd.elim
section
variable {X : Cx}
abbrev PIO (X : Cx) (tg e : Expr) (k : Nat) (en : Bool) : Prop := PI X tg e (tSrcO X.K en k)
theorem pio_var {tg : Expr} (k : Nat) {x : Str} {pos : Pos} (hN : X.N[k]? = some x := by rfl) (hv : Vis X.env.scope x := by first | exact Or.inl rfl | exact Or.inr (Or.inl rfl) | exact Or.inr (Or.inr rfl)) (hd : (x == ("__debug__" : Str)) = false := by decide)
    (hcd : (x == ("__classdict__" : Str)) = false := by decide) : PIO X tg (.Name x pos) k false := pi_imp (pi_list (pe_var hN hv hd hcd)) fun σ H R ⟨a, xs, h1, h2, h3⟩ => ⟨_, h1, a, rfl, ⟨_, SqL.of h2⟩, h3⟩
theorem pio_enum {elts : List Expr} {kk : Nat} {tpos : Pos} (k : Nat) {x : Str} {p p2 pos : Pos} (hm : X.mg "enumerate" = none) (hg : Gl X "enumerate" := by rfl) (hs : starEach [.Name x p2] X.env = [(false, eval (.Name x p2) X.env)] := by rfl) (hN : X.N[k]? = some x := by rfl) (hv : Vis X.env.scope x := by first | exact Or.inl rfl | exact Or.inr (Or.inl rfl) | exact Or.inr (Or.inr rfl)) (hd : (x == ("__debug__" : Str)) = false := by decide)
    (hcd : (x == ("__classdict__" : Str)) = false := by decide) : PIO X (.Tuple elts kk tpos) (.Call (.Name "enumerate" p) [.Name x p2] [] pos) k true := pi_imp (pi_enum hg hm (pa_cons (pe_var hN hv hd hcd) pa_nil (by rw [hs]; rfl)) hs) fun σ H R ⟨a, xs, h1, h2, h3⟩ => ⟨_, h1, a, _, rfl, SqL.of h2, h3⟩
theorem pn_lcO {elt tg iter : Expr} {ifs : List Expr} {scope : Scope} {own : List (Str × Nat)} {pos : Pos} {k : Nat} {en : Bool} {dg : DG} {dt : DT} {de : DE} {is : List Nat} (hc : X.calm = true) (hN : X.N.Nodup) (hi : PIO X tg iter k en) (ok : BlkOk X.N X.env.scope scope own)
    (hg : ∀ (s : Shared) (H : Hp) (C : Addr) (cl : List (Str × Addr)) (fp : List Addr), PGD (X.blk s H scope (compEnvC scope cl C X.env) fp) tg is dg) (ht : ∀ (s : Shared) (H : Hp) (C : Addr) (cl : List (Str × Addr)) (fp : List Addr), PTsD (X.blk s H scope (compEnvC scope cl C X.env) fp) ifs dt)
    (he : ∀ (s : Shared) (H : Hp) (C : Addr) (cl : List (Str × Addr)) (fp : List Addr), PD (X.blk s H scope (compEnvC scope cl C X.env) fp) elt de) (hj : ∀ j ∈ is, j ∈ own.map (·.2) := by decide) (hs : ∀ x, foldedSetIterable iter X.env x = pure x := by intro _; rfl) :
    PN X (.ListComp elt [⟨tg, iter, ifs, 0⟩] scope pos) (dLcO k en dg dt de (own.map (·.2))) := pe_imp (pe_lc hc hN hi ok hg ht he hs) fun _ _ _ h => lc_goO hj h
theorem psd_setLcO (i : Nat) {y : Str} {py : Pos} {elt tg iter : Expr} {ifs : List Expr} {scope : Scope} {own : List (Str × Nat)} {pos spos : Pos} {k : Nat} {en : Bool} {dg : DG} {dt : DT} {de : DE} {is : List Nat} (hc : X.calm = true) (hN : X.N.Nodup)
    (hi : PIO X tg iter k en) (ok : BlkOk X.N X.env.scope scope own)
    (hg : ∀ (s : Shared) (H : Hp) (C : Addr) (cl : List (Str × Addr)) (fp : List Addr), PGD (X.blk s H scope (compEnvC scope cl C X.env) fp) tg is dg) (ht : ∀ (s : Shared) (H : Hp) (C : Addr) (cl : List (Str × Addr)) (fp : List Addr), PTsD (X.blk s H scope (compEnvC scope cl C X.env) fp) ifs dt)
    (he : ∀ (s : Shared) (H : Hp) (C : Addr) (cl : List (Str × Addr)) (fp : List Addr), PD (X.blk s H scope (compEnvC scope cl C X.env) fp) elt de) (hy : X.N[i]? = some y := by rfl) (hyl : X.env.scope.names.lookup y = some .local := by rfl)
    (hsw : swapsWith (.ListComp elt [⟨tg, iter, ifs, 0⟩] scope pos) (some (.Name y py)) spos.line X.env = pure true := by exact sw_true rfl rfl rfl (by decide +kernel)) (hj : ∀ j ∈ is, j ∈ own.map (·.2) := by decide) (hs : ∀ x, foldedSetIterable iter X.env x = pure x := by intro _; rfl) :
    PSD X (.Assign [.Name y py] (.ListComp elt [⟨tg, iter, ifs, 0⟩] scope pos) spos) (dSet i (asD (dLcO k en dg dt de (own.map (·.2))))) :=
  ps_imp (ps_setLc hc hN hy hyl hsw hi ok hg ht he hs) fun D σ H ⟨c, G, ρ, D', r, h, kk⟩ => lc_goO hj ⟨c, G, ρ, _, r, h, fun ds ρ' G' H' p xs q e r' f h' => by
    obtain ⟨e2, r2⟩ := r'.settle f.1 f.2
    exact kk.nx _ _ H' _ q (e.trans e2) (r2.setV (.lst upd_same (h'.up e2)))⟩
/-- x + e as a new list -/
def dCatV (i : Nat) (db : DE) : DN := fun ρ Q => rd ρ i fun _ => db ρ fun y ρ2 => rd ρ2 i fun x => match x, y with
  | .list a, .list b => a.length + b.length ≤ 100000 ∧ Q (a ++ b) ρ2
  | _, _ => False
theorem pn_catV (i : Nat) {x : Str} {p pos : Pos} {b : Expr} {db : DE} (hb : PD X b db) (hN : X.N[i]? = some x := by rfl) (hv : Vis X.env.scope x := by first | exact Or.inl rfl | exact Or.inr (Or.inl rfl) | exact Or.inr (Or.inr rfl)) (hd : (x == ("__debug__" : Str)) = false := by decide)
    (hcd : (x == ("__classdict__" : Str)) = false := by decide) : PN X (.BinOp (.Name x p) .Add b pos) (dCatV i db) := pe_imp (pe_op op_cat (pe_var hN hv hd hcd) hb) fun σ H Q ⟨c, G, ρ, Q', rp, h, k⟩ => by
  obtain ⟨v, d0, h1, _, h⟩ := rd_some rp h
  refine ⟨v, h1, c, G, ρ, _, rp, h, fun y ρ2 G2 H2 w q2 e2 r2 hy => ?_⟩
  obtain ⟨v', d, h2, h3, q3⟩ := rd_some r2 q2
  rw [h1] at h2
  cases h2
  cases d with
  | list ds =>
    cases y with
    | list es =>
      obtain ⟨l, xs, rfl, h4, h5⟩ := h3.lst r2.gh
      cases hy with
      | @lst l2 ys _ g1 g2 =>
        exact ⟨l, l2, xs, ys, rfl, rfl, h4, r2.gh _ _ g1, sz_of (by rw [h5.len, g2.len]; exact q3.1), fun p hp => k _ ρ2 G2 _ p _ q3.2 e2 (r2.pinN hp) (r2.free hp) (h5.app g2)⟩
    | _ => exact q3.elim
  | _ => cases y <;> exact q3.elim
/-- a, b = [..], e where a name is a cell -/
theorem psd_unpN (i j : Nat) {e1 e2 : Expr} {dn : DN} {db : DE} {x y : Str} {px py pt pos : Pos} {kt k2 pt2} (hc : X.calm = true) (hN : X.N.Nodup) (ha : PN X e1 dn) (hb : PD X e2 db) (hi : X.N[i]? = some x := by rfl) (hj : X.N[j]? = some y := by rfl)
    (hx : Loc X.env.scope x := by first | exact Or.inl rfl | exact Or.inr rfl) (hy : Loc X.env.scope y := by first | exact Or.inl rfl | exact Or.inr rfl) (hfx : X.fn x = true ∨ X.env.scope.names.lookup x = some .local := by first | exact .inl rfl | exact .inr rfl) (hfy : X.fn y = true ∨ X.env.scope.names.lookup y = some .local := by first | exact .inl rfl | exact .inr rfl) (hs1 : starEach [e1, e2] X.env = (false, eval e1 X.env) :: starEach [e2] X.env := by rfl) (hs2 : starEach [e2] X.env = (false, eval e2 X.env) :: starEach [] X.env := by rfl)
    (hw : swappedStores [.Tuple [.Name x px, .Name y py] kt pt] (.Tuple [e1, e2] k2 pt2) X.env = pure none := by rfl) (hs : swapsWithSole [.Tuple [.Name x px, .Name y py] kt pt] (.Tuple [e1, e2] k2 pt2) pos.line X.env = pure false := by rfl)
    (h1 : (assignEach [.Tuple [.Name x px, .Name y py] kt pt] X.env).map (·.2) = [assign (.Tuple [.Name x px, .Name y py] kt pt) X.env] := by rfl) (h2 : (assignEach [.Name x px, .Name y py] X.env).map (·.2) = assign (.Name x px) X.env :: (assignEach [.Name y py] X.env).map (·.2) := by rfl) (h3 : (assignEach [.Name y py] X.env).map (·.2) = assign (.Name y py) X.env :: (assignEach [] X.env).map (·.2) := by rfl)
    (hn : (assignEach [.Name x px, .Name y py] X.env).length = 2 := by rfl) (hst : (assignEach [.Name x px, .Name y py] X.env).findIdx? (·.1) = none := by rfl) :
    PSD X (.Assign [.Tuple [.Name x px, .Name y py] kt pt] (.Tuple [e1, e2] k2 pt2) pos) (dParN i j dn db) := ps_imp (ps_asg (pe_tup (pa_cons ha (pa_cons hb pa_nil hs2) hs1)) (pg_tup hc (pgs_cons (pg_name hN hi hx hfx) (pgs_cons (pg_name hN hj hy hfy) pgs_nil h3) h2) hn hst) hs hw h1) fun D σ H ⟨c, G, ρ, D', r, h, k⟩ => by
  refine ⟨c, G, ρ, _, r, h, fun ds ρ1 G1 H1 p xs q1 f1 r1 fp hx => ⟨_, G1, ρ1, _, r1, q1, fun d ρ2 G2 H2 v q2 f2 r2 hv => ⟨sz_of (by decide : 2 ≤ 100000), fun t ht => ?_⟩⟩⟩
  refine ⟨t, _, rfl, SqT.of upd_same, rfl, _, _, rfl, _, _, rfl, rfl, ?_⟩
  have r3 := r2.newH (o := .tup [V.ref p, v]) ht
  have a1 := r3.pins (p, .lst xs) List.mem_cons_self
  exact k.nx _ G2 _ _ q2 (f1.trans f2) ((Rep.setM (c := c) (i := i) r3 (s := .own ds) rfl ⟨p, xs, rfl, a1.1, hx.up f2, a1.2.1, fp.1⟩ fp.2).setV hv)
end
end DL

set_option Elab.async false
set_option linter.all false
set_option maxRecDepth 100000
set_option maxHeartbeats 1000000
/-! DLRep: what repr makes of nested data is not too long and is a string. -/
namespace DL
open PySem L2 Evl PyProof.Rows RZ
theorem so_app {a b : Str} (h1 : PyData.strOk a = true) (h2 : PyData.strOk b = true) : PyData.strOk (a ++ b) = true := by
  unfold PyData.strOk at *
  have e : (a ++ b).cps = a.cps ++ b.cps := rfl
  rw [e, Array.all_append, h1, h2]
  rfl
theorem so_of (s : String) : PyData.strOk (Str.ofString s) = true := by
  unfold PyData.strOk
  rw [Str.ofString_eq_toList]
  show (Array.all _ _) = true
  rw [List.all_toArray, List.all_eq_true]
  intro x hx
  obtain ⟨c, _, rfl⟩ := List.mem_map.mp hx
  have : c.toNat < 1114112 := by
    have := c.valid
    unfold Char.toNat
    rcases this with h | h
    · exact Nat.lt_trans h (by decide)
    · exact h.2
  exact decide_eq_true this
theorem so_from : ∀ (ts : List Str) (k : Nat) (acc : Str), PyData.strOk acc = true → (∀ t ∈ ts, PyData.strOk t = true) → PyData.strOk (textFrom k acc ts) = true
  | [], _, _, h, _ => h
  | t :: ts, k, acc, h, g => by
    unfold textFrom
    exact so_from ts _ _ (so_app (so_app h (so_of _)) (g t List.mem_cons_self)) fun x hx => g x (List.mem_cons_of_mem _ hx)
theorem so_list {ts : List Str} (h : ∀ t ∈ ts, PyData.strOk t = true) : PyData.strOk (listText ts) = true := so_app (so_from ts 0 _ (so_of "[") h) (so_of "]")
theorem so_join (sep : Str) (hs : PyData.strOk sep = true) : ∀ (ts : List Str), (∀ t ∈ ts, PyData.strOk t = true) → PyData.strOk (Str.join sep ts) = true
  | [], _ => so_of ""
  | [t], h => h t List.mem_cons_self
  | t :: u :: r, h => so_app (so_app (h t List.mem_cons_self) hs) (so_join sep hs (u :: r) fun x hx => h x (List.mem_cons_of_mem _ hx))
theorem so_tuple {ts : List Str} (h : ∀ t ∈ ts, PyData.strOk t = true) : PyData.strOk (tupleText ts) = true := by
  unfold tupleText
  exact so_app (so_app (so_of "(") (so_join _ (so_of ", ") ts h)) (so_of _)
/-- shown by at most L signs -/
structure Rb (d : PyData) (L : Nat) : Prop where
  sh : d.showable = true
  len : d.shown.length ≤ L
  ok : PyData.strOk d.shown = true
theorem Rb.int {i : Int} (h : i.natAbs < 2 ^ 100) : Rb (.int i) 40 where
  sh := by
    have lg : i.natAbs.log2 < 1920 := by
      by_cases z : i.natAbs = 0
      · rw [z]; decide
      · exact Nat.lt_of_lt_of_le ((Nat.log2_lt z).mpr h) (by decide)
    simp only [PyData.showable, decide_eq_true lg]
  len := by
    simp only [PyData.shown]
    have e := int_text_length_le10 (a := i) (k := 31) (by decide) (Nat.lt_of_lt_of_le h (by decide))
    rw [PySem.ofString_length]
    omega
  ok := by
    simp only [PyData.shown]
    exact so_of _
theorem Rb.mono {d : PyData} {L M : Nat} (h : Rb d L) (l : L ≤ M) : Rb d M := ⟨h.sh, Nat.le_trans h.len l, h.ok⟩
theorem rb_all {L : Nat} : ∀ {ds : List PyData}, (∀ d ∈ ds, Rb d L) → PyData.showableAll ds = true ∧ ((PyData.shownAll ds).map (·.length)).sum ≤ ds.length * L ∧ (PyData.shownAll ds).length = ds.length ∧ ∀ t ∈ PyData.shownAll ds, PyData.strOk t = true
  | [], _ => ⟨by simp only [PyData.showableAll], by simp only [PyData.shownAll]; exact Nat.zero_le _, by simp only [PyData.shownAll, List.length_nil], by simp only [PyData.shownAll]; exact fun _ h => nomatch h⟩
  | d :: ds, h => by
    obtain ⟨a, b, c, e⟩ := rb_all fun x hx => h x (List.mem_cons_of_mem _ hx)
    have hd := h d List.mem_cons_self
    have l := hd.len
    refine ⟨by simp only [PyData.showableAll, hd.sh, a, Bool.and_true], ?_, ?_, ?_⟩
    · simp only [PyData.shownAll, List.map_cons, List.sum_cons, List.length_cons, Nat.succ_mul]
      omega
    · simp only [PyData.shownAll, List.length_cons, c]
    · simp only [PyData.shownAll]
      intro t ht
      rcases List.mem_cons.mp ht with rfl | ht
      · exact hd.ok
      · exact e t ht
theorem Rb.list {L : Nat} {ds : List PyData} (h : ∀ d ∈ ds, Rb d L) : Rb (.list ds) (ds.length * L + 2 * ds.length + 3) := by
  obtain ⟨a, b, c, e⟩ := rb_all h
  refine ⟨by simp only [PyData.showable, a], ?_, ?_⟩
  · simp only [PyData.shown]
    have := listText_len_le (PyData.shownAll ds)
    rw [c] at this
    omega
  · simp only [PyData.shown]
    exact so_list e
theorem Rb.tuple {L : Nat} {ds : List PyData} (h : ∀ d ∈ ds, Rb d L) : Rb (.tuple ds) (ds.length * L + 2 * ds.length + 3) := by
  obtain ⟨a, b, c, e⟩ := rb_all h
  refine ⟨by simp only [PyData.showable, a], ?_, ?_⟩
  · simp only [PyData.shown]
    have := tupleText_len_le (PyData.shownAll ds)
    rw [c] at this
    omega
  · simp only [PyData.shown]
    exact so_tuple e
theorem Rb.shaped {d : PyData} {L : Nat} (h : Rb d L) : SeqAt.shaped (.str d.shown) = true := by
  unfold SeqAt.shaped
  simp only [PyData.canLay0, h.ok, PyData.depth]
  rfl
theorem size_line : sizeLine = 16777216 := by unfold sizeLine; decide
end DL

set_option Elab.async false
set_option linter.all false
set_option maxRecDepth 100000
set_option maxHeartbeats 1000000
/-! KS: what every law's own helpers promise. -/
namespace DL
open PySem L2 Evl PyProof.Rows RZ
def dints (ns : List Int) : PyData := .list (ns.map .int)
/-- a purse whose counter is at most n -/
def PuOk (n : Nat) (ns : List Int) : Prop := ∃ a b c t : Int, ns = [a, b, c, t] ∧ (0 ≤ a ∧ a < 2 ^ 1600) ∧ (0 ≤ b ∧ b < 2147483629) ∧ (0 ≤ c ∧ c ≤ n) ∧ (0 ≤ t ∧ t ≤ 1000)
def whl : PyData → Bool
  | .int _ => true
  | _ => false
def cnt (l : Int) : PyData → Bool
  | .int n => decide (max l 0 ≤ n)
  | _ => false
def tupn (n : Int) : PyData → Bool
  | .tuple ds => decide ((ds.length : Int) = n)
  | _ => false
def m_is_whole : M1 := fun xs Q => ∃ d, xs = [d] ∧ Q (.bool (whl d))
def m_is_count : M1 := fun xs Q => ∃ d l, xs = [d, .int l] ∧ Q (.bool (cnt l d))
def m_is_tuple_of : M1 := fun xs Q => ∃ d n, xs = [d, .int n] ∧ Q (.bool (tupn n d))
def m__law_mixed : M1 := fun xs Q => ∃ a b c : Int, xs = [.int a, .int b, .int c] ∧ (0 ≤ a ∧ a < 2 ^ 1000) ∧ (0 ≤ b ∧ b < 2 ^ 1000) ∧ (0 ≤ c ∧ c < 2 ^ 1000) ∧ ∀ r : Int, 0 ≤ r → r < 2147483587 → Q (.int r)
def m__law_draw : MP := fun qs xs Q => ∃ n ns, ∃ many : Int, qs = ns.map .int ∧ xs = [.int many] ∧ PuOk n ns ∧ n + 100 ≤ 2 ^ 60 ∧ (0 < many ∧ many < 2 ^ 2000) ∧ ∀ (d : Int) ms, 0 ≤ d → d < many → PuOk (n + 100) ms → Q (.int d) (ms.map .int)
def mSame (n : Nat) : M1 := fun xs Q => ∃ d, xs = [d, d] ∧ fitD n d = true ∧ Q (.bool true)
def m__law_same : M1 := mSame 8
def m__law_purse : MS := fun ns xs Q => ∃ t : Int, xs = [.int t] ∧ (0 ≤ t ∧ t ≤ 1000) ∧ ∀ ms, PuOk 0 ms → Q (dints ms)
def m__law_purses : MS := fun ns xs Q => ns.length ≤ 63 ∧ ∃ few : Int, xs = [.int few] ∧ (1 ≤ few ∧ few ≤ 60) ∧ ∀ pss : List (List Int), (∀ ms ∈ pss, PuOk 0 ms) → pss.length ≤ 60 → Q (.list (pss.map dints))
end DL

set_option Elab.async false
set_option linter.all false
set_option maxRecDepth 100000
set_option maxHeartbeats 1000000
/-! K22S: rows of whole numbers: what the defs of k22 promise. -/
namespace K22
open PySem L2 Evl PyProof.Rows RZ DL
def gt (cs : List Int) (i : Nat) : Int := cs.getD i 0
def natD (i : Nat) : PyData := .int (i : Int)
def natsD (l : List Nat) : PyData := .list (l.map natD)
structure RowOk (row : List Int) : Prop where
  nd : row.Nodup
  len : row.length ≤ 200
  rng : ∀ x ∈ row, -(2 ^ 60) < x ∧ x < 2 ^ 60
def WayOk (way : Int) : Prop := way = 1 ∨ way = -1
/-- y goes on behind x -/
def up (way x y : Int) : Bool := decide (0 < (y - x) * way)
def mxN : List Nat → Nat
  | [] => 0
  | a :: l => max a (mxN l)
def sel (way a : Int) (t : List Int) (bs : List Nat) : List Nat := ((t.zip bs).filter fun p => up way a p.1).map (·.2)
/-- at each place: how long a list may go on from here -/
def bh (way : Int) : List Int → List Nat
  | [] => []
  | a :: t => (1 + mxN (sel way a t (bh way t))) :: bh way t
def lv (way : Int) (row : List Int) : List Nat := (bh (-way) row.reverse).reverse
def most (way : Int) (row : List Int) : Nat := mxN (bh way row)
/-- the places that may come next -/
def nxt (way : Int) (row : List Int) (found : List Nat) (left : Nat) : List Nat := (List.range row.length).filter fun at_ => decide ((bh way row).getD at_ 0 = left) && (match found.getLast? with | none => true | some l => decide (l < at_) && up way (gt row l) (gt row at_))
def firstL (way : Int) (row : List Int) : Nat → List Nat
  | 0 => []
  | k + 1 => firstL way row k ++ [(nxt way row (firstL way row k) (most way row - k)).headD 0]
def inR (n : Nat) : PyData → Bool
  | .int i => decide (0 ≤ i ∧ i < (n : Int))
  | _ => false
def numD : PyData → Nat
  | .int i => i.toNat
  | _ => 0
/-- neighbours go on -/
def chB (way : Int) (row : List Int) : List Nat → Bool
  | a :: b :: r => (decide (a < b) && up way (gt row a) (gt row b)) && chB way row (b :: r)
  | _ => true
def goesB (way : Int) (row : List Int) : PyData → Bool
  | .list as => as.all (inR row.length) && chB way row (as.map numD)
  | _ => false
def neB : PyData → Bool
  | .list [] => false
  | _ => true
def itemsD : PyData → List PyData
  | .list ds => ds
  | _ => []
def covB (way : Int) (row : List Int) : PyData → Bool
  | .list ps => decide (ps.length = most way row) && (ps.all (fun p => goesB (-way) row p && neB p) && decide (((ps.flatMap itemsD).map numD).Perm (List.range row.length)))
  | _ => false
mutual
/-- depth below n, no list longer than L, no strings, no dicts -/
def plD (L : Nat) : Nat → PyData → Bool
  | 0, _ => false
  | n + 1, .list ds => decide (ds.length ≤ L) && plAll L n ds
  | n + 1, .tuple ds => decide (ds.length ≤ L) && plAll L n ds
  | _ + 1, .dict _ => false
  | _ + 1, .str _ => false
  | _ + 1, _ => true
def plAll (L : Nat) : Nat → List PyData → Bool
  | _, [] => true
  | n, d :: ds => plD L n d && plAll L n ds
end
def Rw (xs : List PyData) (way : Int) (row : List Int) (r : List PyData) : Prop := xs = dints row :: .int way :: r ∧ RowOk row ∧ WayOk way
def coverD (way : Int) (row : List Int) : PyData := .list ((List.range (most way row)).map fun k => natsD ((List.range row.length).filter fun at_ => decide ((lv way row).getD at_ 0 = k + 1)))
def m_is_row : M1 := fun xs Q => ∃ row, xs = [dints row] ∧ RowOk row ∧ Q (.bool true)
def m_check_row : M1 := fun xs Q => ∃ row, xs = [dints row] ∧ RowOk row ∧ Q .none
def m_check_way : M1 := fun xs Q => ∃ way, xs = [.int way] ∧ WayOk way ∧ Q .none
def m_check_row_way : M1 := fun xs Q => ∃ way row, Rw xs way row [] ∧ Q .none
def m_goes_on : M1 := fun xs Q => ∃ way row, ∃ i j : Nat, Rw xs way row [.int (i : Int), .int (j : Int)] ∧ i < row.length ∧ j < row.length ∧ Q (.bool (up way (gt row i) (gt row j)))
def m_levels_there : M1 := fun xs Q => ∃ way row, Rw xs way row [] ∧ Q (natsD (lv way row))
def m_most_there : M1 := fun xs Q => ∃ way row, Rw xs way row [] ∧ Q (natD (most way row))
def m_most_places : M1 := m_most_there
def m_levels_of : M1 := m_levels_there
def m_tails_there : M1 := fun xs Q => ∃ way row, Rw xs way row [] ∧ Q (natsD (bh way row))
def m_first_longest : M1 := fun xs Q => ∃ way row, Rw xs way row [] ∧ Q (natsD (firstL way row (most way row)))
def m_covering : M1 := fun xs Q => ∃ way row, Rw xs way row [] ∧ Q (coverD way row)
def m_goes : M1 := fun xs Q => ∃ way row d, Rw xs way row [d] ∧ fitD 7 d = true ∧ Q (.bool (goesB way row d))
def m_is_covering : M1 := fun xs Q => ∃ way row d, Rw xs way row [d] ∧ fitD 8 d = true ∧ Q (.bool (covB way row d))
def m__law_one_of : MP := fun qs xs Q => ∃ n ns, ∃ ks : List Int, qs = ns.map .int ∧ xs = [dints ks] ∧ PuOk n ns ∧ n + 100 ≤ 2 ^ 60 ∧ ks ≠ [] ∧ ks.length ≤ 1000 ∧ ∀ k ms, k ∈ ks → PuOk (n + 100) ms → Q (.int k) (ms.map .int)
def m__law_shuffled : MP := fun qs xs Q => ∃ n ns, ∃ ks : List PyData, qs = ns.map .int ∧ xs = [.list ks] ∧ PuOk n ns ∧ n + 100000 ≤ 2 ^ 60 ∧ ks.length ≤ 900 ∧ ∀ js ms, js.Perm ks → PuOk (n + 90000) ms → Q (.list js) (ms.map .int)
def mBend (n : Nat) : MP := fun qs xs Q => ∃ k ns d, qs = ns.map .int ∧ xs = [d] ∧ plD 50000 n d = true ∧ PuOk k ns ∧ k + 1000 * n ≤ 2 ^ 60 ∧ ∀ e ms, plD 50001 n e = true → PuOk (k + 1000 * n) ms → Q e (ms.map .int)
def m__law_bend : MP := mBend 5
def m__law_row : MP := fun qs xs Q => ∃ n ns, qs = ns.map .int ∧ xs = [.int 40] ∧ PuOk n ns ∧ n + 1000000 ≤ 2 ^ 60 ∧ ∀ row ms, RowOk row → PuOk (n + 900000) ms → Q (dints row) (ms.map .int)
def m__law_levels : M1 := m_levels_there
def m__law_goes_on : M1 := fun xs Q => ∃ way row, ∃ i j : Nat, Rw xs way row [.int (i : Int), .int (j : Int)] ∧ i < row.length ∧ j < row.length ∧ Q (.bool (decide (i < j) && up way (gt row i) (gt row j)))
def m__law_first : M1 := m_first_longest
def m__law_is_covering : M1 := fun xs Q => ∃ way row d, Rw xs way row [natD (most way row), d] ∧ fitD 8 d = true ∧ Q (.bool (covB way row d))
def m__law_own_covering : MP := fun qs xs Q => ∃ n ns way row, qs = ns.map .int ∧ Rw xs way row [] ∧ PuOk n ns ∧ n + 100000 ≤ 2 ^ 60 ∧ ∀ d ms, covB way row d = true → plD 1000 4 d = true → PuOk (n + 90000) ms → Q d (ms.map .int)
def m__law_is_right : MP := fun qs xs Q => ∃ n ns way row, qs = ns.map .int ∧ Rw xs way row [] ∧ PuOk n ns ∧ n + 1000000 ≤ 2 ^ 60 ∧ ∀ ms, PuOk (n + 900000) ms → Q (.bool true) (ms.map .int)
end K22

set_option Elab.async false
set_option linter.all false
set_option maxRecDepth 100000
set_option maxHeartbeats 1000000
namespace K22
open PySem L2 Evl PyProof.Rows RZ DL
abbrev nm_is_whole : List Str := ["value"]
abbrev ps_is_whole : List Str := ["value"]
abbrev nm_is_count : List Str := ["value", "least"]
abbrev ps_is_count : List Str := ["value", "least"]
abbrev nm_is_row : List Str := ["value", "at", "number"]
abbrev ps_is_row : List Str := ["value"]
abbrev nm_check_row : List Str := ["row"]
abbrev ps_check_row : List Str := ["row"]
abbrev nm_check_way : List Str := ["way"]
abbrev ps_check_way : List Str := ["way"]
abbrev nm_check_row_way : List Str := ["row", "way"]
abbrev ps_check_row_way : List Str := ["row", "way"]
abbrev nm_goes_on : List Str := ["row", "way", "one", "late"]
abbrev ps_goes_on : List Str := ["row", "way", "one", "late"]
abbrev nm_levels_there : List Str := ["row", "way", "found", "late", "one"]
abbrev ps_levels_there : List Str := ["row", "way"]
abbrev nm_most_there : List Str := ["row", "way"]
abbrev ps_most_there : List Str := ["row", "way"]
abbrev nm_most_places : List Str := ["row", "way"]
abbrev ps_most_places : List Str := ["row", "way"]
abbrev nm_levels_of : List Str := ["row", "way"]
abbrev ps_levels_of : List Str := ["row", "way"]
abbrev nm_tails_there : List Str := ["row", "way"]
abbrev ps_tails_there : List Str := ["row", "way"]
abbrev nm_first_longest : List Str := ["row", "way", "tails", "found", "length", "later", "at"]
abbrev ps_first_longest : List Str := ["row", "way"]
abbrev nm_covering : List Str := ["row", "way", "levels", "level", "at"]
abbrev ps_covering : List Str := ["row", "way"]
abbrev nm_goes : List Str := ["row", "way", "places", "one", "late", "at"]
abbrev ps_goes : List Str := ["row", "way", "places"]
abbrev nm_is_covering : List Str := ["row", "way", "value", "places", "at"]
abbrev ps_is_covering : List Str := ["row", "way", "value"]
abbrev nm__law_purse : List Str := ["script", "at", "seed"]
abbrev ps__law_purse : List Str := ["script", "at"]
abbrev nm__law_mixed : List Str := ["seed", "spin", "at", "mixed"]
abbrev ps__law_mixed : List Str := ["seed", "spin", "at"]
abbrev nm__law_draw : List Str := ["purse", "many", "drawn", "found", "piece"]
abbrev ps__law_draw : List Str := ["purse", "many"]
abbrev nm__law_one_of : List Str := ["purse", "some"]
abbrev ps__law_one_of : List Str := ["purse", "some"]
abbrev nm__law_purses : List Str := ["script", "few", "at"]
abbrev ps__law_purses : List Str := ["script", "few"]
abbrev nm__law_shuffled : List Str := ["purse", "some", "found", "item"]
abbrev ps__law_shuffled : List Str := ["purse", "some"]
abbrev nm__law_same : List Str := ["told", "due", "is_like", "one", "other"]
abbrev ps__law_same : List Str := ["told", "due"]
abbrev nm__law_chain : List Str := ["lists", "found", "late"]
abbrev ps__law_chain : List Str := ["lists"]
abbrev nm__law_bend : List Str := ["purse", "thing", "way", "at", "late"]
abbrev ps__law_bend : List Str := ["purse", "thing"]
abbrev nm__law_row : List Str := ["purse", "most", "many", "way", "wide", "numbers", "low", "spin", "some", "number", "at", "by", "found"]
abbrev ps__law_row : List Str := ["purse", "most"]
abbrev nm__law_levels : List Str := ["row", "way", "tails", "found", "number", "here", "at", "tail"]
abbrev ps__law_levels : List Str := ["row", "way"]
abbrev nm__law_goes_on : List Str := ["row", "way", "one", "late"]
abbrev ps__law_goes_on : List Str := ["row", "way", "one", "late"]
abbrev nm__law_first : List Str := ["row", "way", "behind", "at", "found", "left", "spin", "some", "late"]
abbrev ps__law_first : List Str := ["row", "way"]
abbrev nm__law_is_covering : List Str := ["row", "way", "most", "value", "met", "places", "at"]
abbrev ps__law_is_covering : List Str := ["row", "way", "most", "value"]
abbrev nm__law_own_covering : List Str := ["purse", "row", "way", "ends", "found", "at", "some", "best", "spot", "end"]
abbrev ps__law_own_covering : List Str := ["purse", "row", "way"]
abbrev nm__law_is_right : List Str := ["purse", "row", "way", "levels", "first", "noted", "most", "told", "turned", "cover", "own", "values", "value", "number", "spin", "at"]
abbrev ps__law_is_right : List Str := ["purse", "row", "way"]
abbrev nm_law : List Str := ["script", "purse", "row", "way"]
abbrev ps_law : List Str := ["script"]
def bd_is_whole : DS :=
  (dRet (dAnd (dIs1 "int" (dRd 0)) (dNot (dIs1 "bool" (dRd 0)))))
def bd_goes_on : DS :=
  (dRet (dBin fGt (dBin fMul (dBin fSub (dBinV fIx 0 (dRd 3)) (dBinV fIx 0 (dRd 2))) (dRd 1)) (dC (.int 0))))
def bd__law_purse (K : PySem.W.Frag) : DS :=
  (dSeq (dSet 2 (dUn fSum (asD (dSlS K 0 (dPart (dVar 1)) (dPart (dBinV fAdd 1 (dC (.int 1))))))))
    (dRet (asD (dLst (daCons (dBin fMod (dUn fInt (dBin fMax2 (dBinV fSub 2 (dBin fPow (dC (.int 10)) (dC (.int 18)))) (dC (.int 0)))) (dBin fPow (dBin fPow (dC (.int 10)) (dC (.int 60))) (dC (.int 8)))) (daCons (dBin fMod (dUn fInt (dRd 2)) (dC (.int 2147483629))) (daCons (dC (.int 0)) (daCons (dVar 1) daNil))))))))
def bd__law_mixed : DS :=
  (dSeq (dSet 3 (dBin fAdd (dBinV fMul 0 (dC (.int 69069))) (dBin fMul (dBin fMul (dC (.int 104729)) (dRd 1)) (dRd 1))))
    (dSeq (dSet 3 (dBin fMod (dUn fInt (dBin fAdd (dBinV fAdd 3 (dBin fMul (dC (.int 7919)) (dRd 2))) (dRd 1))) (dC (.int 2147483647))))
    (dSeq (dSet 3 (dBin fMod (dUn fInt (dBin fAdd (dBinV fMul 3 (dRd 3)) (dC (.int 40503)))) (dC (.int 2147483629))))
    (dRet (dBin fMod (dUn fInt (dBinV fMul 3 (dC (.int 48271)))) (dC (.int 2147483587)))))))
def bd__law_levels : DS :=
  (dSeq (dParNN 2 3 (dLst daNil) (dLst daNil))
    (dSeq (dFor (dSeqVar 0) (dgName 4)
    (dSeq (dSet 5 (dBinV fMul 4 (dRd 1)))
    (dSeq (dSet 6 (dUn fLen (asD (dLcO 2 false (dgName 7) (dB (dBinV fLt 7 (dRd 5))) (dVar 7) [7]))))
    (dSeq (dIfS (dB (dBinV fEq 6 (dUn fLen (dRd 2))))
    (dApp 2 (dVar 5))
    (dSetIx 2 (dVar 5) (dVar 6)))
    (dApp 3 (dBinV fAdd 6 (dC (.int 1))))))))
    (dRet (dVar 3))))
def bd__law_goes_on : DS :=
  (dRet (dAnd (dBinV fLt 2 (dRd 3)) (dBin fGt (dBin fMul (dBin fSub (dBinV fIx 0 (dRd 3)) (dBinV fIx 0 (dRd 2))) (dRd 1)) (dC (.int 0)))))
def bd_is_count : DS :=
  (dRet (dAnd (dCall m_is_whole [] (daCons (dVar 0) daNil)) (dBinV fGe 0 (dBin fMax2 (dVar 1) (dC (.int 0))))))
def bd_is_row : DS :=
  (dSeq (dIfS (dTOr (dTNot (dB (dIs1 "list" (dRd 0)))) (dTNot (dB (dUn fAll (asD (dLc (dSeqVar 0) (dgName 2) dYes (dCall m_is_whole [] (daCons (dVar 2) daNil)) [2]))))))
    (dRet (dC (.bool false)))
    dNext)
    (dRet (dUn fAll (asD (dLc (dEnum (dVar 0)) (dgTup (dgCons (dgName 1) (dgCons (dgName 2) dgNil))) dYes (dBinV (fIn true) 2 (asD (dSlV 0 dNoPart (dPart (dVar 1))))) [1, 2])))))
def bd_check_way : DS :=
  (dIfS (dTOr (dTNot (dB (dCall m_is_whole [] (daCons (dVar 0) daNil)))) (dB (dBinV (fIn true) 0 (dTup (daCons (dC (.int 1)) (daCons (dUn fNeg (dC (.int 1))) daNil))))))
    dNever
    dNext)
def bd_levels_there : DS :=
  (dSeq (dSetN 2 (dLst daNil))
    (dSeq (dFor (dRange1 (dUn fLen (dRd 0))) (dgName 3)
    (dApp 2 (dBin fAdd (dC (.int 1)) (dUn fMax1 (dBin fAdd (asD (dLst (daCons (dC (.int 0)) daNil))) (asD (dLc (dRange1 (dVar 3)) (dgName 4) (dB (dCall m_goes_on [] (daCons (dVar 0) (daCons (dVar 1) (daCons (dVar 4) (daCons (dVar 3) daNil)))))) (dBinV fIx 2 (dRd 4)) [4])))))))
    (dRet (dVar 2))))
def bd__law_draw : DS :=
  (dSeq (dIfS (dB (dBin fGt (dBinV fIx 0 (dC (.int 0))) (dC (.int 0))))
    (dSeq (dSet 2 (dBin fMod (dUn fInt (dBinV fIx 0 (dC (.int 0)))) (dRd 1)))
    (dSeq (dSetIx 0 (dBin fDiv (dBinV fIx 0 (dC (.int 0))) (dRd 1)) (dC (.int 0)))
    (dRet (dVar 2))))
    dNext)
    (dSeq (dSet 3 (dC (.int 0)))
    (dSeq (dFor (dRange1 (dBin fAdd (dC (.int 1)) (dBin fDiv (dBits (dVar 1)) (dC (.int 28))))) (dgName 4)
    (dSeq (dSetIx 0 (dBin fAdd (dBinV fIx 0 (dC (.int 2))) (dC (.int 1))) (dC (.int 2)))
    (dSet 3 (dBin fAdd (dBinV fMul 3 (dC (.int 2147483587))) (dCall m__law_mixed [] (daCons (dBinV fIx 0 (dC (.int 1))) (daCons (dBinV fIx 0 (dC (.int 2))) (daCons (dBinV fIx 0 (dC (.int 3))) daNil))))))))
    (dRet (dBin fMod (dUn fInt (dRd 3)) (dRd 1))))))
def bd__law_purses (K : PySem.W.Frag) : DS :=
  (dRet (asD (dLc (dRange1 (dBin fMax2 (dC (.int 1)) (dBin fMin2 (dVar 1) (dLenS K 0)))) (dgName 2) dYes (dCallS K m__law_purse 0 [] (daCons (dVar 2) daNil)) [2])))
def bd__law_first : DS :=
  (dSeq (dSetN 2 (dRepN (asD (dLst (daCons (dC (.int 0)) daNil))) (dUn fLen (dRd 0))))
    (dSeq (dFor (dRange3 (dBin fSub (dUn fLen (dRd 0)) (dC (.int 1))) (dBin fSub (dC (.int 0)) (dC (.int 1))) (dBin fSub (dC (.int 0)) (dC (.int 1)))) (dgName 3)
    (dSetIx 2 (dBin fAdd (dC (.int 1)) (dUn fMax1 (dBin fAdd (asD (dLst (daCons (dC (.int 0)) daNil))) (asD (dLc (dRange2 (dBinV fAdd 3 (dC (.int 1))) (dUn fLen (dRd 0))) (dgName 8) (dB (dCall m__law_goes_on [] (daCons (dVar 0) (daCons (dVar 1) (daCons (dVar 3) (daCons (dVar 8) daNil)))))) (dBinV fIx 2 (dRd 8)) [8]))))) (dVar 3)))
    (dSeq (dParN 4 5 (dLst daNil) (dUn fMax1 (dBin fAdd (asD (dLst (daCons (dC (.int 0)) daNil))) (dRd 2))))
    (dSeq (dFor (dRange1 (dVar 5)) (dgName 6)
    (dSeq (dSet 7 (asD (dLc (dRange1 (dUn fLen (dRd 0))) (dgName 3) (dTAnd (dB (dBin fEq (dBinV fIx 2 (dRd 3)) (dBinV fSub 5 (dRd 6)))) (dTOr (dB (dBinV fEq 4 (asD (dLst daNil)))) (dB (dCall m__law_goes_on [] (daCons (dVar 0) (daCons (dVar 1) (daCons (dBinV fIx 4 (dBin fSub (dUn fLen (dRd 4)) (dC (.int 1)))) (daCons (dVar 3) daNil)))))))) (dVar 3) [3])))
    (dApp 4 (dUn fMin1 (dRd 7)))))
    (dRet (dVar 4))))))
def bd__law_is_covering : DS :=
  (dSeq (dIfS (dTOr (dTNot (dB (dIs1 "list" (dRd 3)))) (dTOr (dB (dBin fNe (dUn fLen (dRd 3)) (dRd 2))) (dTNot (dB (dUn fAll (asD (dLc (dSeqVar 3) (dgName 5) dYes (dAnd (dIs1 "list" (dRd 5)) (dBinV fNe 5 (asD (dLst daNil)))) [5])))))))
    (dRet (dC (.bool false)))
    dNext)
    (dSeq (dSet 4 (asD (dLst daNil)))
    (dSeq (dFor (dSeqVar 3) (dgName 5)
    (dSeq (dIfS (dTNot (dB (dUn fAll (asD (dLc (dSeqVar 5) (dgName 6) dYes (dAnd (dIs1 "int" (dRd 6)) (dAnd (dNot (dIs1 "bool" (dRd 6))) (dChain fLe fLt (dC (.int 0)) (dVar 6) (dUn fLen (dRd 0))))) [6])))))
    (dRet (dC (.bool false)))
    dNext)
    (dSeq (dIfS (dTNot (dB (dUn fAll (asD (dLc (dRange2 (dC (.int 1)) (dUn fLen (dRd 5))) (dgName 6) dYes (dCall m__law_goes_on [] (daCons (dVar 0) (daCons (dBin fSub (dC (.int 0)) (dRd 1)) (daCons (dBinV fIx 5 (dBinV fSub 6 (dC (.int 1)))) (daCons (dBinV fIx 5 (dRd 6)) daNil))))) [6])))))
    (dRet (dC (.bool false)))
    dNext)
    (dSet 4 (dBinV fAdd 4 (dRd 5))))))
    (dRet (dBin fEq (dUn fSortI (dRd 4)) (asD (dLRg1 (dUn fLen (dRd 0)))))))))
def bd_check_row : DS :=
  (dIfS (dTNot (dB (dCall m_is_row [] (daCons (dVar 0) daNil))))
    dNever
    dNext)
def bd_most_there : DS :=
  (dRet (dUn fMax1 (dBin fAdd (asD (dLst (daCons (dC (.int 0)) daNil))) (dCall m_levels_there [] (daCons (dVar 0) (daCons (dVar 1) daNil))))))
def bd_tails_there : DS :=
  (dRet (asD (dRev (dCall m_levels_there [] (daCons (asD (dRevV 0)) (daCons (dBin fSub (dC (.int 0)) (dRd 1)) daNil))))))
def bd_goes : DS :=
  (dSeq (dIfS (dTOr (dTNot (dB (dIs1 "list" (dRd 2)))) (dTNot (dB (dUn fAll (asD (dLc (dSeqVar 2) (dgName 5) dYes (dAnd (dCall m_is_count [.int 0] (daCons (dVar 5) daNil)) (dBinV fLt 5 (dUn fLen (dRd 0)))) [5]))))))
    (dRet (dC (.bool false)))
    dNext)
    (dRet (dUn fAll (asD (dLc (dZip (dVar 2) (asD (dSlV 2 (dPart (dC (.int 1))) dNoPart))) (dgTup (dgCons (dgName 3) (dgCons (dgName 4) dgNil))) dYes (dAnd (dBinV fLt 3 (dRd 4)) (dCall m_goes_on [] (daCons (dVar 0) (daCons (dVar 1) (daCons (dVar 3) (daCons (dVar 4) daNil)))))) [3, 4])))))
def bd__law_one_of : DS :=
  (dRet (dBinV fIx 1 (dCallP m__law_draw 0 [] (daCons (dUn fLen (dRd 1)) daNil))))
def bd__law_shuffled : DS :=
  (dSeq (dSetN 2 (dLst daNil))
    (dSeq (dFor (dSeqVar 1) (dgName 3)
    (dIns 2 (dCallP m__law_draw 0 [] (daCons (dBin fAdd (dUn fLen (dRd 2)) (dC (.int 1))) daNil)) (dVar 3)))
    (dRet (dVar 2))))
def bd_check_row_way : DS :=
  (dSeq (dDrop (dCall m_check_row [] (daCons (dVar 0) daNil)))
    (dDrop (dCall m_check_way [] (daCons (dVar 1) daNil))))
def bd__law_row : DS :=
  (dSeq (dPar 2 3 (dCallP m__law_draw 0 [] (daCons (dBinV fAdd 1 (dC (.int 1))) daNil)) (dCallP m__law_draw 0 [] (daCons (dC (.int 5)) daNil)))
    (dSeq (dSet 4 (dCallP m__law_one_of 0 [] (daCons (asD (dLst (daCons (dC (.int 60)) (daCons (dBin fPow (dC (.int 10)) (dC (.int 4))) (daCons (dBin fPow (dC (.int 10)) (dC (.int 12))) daNil))))) daNil)))
    (dSeq (dParN 5 6 (dLst daNil) (dBin fAdd (dBin fSub (dCallP m__law_draw 0 [] (daCons (dBin fSub (dBin fMul (dC (.int 2)) (dRd 4)) (dC (.int 100))) daNil)) (dRd 4)) (dC (.int 50))))
    (dSeq (dFor (dRange1 (dVar 2)) (dgName 7)
    (dApp 5 (dIf (dB (dBinV fEq 3 (dC (.int 0)))) (dBinV fAdd 6 (dRd 7)) (dIf (dB (dBinV fEq 4 (dC (.int 60)))) (dBin fSub (dBinV fMul 7 (dC (.int 7))) (dC (.int 130))) (dBin fAdd (dBin fSub (dCallP m__law_draw 0 [] (daCons (dBin fSub (dBin fMul (dC (.int 2)) (dRd 4)) (dC (.int 1))) daNil)) (dRd 4)) (dC (.int 1)))))))
    (dSeq (dSetN 8 (dLst daNil))
    (dSeq (dFor (dListOf (dSortSet (dVar 5))) (dgName 9)
    (dApp 8 (dVar 9)))
    (dSeq (dIfS (dB (dBinV fLt 3 (dC (.int 3))))
    (dRet (dCallP m__law_shuffled 0 [] (daCons (dVar 8) daNil)))
    dNext)
    (dSeq (dIfS (dB (dBinV fEq 3 (dC (.int 3))))
    (dSeq (dFor (dRange1 (dCallP m__law_draw 0 [] (daCons (dC (.int 6)) daNil))) (dgName 7)
    (dIfS (dB (dBin fGt (dUn fLen (dRd 8)) (dC (.int 1))))
    (dSeq (dSet 10 (dCallP m__law_draw 0 [] (daCons (dBin fSub (dUn fLen (dRd 8)) (dC (.int 1))) daNil)))
    (dSet 8 (dBin fAdd (dBin fAdd (asD (dSlV 8 dNoPart (dPart (dVar 10)))) (asD (dLst (daCons (dBinV fIx 8 (dBinV fAdd 10 (dC (.int 1)))) (daCons (dBinV fIx 8 (dRd 10)) daNil))))) (asD (dSlV 8 (dPart (dBinV fAdd 10 (dC (.int 2)))) dNoPart)))))
    dNext))
    (dRet (dIf (dB (dBin fEq (dCallP m__law_draw 0 [] (daCons (dC (.int 2)) daNil)) (dC (.int 0)))) (dVar 8) (asD (dRevV 8)))))
    dNext)
    (dSeq (dPar 11 12 (dBin fAdd (dC (.int 1)) (dCallP m__law_draw 0 [] (daCons (dC (.int 7)) daNil))) (asD (dLst daNil)))
    (dSeq (dFor (dRange1 (dVar 11)) (dgName 10)
    (dSet 12 (dBinV fAdd 12 (asD (dRev (asD (dPick (dVar 8) (dPart (dVar 10)) dNoPart (dPart (dVar 11)))))))))
    (dRet (dVar 12))))))))))))
def bd__law_own_covering : DS :=
  (dSeq (dParNN 3 4 (dLst daNil) (dLst daNil))
    (dSeq (dFor (dRange1 (dUn fLen (dRd 1))) (dgName 5)
    (dSeq (dSet 6 (asD (dLcO 3 true (dgTup (dgCons (dgName 8) (dgCons (dgName 9) dgNil))) (dB (dBin fLt (dBin fMul (dBin fSub (dBinV fIx 1 (dRd 5)) (dBinV fIx 1 (dRd 9))) (dRd 2)) (dC (.int 0)))) (dVar 8) [8, 9])))
    (dIfS (dB (dBinV fEq 6 (asD (dLst daNil))))
    (dParNN 3 4 (dCatV 3 (asD (dLst (daCons (dVar 5) daNil)))) (dCatV 4 (asD (dLst (daCons (asD (dLst (daCons (dVar 5) daNil))) daNil)))))
    (dSeq (dSet 7 (dBin fIx (dUn fMinD (asD (dLc (dSeqVar 6) (dgName 8) dYes (dTup (daCons (dUn fAbs (dBin fSub (dBinV fIx 1 (dBinV fIx 3 (dRd 8))) (dBinV fIx 1 (dRd 5)))) (daCons (dVar 8) daNil))) [8]))) (dC (.int 1))))
    (dSeq (dSetIx 3 (dVar 5) (dVar 7))
    (dSetIx 4 (dBin fAdd (dBinV fIx 4 (dRd 7)) (asD (dLst (daCons (dVar 5) daNil)))) (dVar 7)))))))
    (dRet (dCallP m__law_shuffled 0 [] (daCons (dVar 4) daNil)))))
def bd_most_places : DS :=
  (dSeq (dDrop (dCall m_check_row_way [] (daCons (dVar 0) (daCons (dVar 1) daNil))))
    (dRet (dCall m_most_there [] (daCons (dVar 0) (daCons (dVar 1) daNil)))))
def bd_levels_of : DS :=
  (dSeq (dDrop (dCall m_check_row_way [] (daCons (dVar 0) (daCons (dVar 1) daNil))))
    (dRet (dCall m_levels_there [] (daCons (dVar 0) (daCons (dVar 1) daNil)))))
def bd_first_longest : DS :=
  (dSeq (dDrop (dCall m_check_row_way [] (daCons (dVar 0) (daCons (dVar 1) daNil))))
    (dSeq (dParVN 2 3 (dCall m_tails_there [] (daCons (dVar 0) (daCons (dVar 1) daNil))) (dLst daNil))
    (dSeq (dFor (dRange3 (dCall m_most_there [] (daCons (dVar 0) (daCons (dVar 1) daNil))) (dC (.int 0)) (dUn fNeg (dC (.int 1)))) (dgName 4)
    (dSeq (dSet 5 (asD (dLc (dRange1 (dUn fLen (dRd 0))) (dgName 6) (dTOr (dB (dBinV fEq 3 (asD (dLst daNil)))) (dTAnd (dB (dBinV fGt 6 (dBinV fIx 3 (dUn fNeg (dC (.int 1)))))) (dB (dCall m_goes_on [] (daCons (dVar 0) (daCons (dVar 1) (daCons (dBinV fIx 3 (dUn fNeg (dC (.int 1)))) (daCons (dVar 6) daNil)))))))) (dVar 6) [6])))
    (dApp 3 (dBin fIx (asD (dLc (dSeqVar 5) (dgName 6) (dB (dBin fEq (dBinV fIx 2 (dRd 6)) (dRd 4))) (dVar 6) [6])) (dC (.int 0))))))
    (dRet (dVar 3)))))
def bd_covering : DS :=
  (dSeq (dDrop (dCall m_check_row_way [] (daCons (dVar 0) (daCons (dVar 1) daNil))))
    (dSeq (dSet 2 (dCall m_levels_there [] (daCons (dVar 0) (daCons (dVar 1) daNil))))
    (dRet (asD (dLc (dRange2 (dC (.int 1)) (dBin fAdd (dCall m_most_there [] (daCons (dVar 0) (daCons (dVar 1) daNil))) (dC (.int 1)))) (dgName 3) dYes (asD (dLc (dRange1 (dUn fLen (dRd 0))) (dgName 4) (dB (dBin fEq (dBinV fIx 2 (dRd 4)) (dRd 3))) (dVar 4) [4])) [3])))))
def bd_is_covering : DS :=
  (dSeq (dDrop (dCall m_check_row_way [] (daCons (dVar 0) (daCons (dVar 1) daNil))))
    (dSeq (dIfS (dTOr (dTNot (dB (dIs1 "list" (dRd 2)))) (dB (dBin fNe (dUn fLen (dRd 2)) (dCall m_most_there [] (daCons (dVar 0) (daCons (dVar 1) daNil))))))
    (dRet (dC (.bool false)))
    dNext)
    (dSeq (dIfS (dTNot (dB (dUn fAll (asD (dLc (dSeqVar 2) (dgName 3) dYes (dAnd (dCall m_goes [] (daCons (dVar 0) (daCons (dBin fSub (dC (.int 0)) (dRd 1)) (daCons (dVar 3) daNil)))) (dBinV fNe 3 (asD (dLst daNil)))) [3])))))
    (dRet (dC (.bool false)))
    dNext)
    (dRet (dBin fEq (dUn fSortI (asD (dLc2 (dSeqVar 2) (dgName 3) dYes (dSeqVar 3) (dgName 4) dYes (dVar 4) [3, 4] [4]))) (asD (dLRg1 (dUn fLen (dRd 0)))))))))
def bd__law_same (m : M1) : DS :=
  (dSeq (dIfS (dB (dIsTs ["list", "tuple"] (dRd 1)))
    (dSeq (dSet 2 (dAnd (dBin fEq (dIs1 "list" (dRd 0)) (dIs1 "list" (dRd 1))) (dBin fEq (dIs1 "tuple" (dRd 0)) (dIs1 "tuple" (dRd 1)))))
    (dRet (dAnd (dVar 2) (dAnd (dBin fEq (dUn fLen (dRd 0)) (dUn fLen (dRd 1))) (dUn fAll (asD (dLc (dZip (dVar 0) (dVar 1)) (dgTup (dgCons (dgName 3) (dgCons (dgName 4) dgNil))) dYes (dCall m [] (daCons (dVar 3) (daCons (dVar 4) daNil))) [3, 4])))))))
    dNext)
    (dSeq (dSet 2 (dAnd (dNot (dIsTs ["list", "tuple", "dict"] (dRd 0))) (dAnd (dBin fEq (dIs1 "int" (dRd 0)) (dIs1 "int" (dRd 1))) (dBin fEq (dIs1 "str" (dRd 0)) (dIs1 "str" (dRd 1))))))
    (dRet (dAnd (dVar 2) (dAnd (dBin fEq (dBinV fIs 0 (dC .none)) (dBinV fIs 1 (dC .none))) (dAnd (dBin fEq (dIs1 "bool" (dRd 0)) (dIs1 "bool" (dRd 1))) (dBinV fEq 0 (dRd 1))))))))
def bd__law_bend (m : MP) : DS :=
  (dSeq (dSet 2 (dCallP m__law_draw 0 [] (daCons (dC (.int 4)) daNil)))
    (dSeq (dIfS (dTAnd (dB (dIsTs ["list", "tuple"] (dRd 1))) (dTAnd (dB (dBin fGt (dUn fLen (dRd 1)) (dC (.int 0)))) (dB (dBin fGt (dCallP m__law_draw 0 [] (daCons (dC (.int 7)) daNil)) (dC (.int 0))))))
    (dSeq (dSet 3 (dCallP m__law_draw 0 [] (daCons (dUn fLen (dRd 1)) daNil)))
    (dSeq (dSet 4 (dBin fAddA (dBin fAddA (dUn fList (dSlA 1 dNoPart (dPart (dVar 3)))) (asD (dLst (daCons (dCallP m 0 [] (daCons (dBinV fIx 1 (dRd 3)) daNil)) daNil)))) (dUn fList (dSlA 1 (dPart (dBinV fAddA 3 (dC (.int 1)))) dNoPart))))
    (dRet (dIf (dB (dIs1 "list" (dRd 1))) (dVar 4) (dUn fTuple (dRd 4))))))
    dNext)
    (dSeq (dIfS (dB (dIs1 "list" (dRd 1)))
    (dRet (dBin fIx (asD (dLst (daCons (dUn fTuple (dRd 1)) (daCons (dSlA 1 (dPart (dC (.int 1))) dNoPart) (daCons (dBinV fAddA 1 (dSlA 1 (dPart (dBin fSub (dC (.int 0)) (dC (.int 1)))) dNoPart)) (daCons (dSlA 1 dNoPart (dPart (dBin fSub (dC (.int 0)) (dC (.int 1))))) daNil)))))) (dRd 2)))
    dNext)
    (dSeq (dIfS (dB (dIs1 "tuple" (dRd 1)))
    (dRet (dBin fIx (asD (dLst (daCons (dUn fList (dRd 1)) (daCons (dSlA 1 dNoPart (dPart (dBin fSub (dC (.int 0)) (dC (.int 1))))) (daCons (dBinV fAddA 1 (dSlA 1 (dPart (dBin fSub (dC (.int 0)) (dC (.int 1)))) dNoPart)) (daCons (dC .none) daNil)))))) (dRd 2)))
    dNext)
    (dSeq (dIfS (dB (dIs1 "bool" (dRd 1)))
    (dRet (dBin fIx (asD (dLst (daCons (dNot (dVar 1)) (daCons (dUn fInt (dRd 1)) (daCons (dC .none) (daCons (dNot (dVar 1)) daNil)))))) (dRd 2)))
    dNext)
    (dSeq (dIfS (dB (dIs1 "int" (dRd 1)))
    (dRet (dBin fIx (asD (dLst (daCons (dBinV fAddA 1 (dC (.int 1))) (daCons (dBinV fSub 1 (dC (.int 1))) (daCons (dBinV fAddA 1 (dC (.int 1))) (daCons (dBinV fEq 1 (dC (.int 1))) daNil)))))) (dRd 2)))
    dNext)
    (dRet (dIf (dB (dIs1 "str" (dRd 1))) (dBin fIx (asD (dLst (daCons (dBinV fAddA 1 (dC (.str (PySem.Str.ofString "x")))) (daCons (dC .none) (daCons (dC (.str (PySem.Str.ofString "x"))) (daCons (dC (.int 0)) daNil)))))) (dRd 2)) (dBin fIx (asD (dLst (daCons (dC (.int 0)) (daCons (dTup daNil) (daCons (asD (dLst daNil)) (daCons (dC (.bool false)) daNil)))))) (dRd 2))))))))))
def bd__law_is_right : DS :=
  (dSeq (dPar3 3 4 5 (dCall m__law_levels [] (daCons (dVar 1) (daCons (dVar 2) daNil))) (dCall m__law_first [] (daCons (dVar 1) (daCons (dVar 2) daNil))) (dUn fReprT (dRd 1)))
    (dSeq (dSet 6 (dUn fLen (dRd 4)))
    (dSeq (dSet 7 (asD (dLst (daCons (dCall m_most_places [] (daCons (dVar 1) (daCons (dVar 2) daNil))) (daCons (dCallK m_levels_of 1 1 [0, 1] (daCons (dVar 1) daNil) (daCons (dVar 2) daNil)) (daCons (dCall m_first_longest [] (daCons (dVar 1) (daCons (dVar 2) daNil))) daNil))))))
    (dSeq (dIfS (dTOr (dTNot (dB (dCall m__law_same [] (daCons (dVar 7) (daCons (asD (dLst (daCons (dVar 6) (daCons (dVar 3) (daCons (dVar 4) daNil))))) daNil))))) (dB (dBinV fNe 6 (dUn fMax1 (dBin fAdd (asD (dLst (daCons (dC (.int 0)) daNil))) (dRd 3))))))
    (dRet (dC (.bool false)))
    dNext)
    (dSeq (dSet 8 (asD (dLc (dSeqVar 1) (dgName 13) dYes (dBin fSub (dC (.int 0)) (dRd 13)) [13])))
    (dSeq (dIfS (dTNot (dB (dCall m__law_same [] (daCons (asD (dLst (daCons (dCall m_levels_of [] (daCons (dVar 8) (daCons (dBin fSub (dC (.int 0)) (dRd 2)) daNil))) (daCons (dCall m_most_places [] (daCons (asD (dRevV 1)) (daCons (dBin fSub (dC (.int 0)) (dRd 2)) daNil))) daNil)))) (daCons (asD (dLst (daCons (dVar 3) (daCons (dVar 6) daNil)))) daNil)))))
    (dRet (dC (.bool false)))
    dNext)
    (dSeq (dUnp (dTup (daCons (dCall m_covering [] (daCons (dVar 1) (daCons (dVar 2) daNil))) (daCons (dCallP m__law_own_covering 0 [] (daCons (dVar 1) (daCons (dVar 2) daNil))) daNil))) (dgTup (dgCons (dgName 9) (dgCons (dgName 10) dgNil))))
    (dSeq (dIfS (dTOr (dTNot (dB (dCall m__law_is_covering [] (daCons (dVar 1) (daCons (dVar 2) (daCons (dVar 6) (daCons (dVar 9) daNil))))))) (dTNot (dB (dCall m__law_is_covering [] (daCons (dVar 1) (daCons (dVar 2) (daCons (dVar 6) (daCons (dVar 10) daNil))))))))
    (dRet (dC (.bool false)))
    dNext)
    (dSeq (dSet 11 (dBin fAdd (asD (dLst (daCons (dVar 9) (daCons (dVar 10) (daCons (asD (dRevV 10)) (daCons (asD (dLc (dRange1 (dUn fLen (dRd 1))) (dgName 15) dYes (asD (dLst (daCons (dVar 15) daNil))) [15])) (daCons (asD (dLst (daCons (asD (dLRg1 (dUn fLen (dRd 1)))) daNil))) (daCons (asD (dLst daNil)) (daCons (dC .none) daNil))))))))) (asD (dLc (dRange1 (dC (.int 10))) (dgName 14) dYes (dCallP m__law_bend 0 [] (daCons (dVar 10) daNil)) [14]))))
    (dSeq (dFor (dSeqVar 11) (dgName 12)
    (dIfS (dTNot (dB (dCall m__law_same [] (daCons (dCallK m_is_covering 2 1 [0, 1, 2] (daCons (dVar 1) (daCons (dVar 2) daNil)) (daCons (dVar 12) daNil)) (daCons (dCall m__law_is_covering [] (daCons (dVar 1) (daCons (dVar 2) (daCons (dVar 6) (daCons (dVar 12) daNil))))) daNil)))))
    (dRet (dC (.bool false)))
    dNext))
    (dRet (dAnd (dBin fGe (dBinV fMul 6 (dCall m_most_places [] (daCons (dVar 1) (daCons (dBin fSub (dC (.int 0)) (dRd 2)) daNil)))) (dUn fLen (dRd 1))) (dBin fEq (dUn fReprT (dRd 1)) (dRd 5))))))))))))))
def bd_law (K : PySem.W.Frag) : DS :=
  (dSeq (dSet 2 (dCallP m__law_row 1 [] (daCons (dC (.int 40)) daNil)))
    (dFor (dListOf (asD (dLst (daCons (dC (.int 1)) (daCons (dBin fSub (dC (.int 0)) (dC (.int 1))) daNil))))) (dgName 3)
    (dIfS (dTNot (dB (dCallP m__law_is_right 1 [] (daCons (dVar 2) (daCons (dVar 3) daNil)))))
    (dRet (dC (.bool false)))
    dNext)))
def sd_law (K : PySem.W.Frag) : DE := (dCallS K m__law_purses 0 [] (daCons (dC (.int 3)) daNil))
end K22

set_option Elab.async false
set_option linter.all false
set_option maxRecDepth 100000
set_option maxHeartbeats 1000000
set_option exponentiation.threshold 5000
namespace K22
open PySem L2 Evl PyProof.Rows RZ DL
theorem mlen_is_whole : ∀ xs Q, m_is_whole xs Q → xs.length = ps_is_whole.length := fun _ _ ⟨_, e, _⟩ => by rw [e]; rfl
theorem math_is_whole : ∀ xs Q, m_is_whole xs Q → bd_is_whole { nx := fun _ => Q .none, rt := fun _ d _ => Q d } (startR nm_is_whole xs) := fun xs Q ⟨d, e, h⟩ => by
  subst e
  cases d <;> exact h
theorem eqv_int (a b : Int) : PyData.eqv (.int a) (.int b) = decide (a = b) := by
  show (a == b) = _
  rfl
theorem mlen_is_count : ∀ xs Q, m_is_count xs Q → xs.length = ps_is_count.length := fun _ _ ⟨_, _, e, _⟩ => by rw [e]; rfl
theorem math_is_count : ∀ xs Q, m_is_count xs Q → bd_is_count { nx := fun _ => Q .none, rt := fun _ d _ => Q d } (startR nm_is_count xs) := fun xs Q ⟨d, l, e, h⟩ => by
  subst e
  refine ⟨d, rfl, ?_⟩
  cases d <;> exact h
theorem emod_b (a b : Int) (h : 0 < b) : 0 ≤ a % b ∧ a % b < b := ⟨Int.emod_nonneg _ (by omega), Int.emod_lt_of_pos _ h⟩
theorem sz_of1 {a : Int} (h0 : 0 ≤ a) (h : a < 2 ^ 3000) : Sz a := by
  unfold Sz
  have e : (a.natAbs : Int) = a := by omega
  have : (a.natAbs : Int) < ((2 ^ 3000 : Nat) : Int) := by
    rw [e]
    exact_mod_cast h
  exact_mod_cast this
theorem mlen__law_mixed : ∀ xs Q, m__law_mixed xs Q → xs.length = ps__law_mixed.length := fun _ _ ⟨_, _, _, e, _⟩ => by rw [e]; rfl
theorem pw_le {m n : Nat} (h : m ≤ n) : (2 : Int) ^ m ≤ 2 ^ n := by
  have := Nat.pow_le_pow_right (n := 2) (by decide) h
  exact_mod_cast this
theorem mul_lt {a b : Int} {m n : Nat} (a0 : 0 ≤ a) (b0 : 0 ≤ b) (ha : a < 2 ^ m) (hb : b < 2 ^ n) : 0 ≤ a * b ∧ a * b < 2 ^ (m + n) := by
  refine ⟨Int.mul_nonneg a0 b0, ?_⟩
  rw [Int.pow_add]
  by_cases h : b = 0
  · subst h
    rw [Int.mul_zero]
    exact Int.mul_pos (by omega) (by omega)
  · have h1 : a * b < 2 ^ m * b := Int.mul_lt_mul_of_pos_right ha (by omega)
    have h2 : (2 : Int) ^ m * b ≤ 2 ^ m * 2 ^ n := Int.mul_le_mul_of_nonneg_left (by omega) (by omega)
    omega
theorem math__law_mixed : ∀ xs Q, m__law_mixed xs Q → bd__law_mixed { nx := fun _ => Q .none, rt := fun _ d _ => Q d } (startR nm__law_mixed xs) := fun xs Q ⟨a, b, c, e, ⟨a0, a1⟩, ⟨b0, b1⟩, ⟨c0, c1⟩, h⟩ => by
  subst e
  have p : ∀ {n : Nat}, n ≤ 3000 → (2 : Int) ^ n ≤ 2 ^ 3000 := fun h => pw_le h
  have sb : Sz b := sz_of1 b0 (Int.lt_of_lt_of_le b1 (p (by decide)))
  have m1 := mul_lt (m := 17) (n := 1000) (a := 104729) (by decide) b0 (by decide) b1
  refine ⟨⟨sz_of1 a0 (Int.lt_of_lt_of_le a1 (p (by decide))), sz_of1 (by decide) (Int.lt_of_lt_of_le (by decide : (69069 : Int) < 2 ^ 20) (p (by decide)))⟩, ?_⟩
  refine ⟨⟨sz_of1 (by decide) (Int.lt_of_lt_of_le (by decide : (104729 : Int) < 2 ^ 20) (p (by decide))), sb⟩, ?_⟩
  refine ⟨⟨sz_of1 m1.1 (Int.lt_of_lt_of_le m1.2 (p (by decide))), sb⟩, ?_⟩
  refine ⟨⟨sz_of1 (by decide) (Int.lt_of_lt_of_le (by decide : (7919 : Int) < 2 ^ 20) (p (by decide))), sz_of1 c0 (Int.lt_of_lt_of_le c1 (p (by decide)))⟩, ?_⟩
  refine ⟨(by decide : (0 : Int) < 2147483647), ?_⟩
  have k1 := emod_b (a * 69069 + 104729 * b * b + 7919 * c + b) 2147483647 (by decide)
  have sx := sz_of1 k1.1 (Int.lt_of_lt_of_le k1.2 (Int.le_trans (by decide : (2147483647 : Int) ≤ 2 ^ 31) (p (by decide))))
  refine ⟨⟨sx, sx⟩, (by decide : (0 : Int) < 2147483629), ?_⟩
  have k2 := emod_b ((a * 69069 + 104729 * b * b + 7919 * c + b) % 2147483647 * ((a * 69069 + 104729 * b * b + 7919 * c + b) % 2147483647) + 40503) 2147483629 (by decide)
  have sy := sz_of1 k2.1 (Int.lt_of_lt_of_le k2.2 (Int.le_trans (by decide : (2147483629 : Int) ≤ 2 ^ 31) (p (by decide))))
  refine ⟨⟨sy, sz_of1 (by decide) (Int.lt_of_lt_of_le (by decide : (48271 : Int) < 2 ^ 20) (p (by decide)))⟩, (by decide : (0 : Int) < 2147483587), ?_⟩
  have k3 := emod_b (((a * 69069 + 104729 * b * b + 7919 * c + b) % 2147483647 * ((a * 69069 + 104729 * b * b + 7919 * c + b) % 2147483647) + 40503) % 2147483629 * 48271) 2147483587 (by decide)
  exact h _ k3.1 k3.2
theorem mlen__law_draw : ∀ qs xs Q, m__law_draw qs xs Q → xs.length + 1 = ps__law_draw.length := fun _ _ _ ⟨_, _, _, _, e, _⟩ => by rw [e]; rfl
theorem ibits {i : Int} {n : Nat} (h0 : 0 < i) (h : i < 2 ^ n) : Builtin.Int.intBits i ≤ n := by
  refine PySem.intBits_le_iff.mpr ?_
  have e : (i.natAbs : Int) = i := by omega
  have : (i.natAbs : Int) < ((2 ^ n : Nat) : Int) := by
    rw [e]
    exact_mod_cast h
  exact_mod_cast this
theorem grow {f M r : Int} {k : Nat} (f0 : 0 ≤ f) (M0 : 0 ≤ M) (r0 : 0 ≤ r) (hf : f < 2 ^ k) (hM : M < 2 ^ 31) (hr : r < 2 ^ 31) : 0 ≤ f * M + r ∧ f * M + r < 2 ^ (k + 32) := by
  have m := mul_lt f0 M0 hf hM
  have h1 : (2 : Int) ^ 31 ≤ 2 ^ (k + 31) := pw_le (by omega)
  have h2 : (2 : Int) ^ (k + 32) = 2 ^ (k + 31) * 2 := Int.pow_succ 2 (k + 31)
  omega
theorem math__law_draw : ∀ qs xs Q, m__law_draw qs xs Q → bd__law_draw { nx := fun ρ => pur0 ρ (Q .none), rt := fun _ d ρ => pur0 ρ (Q d) } (startP nm__law_draw qs xs) := fun qs xs Q ⟨n, ns, many, e1, e2, ⟨a, b, c, t, e3, ⟨a0, a1⟩, ⟨b0, b1⟩, ⟨c0, c1⟩, t0, t1⟩, hn, ⟨m0, m1⟩, h⟩ => by
  subst e1 e2 e3
  have sm : Sz many := sz_of1 (by omega) (Int.lt_of_lt_of_le m1 (pw_le (by decide)))
  refine ⟨_, rfl, ?_⟩
  by_cases ha : 0 < a
  · have e : decide ((0 : Int) < a) = true := decide_eq_true ha
    show (match (decide ((0 : Int) < a)) with | true => _ | false => _)
    rw [e]
    refine ⟨_, rfl, m0, ?_⟩
    refine ⟨_, rfl, ⟨m0, sm⟩, ?_⟩
    refine ⟨0, rfl, ?_⟩
    have k := emod_b a many m0
    refine h _ [a / many, b, c, t] k.1 k.2 ⟨_, _, _, _, rfl, ⟨Int.ediv_nonneg a0 (by omega), ?_⟩, ⟨b0, b1⟩, ⟨c0, by omega⟩, t0, t1⟩
    exact Int.lt_of_le_of_lt (Int.ediv_le_self _ a0) a1
  · have e : decide ((0 : Int) < a) = false := decide_eq_false ha
    show (match (decide ((0 : Int) < a)) with | true => _ | false => _)
    rw [e]
    have a00 : a = 0 := by omega
    subst a00
    have hb := ibits m0 m1
    refine ⟨⟨(by decide : (0 : Int) < 28), sz_of1 (by decide) (Int.lt_of_lt_of_le (by decide : (28 : Int) < 2 ^ 20) (pw_le (by decide)))⟩, ?_⟩
    have hk : (Builtin.Int.intBits many : Int) / 28 ≤ 72 := by omega
    have hk0 : 0 ≤ (Builtin.Int.intBits many : Int) / 28 := by omega
    refine ⟨by omega, by omega, ?_⟩
    have hl : (rngD 0 (1 + (Builtin.Int.intBits many : Int) / 28).toNat).length ≤ 73 := by rw [rngD_len]; omega
    generalize rngD 0 (1 + (Builtin.Int.intBits many : Int) / 28).toNat = items at hl
    refine ⟨fun i ρ => ∃ c' f y, ρ = [.pur [.int 0, .int b, .int c', .int t], .val (.int many), .no, .val (.int f), y] ∧ (0 ≤ c' ∧ c' ≤ n + (i : Int)) ∧ (0 ≤ f ∧ f < 2 ^ (32 * i + 1)), ⟨c, 0, _, rfl, ⟨c0, by omega⟩, by decide⟩, ?_, ?_⟩
    · rintro i x ρ hi ⟨c', f, y, rfl, ⟨d0, d1⟩, f0, f1⟩
      have hi2 : i < 73 := by have := (List.getElem?_eq_some_iff.mp hi).1; omega
      refine ⟨_, rfl, 2, rfl, ?_⟩
      refine ⟨⟨sz_of1 f0 (Int.lt_of_lt_of_le f1 ?_), sz_of1 (by decide) (Int.lt_of_lt_of_le (by decide : (2147483587 : Int) < 2 ^ 31) (pw_le (by decide)))⟩, ?_⟩
      · exact pw_le (by omega)
      refine ⟨_, rfl, _, rfl, _, rfl, b, c' + 1, t, rfl, ⟨b0, ?_⟩, ⟨by omega, ?_⟩, ⟨t0, ?_⟩, fun r r0 r1 => ?_⟩
      · exact Int.lt_of_lt_of_le b1 (Int.le_trans (by decide : (2147483629 : Int) ≤ 2 ^ 31) (pw_le (by decide)))
      · refine Int.lt_of_lt_of_le (b := 2 ^ 62) ?_ (pw_le (by decide))
        omega
      · exact Int.lt_of_le_of_lt t1 (Int.lt_of_lt_of_le (by decide : (1000 : Int) < 2 ^ 31) (pw_le (by decide)))
      · have g := grow (M := 2147483587) f0 (by decide) r0 f1 (by decide) (Int.lt_of_lt_of_le r1 (by decide))
        refine ⟨c' + 1, _, _, rfl, ⟨by omega, by omega⟩, g.1, ?_⟩
        rw [show 32 * (i + 1) + 1 = 32 * i + 1 + 32 by omega]
        exact g.2
    · rintro ρ ⟨c', f, y, rfl, ⟨d0, d1⟩, f0, f1⟩
      refine ⟨m0, ?_⟩
      have k := emod_b f many m0
      refine h _ [0, b, c', t] k.1 k.2 ⟨_, _, _, _, rfl, ⟨by decide, a1⟩, ⟨b0, b1⟩, ⟨d0, by omega⟩, t0, t1⟩
theorem mlen__law_purse : ∀ ns xs Q, m__law_purse ns xs Q → xs.length + 1 = ps__law_purse.length := fun _ _ _ ⟨_, e, _⟩ => by rw [e]; rfl
theorem math__law_purse {K : PySem.W.Frag} : ∀ ns xs Q, m__law_purse ns xs Q → bd__law_purse K { nx := fun _ => Q .none, rt := fun _ d _ => Q d } (startS K nm__law_purse ns xs) := fun ns xs Q ⟨t, e, ⟨t0, t1⟩, h⟩ => by
  subst e
  refine ⟨rfl, ?_⟩
  have cut : DL.cutD (ns.map PyData.int) (some t) (some (t + 1)) = ((ns.drop (HT.sIx ns.length 0 (some t))).take (HT.sIx ns.length ns.length (some (t + 1)) - HT.sIx ns.length 0 (some t))).map PyData.int := by
    unfold DL.cutD
    rw [List.length_map, List.map_take, List.map_drop]
  refine ⟨_, congrArg PyData.list cut, ?_⟩
  generalize ((ns.drop (HT.sIx ns.length 0 (some t))).take (HT.sIx ns.length ns.length (some (t + 1)) - HT.sIx ns.length 0 (some t))).sum = z
  have b10 : (Builtin.Int.intBits 10 : Int) = 4 := by decide
  refine ⟨⟨by decide, by decide⟩, ?_⟩
  refine ⟨⟨by decide, by decide⟩, ?_⟩
  refine ⟨⟨by decide, ?_⟩, ?_⟩
  · show (Builtin.Int.intBits ((10 : Int) ^ 60) : Int) * 8 ≤ 100000
    decide +kernel
  have pos : (0 : Int) < ((10 : Int) ^ (60 : Int).toNat) ^ (8 : Int).toNat := by decide +kernel
  refine ⟨pos, (by decide : (0 : Int) < 2147483629), (by decide : 4 ≤ 100000), ?_⟩
  have k1 := emod_b (max (z - (10 : Int) ^ (18 : Int).toNat) 0) (((10 : Int) ^ (60 : Int).toNat) ^ (8 : Int).toNat) pos
  have k2 := emod_b z 2147483629 (by decide)
  have lt : ((10 : Int) ^ (60 : Int).toNat) ^ (8 : Int).toNat < 2 ^ 1600 := by decide +kernel
  exact h [_, _, 0, t] ⟨_, _, _, _, rfl, ⟨k1.1, Int.lt_trans k1.2 lt⟩, k2, ⟨by decide, by decide⟩, t0, t1⟩
theorem mlen__law_purses : ∀ ns xs Q, m__law_purses ns xs Q → xs.length + 1 = ps__law_purses.length := fun _ _ _ ⟨_, _, e, _⟩ => by rw [e]; rfl
theorem rngD_at {lo : Int} {n i : Nat} {x : PyData} (h : (rngD lo n)[i]? = some x) : i < n ∧ x = .int (lo + i) := by
  unfold rngD at h
  rw [List.getElem?_map] at h
  cases q : (List.range n)[i]? with
  | none => rw [q] at h; cases h
  | some j =>
    rw [q] at h
    obtain ⟨h1, h2⟩ := List.getElem?_eq_some_iff.mp q
    rw [List.getElem_range] at h2
    subst h2
    rw [List.length_range] at h1
    cases h
    exact ⟨h1, rfl⟩
theorem math__law_purses {K : PySem.W.Frag} : ∀ ns xs Q, m__law_purses ns xs Q → bd__law_purses K { nx := fun _ => Q .none, rt := fun _ d _ => Q d } (startS K nm__law_purses ns xs) := fun ns xs Q ⟨hl, few, e, ⟨f0, f1⟩, h⟩ => by
  subst e
  refine ⟨rfl, ?_⟩
  have b : (1 : Int) ≤ max 1 (min few (ns.length : Int)) ∧ max 1 (min few (ns.length : Int)) ≤ 60 := by omega
  refine ⟨by omega, by omega, ?_⟩
  generalize max 1 (min few (ns.length : Int)) = m at b
  refine ⟨fun i ρ acc => ρ = [.scr K ns, .val (.int few), .no] ∧ ∃ pss : List (List Int), acc = pss.map dints ∧ pss.length = i ∧ ∀ ms ∈ pss, PuOk 0 ms, ⟨rfl, [], rfl, rfl, fun _ z => nomatch z⟩, ?_, ?_⟩
  · rintro i x ρ acc hi ⟨rfl, pss, rfl, pl, pok⟩
    obtain ⟨hi1, rfl⟩ := rngD_at hi
    have hi2 : i < 60 := by omega
    refine ⟨rfl, 0 + (i : Int), rfl, ⟨by omega, by omega⟩, fun ms hms => ⟨by rw [List.length_map]; omega, rfl, pss ++ [ms], by rw [List.map_append]; rfl, by rw [List.length_append, pl]; rfl, fun y hy => ?_⟩⟩
    rcases List.mem_append.mp hy with hy | hy
    · exact pok y hy
    · rw [List.mem_singleton.mp hy]
      exact hms
  · rintro ρ acc ⟨rfl, pss, rfl, pl, pok⟩
    rw [rngD_len] at pl
    exact h pss pok (by omega)
end K22

set_option Elab.async false
set_option linter.all false
set_option maxRecDepth 100000
set_option maxHeartbeats 1000000
set_option exponentiation.threshold 5000
namespace K22
open PySem L2 Evl PyProof.Rows RZ DL
theorem mlen_same {n : Nat} : ∀ xs Q, mSame n xs Q → xs.length = ps__law_same.length := fun _ _ ⟨_, e, _⟩ => by rw [e]; rfl
theorem math_same0 : ∀ xs Q, mSame 0 xs Q → bd__law_same (fun _ _ => False) { nx := fun _ => Q .none, rt := fun _ d _ => Q d } (startR nm__law_same xs) := fun xs Q ⟨d, e, f, h⟩ => by
  unfold fitD at f
  cases f
theorem all_true (n : Nat) : (List.replicate n true).all id = true := by
  rw [List.all_eq_true]
  intro x hx
  exact (List.mem_replicate.mp hx).2
theorem eqv_len (n : Nat) : PyData.eqv (.int (n : Int)) (.int (n : Int)) = true := by rw [eqv_int]; simp
theorem math_same1 {n : Nat} : ∀ xs Q, mSame (n + 1) xs Q → bd__law_same (mSame n) { nx := fun _ => Q .none, rt := fun _ d _ => Q d } (startR nm__law_same xs) := fun xs Q ⟨d, e, f, h⟩ => by
  subst e
  cases d with
  | dict _ =>
    unfold fitD at f
    cases f
  | list ds =>
    have f1 : (decide (ds.length ≤ 100000) && fitAll n ds) = true := by unfold fitD at f; exact f
    rw [Bool.and_eq_true, decide_eq_true_eq] at f1
    refine ⟨⟨rfl, rfl⟩, ⟨rfl, rfl⟩, ?_⟩
    refine ⟨⟨rfl, rfl⟩, ?_⟩
    rw [eqv_len]
    refine ⟨fun i ρ acc => ρ = [.val (.list ds), .val (.list ds), .val (.bool true), .no, .no] ∧ acc = List.replicate i (.bool true), ⟨rfl, rfl⟩, ?_, ?_⟩
    · rintro i x ρ acc hi ⟨rfl, rfl⟩
      obtain ⟨a, b, h1, h2, rfl⟩ := zipD_at _ _ _ _ hi
      rw [h1] at h2
      cases h2
      have hl : i < ds.length := (List.getElem?_eq_some_iff.mp h1).1
      refine ⟨a, rfl, fitAll_mem f1.2 a (List.mem_of_getElem? h1), ?_⟩
      refine ⟨by rw [List.length_replicate]; omega, rfl, ?_⟩
      rw [List.replicate_succ']
    · rintro ρ acc ⟨rfl, rfl⟩
      refine ⟨List.replicate (zipD ds ds).length true, by rw [List.map_replicate], ?_⟩
      rw [all_true]
      exact h
  | tuple ds =>
    have f1 : (decide (ds.length ≤ 100000) && fitAll n ds) = true := by unfold fitD at f; exact f
    rw [Bool.and_eq_true, decide_eq_true_eq] at f1
    refine ⟨⟨rfl, rfl⟩, ⟨rfl, rfl⟩, ?_⟩
    refine ⟨⟨rfl, rfl⟩, ?_⟩
    rw [eqv_len]
    refine ⟨fun i ρ acc => ρ = [.val (.tuple ds), .val (.tuple ds), .val (.bool true), .no, .no] ∧ acc = List.replicate i (.bool true), ⟨rfl, rfl⟩, ?_, ?_⟩
    · rintro i x ρ acc hi ⟨rfl, rfl⟩
      obtain ⟨a, b, h1, h2, rfl⟩ := zipD_at _ _ _ _ hi
      rw [h1] at h2
      cases h2
      have hl : i < ds.length := (List.getElem?_eq_some_iff.mp h1).1
      refine ⟨a, rfl, fitAll_mem f1.2 a (List.mem_of_getElem? h1), ?_⟩
      refine ⟨by rw [List.length_replicate]; omega, rfl, ?_⟩
      rw [List.replicate_succ']
    · rintro ρ acc ⟨rfl, rfl⟩
      refine ⟨List.replicate (zipD ds ds).length true, by rw [List.map_replicate], ?_⟩
      rw [all_true]
      exact h
  | none => exact ⟨⟨rfl, rfl⟩, ⟨rfl, rfl⟩, ⟨rfl, rfl⟩, ⟨rfl, rfl⟩, ⟨rfl, rfl⟩, h⟩
  | bool b => cases b <;> exact ⟨⟨rfl, rfl⟩, ⟨rfl, rfl⟩, ⟨rfl, rfl⟩, ⟨rfl, rfl⟩, ⟨rfl, rfl⟩, h⟩
  | int i =>
    refine ⟨⟨rfl, rfl⟩, ⟨rfl, rfl⟩, ⟨rfl, rfl⟩, ⟨rfl, rfl⟩, ⟨rfl, rfl⟩, ?_⟩
    have e : PyData.eqv (.int i) (.int i) = true := by rw [eqv_int]; simp
    rw [e]
    exact h
  | str x =>
    have sh : SeqAt.shaped (.str x) = true := by unfold fitD at f; exact f
    refine ⟨⟨rfl, rfl⟩, ⟨rfl, rfl⟩, ⟨rfl, rfl⟩, ⟨rfl, rfl⟩, ⟨sh, sh⟩, ?_⟩
    have e : PyData.eqv (.str x) (.str x) = true := by show (x == x) = true; simp
    rw [e]
    exact h
end K22

set_option Elab.async false
set_option linter.all false
set_option maxRecDepth 100000
set_option maxHeartbeats 1000000
namespace K22
open PySem L2 Evl PyProof.Rows RZ DL
/-! the longest lists that go on: plain -/
theorem mxN_le {l : List Nat} {k : Nat} (h : ∀ x ∈ l, x ≤ k) : mxN l ≤ k := by
  induction l with
  | nil => exact Nat.zero_le _
  | cons a l ih =>
    show max a (mxN l) ≤ k
    have := h a List.mem_cons_self
    have := ih fun x hx => h x (List.mem_cons_of_mem _ hx)
    omega
theorem le_mxN {l : List Nat} {x : Nat} (h : x ∈ l) : x ≤ mxN l := by
  induction l with
  | nil => cases h
  | cons a l ih =>
    show x ≤ max a (mxN l)
    rcases List.mem_cons.mp h with rfl | h
    · omega
    · have := ih h
      omega
theorem mxN_mem {l : List Nat} (h : 0 < mxN l) : mxN l ∈ l := by
  induction l with
  | nil => cases h
  | cons a l ih =>
    show max a (mxN l) ∈ _
    by_cases z : mxN l ≤ a
    · rw [Nat.max_eq_left z]
      exact List.mem_cons_self
    · rw [Nat.max_eq_right (by omega)]
      exact List.mem_cons_of_mem _ (ih (by omega))
theorem mxN_append (l m : List Nat) : mxN (l ++ m) = max (mxN l) (mxN m) := by
  induction l with
  | nil => exact (Nat.zero_max _).symm
  | cons a l ih =>
    show max a (mxN (l ++ m)) = max (max a (mxN l)) (mxN m)
    rw [ih]
    omega
theorem mxN_reverse (l : List Nat) : mxN l.reverse = mxN l := by
  induction l with
  | nil => rfl
  | cons a l ih =>
    rw [List.reverse_cons, mxN_append, ih]
    show max (mxN l) (max a 0) = max a (mxN l)
    omega
theorem mxN_perm {l m : List Nat} (h : l.Perm m) : mxN l = mxN m := by
  induction h with
  | nil => rfl
  | cons x _ ih => show max x _ = max x _; rw [ih]
  | swap x y l => show max y (max x _) = max x (max y _); omega
  | trans _ _ a b => rw [a, b]
theorem bh_len (way : Int) : ∀ row : List Int, (bh way row).length = row.length
  | [] => rfl
  | a :: t => by
    show (bh way t).length + 1 = t.length + 1
    rw [bh_len way t]
theorem lv_len (way : Int) (row : List Int) : (lv way row).length = row.length := by
  unfold lv
  rw [List.length_reverse, bh_len, List.length_reverse]
theorem sel_mem {way a : Int} {t : List Int} {bs : List Nat} {b : Nat} : b ∈ sel way a t bs ↔ ∃ x, (x, b) ∈ t.zip bs ∧ up way a x = true := by
  unfold sel
  constructor
  · intro h
    obtain ⟨⟨x, b'⟩, h1, rfl⟩ := List.mem_map.mp h
    obtain ⟨h1, h2⟩ := List.mem_filter.mp h1
    exact ⟨x, h1, h2⟩
  · rintro ⟨x, h1, h2⟩
    exact List.mem_map.mpr ⟨(x, b), List.mem_filter.mpr ⟨h1, h2⟩, rfl⟩
/-- a list that goes on -/
def Ch (way : Int) (s : List Int) : Prop := s.Pairwise fun x y => up way x y = true
theorem up_trans {way x y z : Int} (hw : WayOk way) (h1 : up way x y = true) (h2 : up way y z = true) : up way x z = true := by
  have h1 := of_decide_eq_true h1
  have h2 := of_decide_eq_true h2
  refine decide_eq_true ?_
  rcases hw with rfl | rfl <;> omega
theorem up_asym {way x y : Int} (hw : WayOk way) (h1 : up way x y = true) : up way y x = false := by
  have h1 := of_decide_eq_true h1
  refine decide_eq_false ?_
  rcases hw with rfl | rfl <;> omega
theorem up_neg (way x y : Int) : up (-way) x y = up way y x := by
  unfold up
  refine decide_eq_decide.mpr ?_
  have e : (y - x) * -way = (x - y) * way := by
    rw [Int.mul_neg, ← Int.neg_mul]
    congr 1
    omega
  rw [e]
theorem up_or {way x y : Int} (hw : WayOk way) (h : x ≠ y) : up way x y = true ∨ up way y x = true := by
  unfold up
  rw [decide_eq_true_eq, decide_eq_true_eq]
  rcases hw with rfl | rfl <;> omega
theorem neg_ok {way : Int} (h : WayOk way) : WayOk (-way) := by
  rcases h with rfl | rfl
  · exact .inr rfl
  · exact .inl rfl
/-- from each place on there is a list of that length -/
theorem bh_has (way : Int) (hw : WayOk way) : ∀ (t : List Int) (x : Int) (b : Nat), (x, b) ∈ t.zip (bh way t) → ∃ s, (x :: s).Sublist t ∧ Ch way (x :: s) ∧ (x :: s).length = b
  | [], _, _, h => by cases h
  | a :: t, x, b, h => by
    have h : (x, b) ∈ (a, 1 + mxN (sel way a t (bh way t))) :: t.zip (bh way t) := h
    rcases List.mem_cons.mp h with h | h
    · cases h
      by_cases z : mxN (sel way a t (bh way t)) = 0
      · refine ⟨[], (List.nil_sublist t).cons₂ _, List.pairwise_singleton _ _, ?_⟩
        rw [z]
        rfl
      · obtain ⟨y, h1, h2⟩ := sel_mem.mp (mxN_mem (Nat.pos_of_ne_zero z))
        obtain ⟨s, k1, k2, k3⟩ := bh_has way hw t y _ h1
        refine ⟨y :: s, k1.cons₂ _, List.pairwise_cons.mpr ⟨fun w hm => ?_, k2⟩, ?_⟩
        · rcases List.mem_cons.mp hm with rfl | hm
          · exact h2
          · exact up_trans hw h2 (List.rel_of_pairwise_cons k2 hm)
        · rw [List.length_cons, k3]
          omega
    · obtain ⟨s, k1, k2, k3⟩ := bh_has way hw t x b h
      exact ⟨s, k1.cons _, k2, k3⟩
/-- and none that is longer -/
theorem bh_top (way : Int) : ∀ (t : List Int) (x : Int) (s : List Int), (x :: s).Sublist t → Ch way (x :: s) → ∃ b, (x, b) ∈ t.zip (bh way t) ∧ (x :: s).length ≤ b
  | [], _, _, h, _ => by cases h
  | a :: t, x, s, h, c => by
    have e : (a :: t).zip (bh way (a :: t)) = (a, 1 + mxN (sel way a t (bh way t))) :: t.zip (bh way t) := rfl
    rw [e]
    cases h with
    | cons _ h =>
      obtain ⟨b, k1, k2⟩ := bh_top way t x s h c
      exact ⟨b, List.mem_cons_of_mem _ k1, k2⟩
    | cons_cons _ h =>
      refine ⟨_, List.mem_cons_self, ?_⟩
      cases s with
      | nil => show 1 ≤ _; omega
      | cons y s =>
        obtain ⟨b, k1, k2⟩ := bh_top way t y s h (List.Pairwise.of_cons c)
        have := le_mxN (sel_mem.mpr ⟨y, k1, List.rel_of_pairwise_cons c List.mem_cons_self⟩)
        rw [List.length_cons]
        omega
theorem most_has (way : Int) (hw : WayOk way) (row : List Int) : ∃ s, s.Sublist row ∧ Ch way s ∧ s.length = most way row := by
  by_cases z : most way row = 0
  · exact ⟨[], List.nil_sublist _, List.Pairwise.nil, z.symm⟩
  · have m := mxN_mem (Nat.pos_of_ne_zero z)
    obtain ⟨i, hi⟩ := List.getElem?_of_mem m
    have il := (List.getElem?_eq_some_iff.mp hi).1
    rw [bh_len] at il
    obtain ⟨s, k1, k2, k3⟩ := bh_has way hw row row[i] (mxN (bh way row)) (List.mem_of_getElem? (i := i) (by rw [List.getElem?_zip_eq_some]; exact ⟨List.getElem?_eq_getElem il, hi⟩))
    exact ⟨_, k1, k2, k3⟩
theorem most_top (way : Int) (row s : List Int) (h : s.Sublist row) (c : Ch way s) : s.length ≤ most way row := by
  cases s with
  | nil => exact Nat.zero_le _
  | cons x s =>
    obtain ⟨b, k1, k2⟩ := bh_top way row x s h c
    exact Nat.le_trans k2 (le_mxN (List.of_mem_zip k1).2)
theorem ch_rev {way : Int} {s : List Int} (h : Ch way s) : Ch (-way) s.reverse := by
  unfold Ch
  rw [List.pairwise_reverse]
  exact h.imp fun {x y} k => by rw [up_neg]; exact k
theorem most_rev (way : Int) (hw : WayOk way) (row : List Int) : most (-way) row.reverse = most way row := by
  apply Nat.le_antisymm
  · obtain ⟨s, h1, h2, h3⟩ := most_has (-way) (neg_ok hw) row.reverse
    rw [← h3, ← List.length_reverse]
    have c := ch_rev h2
    rw [Int.neg_neg] at c
    exact most_top way row s.reverse (by have := h1.reverse; rw [List.reverse_reverse] at this; exact this) c
  · obtain ⟨s, h1, h2, h3⟩ := most_has way hw row
    rw [← h3, ← List.length_reverse (as := s)]
    exact most_top (-way) row.reverse s.reverse h1.reverse (ch_rev h2)
/-- the greatest level is the length of the longest list -/
theorem lv_most (way : Int) (hw : WayOk way) (row : List Int) : mxN (lv way row) = most way row := by
  unfold lv
  rw [mxN_reverse]
  exact most_rev way hw row
theorem bh_pos (way : Int) : ∀ (row : List Int), ∀ b ∈ bh way row, 1 ≤ b
  | [], _, h => by cases h
  | a :: t, b, h => by
    rcases List.mem_cons.mp (show b ∈ (1 + mxN (sel way a t (bh way t))) :: bh way t from h) with rfl | h
    · omega
    · exact bh_pos way t b h
theorem bh_le (way : Int) (row : List Int) : ∀ b ∈ bh way row, b ≤ row.length := by
  induction row with
  | nil => exact fun _ h => by cases h
  | cons a t ih =>
    intro b h
    rcases List.mem_cons.mp (show b ∈ (1 + mxN (sel way a t (bh way t))) :: bh way t from h) with rfl | h
    · have : mxN (sel way a t (bh way t)) ≤ t.length := mxN_le fun x hx => by
        obtain ⟨y, h1, _⟩ := sel_mem.mp hx
        exact ih x (List.of_mem_zip h1).2
      rw [List.length_cons]
      omega
    · have := ih b h
      rw [List.length_cons]
      omega
theorem most_le (way : Int) (row : List Int) : most way row ≤ row.length := mxN_le (bh_le way row)
end K22

set_option Elab.async false
set_option linter.all false
set_option maxRecDepth 100000
set_option maxHeartbeats 1000000
set_option exponentiation.threshold 5000
namespace K22
open PySem L2 Evl PyProof.Rows RZ DL
theorem sz_abs {a : Int} (h : -(2 ^ 100) < a ∧ a < 2 ^ 100) : Sz a := by
  unfold Sz
  have : a.natAbs < 2 ^ 100 := by omega
  exact Nat.lt_of_lt_of_le this (Nat.pow_le_pow_right (by decide) (by decide))
theorem at_gt (cs : List Int) {z : Int} {k : Nat} (h : k < cs.length) (e : z = (k : Int)) : atI (cs.map PyData.int) z = some (.int (gt cs k)) := by
  subst e
  unfold atI ixN
  rw [List.length_map, if_pos (by omega), if_pos (by omega)]
  show (cs.map PyData.int)[(k : Int).toNat]? = _
  rw [Int.toNat_natCast, List.getElem?_map]
  unfold gt
  rw [List.getD_eq_getElem?_getD, List.getElem?_eq_getElem h]
  rfl
theorem at_nat (l : List Nat) {z : Int} {k : Nat} (h : k < l.length) (e : z = (k : Int)) : atI (l.map natD) z = some (natD (l.getD k 0)) := by
  subst e
  unfold atI ixN
  rw [List.length_map, if_pos (by omega), if_pos (by omega)]
  show (l.map natD)[(k : Int).toNat]? = _
  rw [Int.toNat_natCast, List.getElem?_map, List.getD_eq_getElem?_getD, List.getElem?_eq_getElem h]
  rfl
theorem map_at {α β : Type} {f : α → β} {l : List α} {i : Nat} {x : β} (h : (l.map f)[i]? = some x) : ∃ a, l[i]? = some a ∧ x = f a := by
  rw [List.getElem?_map] at h
  cases q : l[i]? with
  | none => rw [q] at h; cases h
  | some a => rw [q] at h; cases h; exact ⟨a, rfl, rfl⟩
theorem take_at {α : Type} {l : List α} {i : Nat} {x : α} (h : l[i]? = some x) : l.take (i + 1) = l.take i ++ [x] := by
  rw [List.take_add_one, h]
  rfl
theorem filt_succ (P : Nat → Bool) (i : Nat) : (List.range (i + 1)).filter P = (List.range i).filter P ++ (if P i = true then [i] else []) := by
  rw [List.range_succ, List.filter_append, List.filter_cons]
  rfl
theorem filt_len (P : Nat → Bool) (i : Nat) : ((List.range i).filter P).length ≤ i := by
  have := List.length_filter_le P (List.range i)
  rw [List.length_range] at this
  exact this
theorem gt_mem {cs : List Int} {i : Nat} (h : i < cs.length) : gt cs i ∈ cs := by
  unfold gt
  rw [List.getD_eq_getElem?_getD, List.getElem?_eq_getElem h]
  exact List.getElem_mem _
theorem gt_at {cs : List Int} {i : Nat} {x : Int} (h : cs[i]? = some x) : gt cs i = x := by
  unfold gt
  rw [List.getD_eq_getElem?_getD, h]
  rfl
theorem RowOk.b {row : List Int} (w : RowOk row) {i : Nat} (h : i < row.length) : -(2 ^ 60) < gt row i ∧ gt row i < 2 ^ 60 := w.rng _ (gt_mem h)
theorem way_b {way : Int} (h : WayOk way) : -(2 ^ 100) < way ∧ way < 2 ^ 100 := by rcases h with rfl | rfl <;> decide
theorem mlen_goes_on : ∀ xs Q, m_goes_on xs Q → xs.length = ps_goes_on.length := fun _ _ ⟨_, _, _, _, ⟨e, _⟩, _⟩ => by rw [e]; rfl
theorem math_goes_on : ∀ xs Q, m_goes_on xs Q → bd_goes_on { nx := fun _ => Q .none, rt := fun _ d _ => Q d } (startR nm_goes_on xs) := fun xs Q ⟨way, row, i, j, ⟨e, ro, wo⟩, hi, hj, h⟩ => by
  subst e
  have bi := ro.b hi
  have bj := ro.b hj
  refine ⟨_, at_gt row (k := j) hj rfl, _, at_gt row (k := i) hi rfl, ⟨sz_abs (by omega), sz_abs (way_b wo)⟩, ?_⟩
  exact h
theorem mlen__law_goes_on : ∀ xs Q, m__law_goes_on xs Q → xs.length = ps__law_goes_on.length := fun _ _ ⟨_, _, _, _, ⟨e, _⟩, _⟩ => by rw [e]; rfl
theorem math__law_goes_on : ∀ xs Q, m__law_goes_on xs Q → bd__law_goes_on { nx := fun _ => Q .none, rt := fun _ d _ => Q d } (startR nm__law_goes_on xs) := fun xs Q ⟨way, row, i, j, ⟨e, ro, wo⟩, hi, hj, h⟩ => by
  subst e
  have bi := ro.b hi
  have bj := ro.b hj
  show (match (PyData.bool (decide ((i : Int) < (j : Int)))) with | .bool true => _ | .bool false => _ | _ => False)
  by_cases z : i < j
  · rw [decide_eq_true (by omega)]
    rw [decide_eq_true z, Bool.true_and] at h
    refine ⟨_, at_gt row (k := j) hj rfl, _, at_gt row (k := i) hi rfl, ⟨sz_abs (by omega), sz_abs (way_b wo)⟩, ?_⟩
    exact h
  · rw [decide_eq_false (by omega)]
    rw [decide_eq_false z, Bool.false_and] at h
    exact h
theorem inD_ints (x : Int) : ∀ l : List Int, inD (.int x) (l.map PyData.int) = decide (x ∈ l)
  | [] => rfl
  | a :: l => by
    have ih := inD_ints x l
    unfold inD at ih ⊢
    rw [List.map_cons, List.any_cons, ih, eqv_int]
    by_cases z : a = x
    · rw [decide_eq_true z, Bool.true_or, decide_eq_true (by rw [z]; exact List.mem_cons_self)]
    · rw [decide_eq_false z, Bool.false_or]
      refine decide_eq_decide.mpr ?_
      rw [List.mem_cons]
      exact ⟨.inr, fun h => h.resolve_left fun y => z y.symm⟩
theorem flat_ints : ∀ l : List Int, (l.map PyData.int).all flatD = true
  | [] => rfl
  | _ :: l => flat_ints l
theorem cut_toI (l : List Int) (k : Nat) (h : k ≤ l.length) : cutD (l.map PyData.int) none (some (k : Int)) = (l.take k).map PyData.int := by
  unfold DL.cutD
  rw [HT.sIx_nat, HT.sIx_none, List.drop_zero, List.length_map, Nat.sub_zero, ← List.map_take, Nat.min_eq_left h]
theorem mlen_is_row : ∀ xs Q, m_is_row xs Q → xs.length = ps_is_row.length := fun _ _ ⟨_, e, _⟩ => by rw [e]; rfl
theorem math_is_row : ∀ xs Q, m_is_row xs Q → bd_is_row { nx := fun _ => Q .none, rt := fun _ d _ => Q d } (startR nm_is_row xs) := fun xs Q ⟨row, e, ro, h⟩ => by
  subst e
  have rl := ro.len
  refine ⟨fun i ρ acc => ρ = [.val (dints row), .no, .no] ∧ acc = List.replicate i (.bool true), ⟨rfl, rfl⟩, ?_, ?_⟩
  · rintro i x ρ acc hi ⟨rfl, rfl⟩
    obtain ⟨y, hy, rfl⟩ := map_at hi
    have hl2 : i < row.length := (List.getElem?_eq_some_iff.mp hy).1
    refine ⟨_, rfl, ?_⟩
    refine ⟨by rw [List.length_replicate]; omega, rfl, ?_⟩
    rw [List.replicate_succ']
    rfl
  rintro ρ acc ⟨rfl, rfl⟩
  refine ⟨List.replicate (row.map PyData.int).length true, by rw [List.map_replicate], ?_⟩
  rw [all_true]
  refine ⟨fun i ρ acc => ρ = [.val (dints row), .no, .no] ∧ acc = List.replicate i (.bool true), ⟨rfl, rfl⟩, ?_, ?_⟩
  · rintro i x ρ acc hi ⟨rfl, rfl⟩
    obtain ⟨d, hd, rfl⟩ := enumD_at _ _ _ _ hi
    obtain ⟨y, hy, rfl⟩ := map_at hd
    have hl2 : i < row.length := (List.getElem?_eq_some_iff.mp hy).1
    have ec : cutD (row.map PyData.int) none (some (((0 + i : Nat) : Int))) = (row.take i).map PyData.int := by
      rw [Nat.zero_add]
      exact cut_toI row i (by omega)
    refine ⟨⟨rfl, by rw [ec]; exact flat_ints _⟩, ?_⟩
    have nin : inD (.int y) (cutD (row.map PyData.int) none (some (((0 + i : Nat) : Int)))) = false := by
      rw [ec, inD_ints]
      refine decide_eq_false fun m => ?_
      obtain ⟨j, hj⟩ := List.getElem?_of_mem m
      have jl := (List.getElem?_eq_some_iff.mp hj).1
      rw [List.length_take] at jl
      rw [List.getElem?_take_of_lt (by omega)] at hj
      obtain ⟨a1, a2⟩ := List.getElem?_eq_some_iff.mp hj
      obtain ⟨b1, b2⟩ := List.getElem?_eq_some_iff.mp hy
      exact List.pairwise_iff_getElem.mp ro.nd j i a1 b1 (by omega) (by rw [a2, b2])
    refine ⟨by rw [List.length_replicate]; omega, rfl, ?_⟩
    rw [List.replicate_succ']
    show _ ++ [PyData.bool (!inD (.int y) (cutD (row.map PyData.int) none (some (((0 + i : Nat) : Int)))))] = _
    rw [nin]
    rfl
  rintro ρ acc ⟨rfl, rfl⟩
  refine ⟨List.replicate (enumD 0 (row.map PyData.int)).length true, by rw [List.map_replicate], ?_⟩
  rw [all_true]
  exact h
theorem mlen_check_row : ∀ xs Q, m_check_row xs Q → xs.length = ps_check_row.length := fun _ _ ⟨_, e, _⟩ => by rw [e]; rfl
theorem math_check_row : ∀ xs Q, m_check_row xs Q → bd_check_row { nx := fun _ => Q .none, rt := fun _ d _ => Q d } (startR nm_check_row xs) := fun xs Q ⟨row, e, ro, h⟩ => by
  subst e
  exact ⟨row, rfl, ro, h⟩
theorem mlen_check_way : ∀ xs Q, m_check_way xs Q → xs.length = ps_check_way.length := fun _ _ ⟨_, e, _⟩ => by rw [e]; rfl
theorem math_check_way : ∀ xs Q, m_check_way xs Q → bd_check_way { nx := fun _ => Q .none, rt := fun _ d _ => Q d } (startR nm_check_way xs) := fun xs Q ⟨way, e, wo, h⟩ => by
  subst e
  refine ⟨_, rfl, ?_⟩
  refine ⟨by decide, ⟨rfl, rfl⟩, ?_⟩
  have z : inD (.int way) ([1, -1].map PyData.int) = true := by
    rw [inD_ints]
    rcases wo with rfl | rfl <;> decide
  show (match (!inD (.int way) ([1, -1].map PyData.int)) with | true => _ | false => _)
  rw [z]
  exact h
theorem mlen_check_row_way : ∀ xs Q, m_check_row_way xs Q → xs.length = ps_check_row_way.length := fun _ _ ⟨_, _, ⟨e, _⟩, _⟩ => by rw [e]; rfl
theorem math_check_row_way : ∀ xs Q, m_check_row_way xs Q → bd_check_row_way { nx := fun _ => Q .none, rt := fun _ d _ => Q d } (startR nm_check_row_way xs) := fun xs Q ⟨way, row, ⟨e, ro, wo⟩, h⟩ => by
  subst e
  exact ⟨row, rfl, ro, way, rfl, wo, h⟩
theorem mlen_most_places : ∀ xs Q, m_most_places xs Q → xs.length = ps_most_places.length := fun _ _ ⟨_, _, ⟨e, _⟩, _⟩ => by rw [e]; rfl
theorem math_most_places : ∀ xs Q, m_most_places xs Q → bd_most_places { nx := fun _ => Q .none, rt := fun _ d _ => Q d } (startR nm_most_places xs) := fun xs Q ⟨way, row, ⟨e, ro, wo⟩, h⟩ => by
  subst e
  exact ⟨way, row, ⟨rfl, ro, wo⟩, way, row, ⟨rfl, ro, wo⟩, h⟩
theorem mlen_levels_of : ∀ xs Q, m_levels_of xs Q → xs.length = ps_levels_of.length := fun _ _ ⟨_, _, ⟨e, _⟩, _⟩ => by rw [e]; rfl
theorem math_levels_of : ∀ xs Q, m_levels_of xs Q → bd_levels_of { nx := fun _ => Q .none, rt := fun _ d _ => Q d } (startR nm_levels_of xs) := fun xs Q ⟨way, row, ⟨e, ro, wo⟩, h⟩ => by
  subst e
  exact ⟨way, row, ⟨rfl, ro, wo⟩, way, row, ⟨rfl, ro, wo⟩, h⟩
/-- max over numbers -/
theorem max_nat {l : List Nat} {m : Int} (h1 : m ∈ (0 : Int) :: l.map fun (i : Nat) => (i : Int)) (h2 : ∀ y ∈ (0 : Int) :: l.map (fun (i : Nat) => (i : Int)), y ≤ m) : m = (mxN l : Nat) := by
  apply Int.le_antisymm
  · rcases List.mem_cons.mp h1 with rfl | h1
    · omega
    · obtain ⟨i, hi, rfl⟩ := List.mem_map.mp h1
      have := le_mxN hi
      omega
  · by_cases z : mxN l = 0
    · rw [z]
      exact h2 0 List.mem_cons_self
    · exact h2 _ (List.mem_cons_of_mem _ (List.mem_map.mpr ⟨_, mxN_mem (Nat.pos_of_ne_zero z), rfl⟩))
theorem natD_int (l : List Nat) : l.map natD = (l.map fun (i : Nat) => (i : Int)).map PyData.int := by
  rw [List.map_map]
  rfl
theorem mlen_most_there : ∀ xs Q, m_most_there xs Q → xs.length = ps_most_there.length := fun _ _ ⟨_, _, ⟨e, _⟩, _⟩ => by rw [e]; rfl
theorem math_most_there : ∀ xs Q, m_most_there xs Q → bd_most_there { nx := fun _ => Q .none, rt := fun _ d _ => Q d } (startR nm_most_there xs) := fun xs Q ⟨way, row, ⟨e, ro, wo⟩, h⟩ => by
  subst e
  have rl := ro.len
  have ll := lv_len way row
  refine ⟨by decide, way, row, ⟨rfl, ro, wo⟩, ?_⟩
  refine ⟨by rw [List.length_map]; show 1 + (lv way row).length ≤ 100000; omega, (0 : Int) :: (lv way row).map (fun (i : Nat) => (i : Int)), by rw [natD_int]; rfl, by rw [List.length_cons]; omega, fun m h1 h2 => ?_⟩
  rw [max_nat h1 h2, lv_most way wo]
  exact h
theorem RowOk.rev {row : List Int} (w : RowOk row) : RowOk row.reverse := ⟨by
  have := w.nd
  unfold List.Nodup at this ⊢
  rw [List.pairwise_reverse]
  exact this.imp fun h => fun z => h z.symm, by rw [List.length_reverse]; exact w.len, fun x hx => w.rng x (List.mem_reverse.mp hx)⟩
theorem mlen_tails_there : ∀ xs Q, m_tails_there xs Q → xs.length = ps_tails_there.length := fun _ _ ⟨_, _, ⟨e, _⟩, _⟩ => by rw [e]; rfl
theorem math_tails_there : ∀ xs Q, m_tails_there xs Q → bd_tails_there { nx := fun _ => Q .none, rt := fun _ d _ => Q d } (startR nm_tails_there xs) := fun xs Q ⟨way, row, ⟨e, ro, wo⟩, h⟩ => by
  subst e
  refine ⟨-way, row.reverse, ⟨?_, ro.rev, neg_ok wo⟩, ?_⟩
  · show [PyData.list (row.map PyData.int).reverse, .int (0 - way)] = _
    rw [← List.map_reverse, Int.zero_sub]
    rfl
  · show Q (.list ((lv (-way) row.reverse).map natD).reverse)
    rw [← List.map_reverse]
    unfold lv
    rw [Int.neg_neg, List.reverse_reverse, List.reverse_reverse]
    exact h
end K22

set_option Elab.async false
set_option linter.all false
set_option maxRecDepth 100000
set_option maxHeartbeats 1000000
namespace K22
open PySem L2 Evl PyProof.Rows RZ DL
theorem zip_range : ∀ (t : List Int) (bs : List Nat), t.length = bs.length → t.zip bs = (List.range t.length).map fun j => (gt t j, bs.getD j 0) := fun t bs h => by
  refine List.ext_getElem (by rw [List.length_zip, List.length_map, List.length_range]; omega) fun i h1 h2 => ?_
  rw [List.length_zip] at h1
  rw [List.getElem_zip, List.getElem_map, List.getElem_range]
  unfold gt
  rw [List.getD_eq_getElem?_getD, List.getD_eq_getElem?_getD, List.getElem?_eq_getElem (by omega), List.getElem?_eq_getElem (by omega)]
  rfl
theorem sel_range (way a : Int) (t : List Int) (bs : List Nat) (h : t.length = bs.length) : sel way a t bs = ((List.range t.length).filter fun j => up way a (gt t j)).map fun j => bs.getD j 0 := by
  unfold sel
  rw [zip_range t bs h, List.filter_map, List.map_map]
  rfl
theorem bh_drop (way : Int) : ∀ (row : List Int) (j : Nat), bh way (row.drop j) = (bh way row).drop j
  | row, 0 => rfl
  | [], j + 1 => rfl
  | a :: t, j + 1 => bh_drop way t j
theorem drop_at (row : List Int) {i : Nat} (h : i < row.length) : row.drop i = gt row i :: row.drop (i + 1) := by
  rw [List.drop_eq_getElem_cons h]
  congr 1
  unfold gt
  rw [List.getD_eq_getElem?_getD, List.getElem?_eq_getElem h]
  rfl
theorem gt_drop (row : List Int) (i j : Nat) : gt (row.drop i) j = gt row (i + j) := by
  unfold gt
  rw [List.getD_eq_getElem?_getD, List.getD_eq_getElem?_getD, List.getElem?_drop]
theorem bh_at (way : Int) (row : List Int) {i : Nat} (h : i < row.length) : bh way (row.drop i) = (1 + mxN (((List.range (row.length - (i + 1))).filter fun j => up way (gt row i) (gt row (i + 1 + j))).map fun j => (bh way (row.drop (i + 1))).getD j 0)) :: bh way (row.drop (i + 1)) := by
  rw [drop_at row h]
  show (1 + mxN (sel way (gt row i) (row.drop (i + 1)) (bh way (row.drop (i + 1))))) :: _ = _
  rw [sel_range way (gt row i) _ _ (bh_len way _).symm, List.length_drop]
  have e : ∀ j, up way (gt row i) (gt (row.drop (i + 1)) j) = up way (gt row i) (gt row (i + 1 + j)) := fun j => by rw [gt_drop]
  rw [funext e]
theorem zip_rev {α β : Type} (l : List α) (m : List β) (h : l.length = m.length) : l.reverse.zip m.reverse = (l.zip m).reverse := by
  refine List.ext_getElem (by rw [List.length_zip, List.length_reverse, List.length_reverse, List.length_reverse, List.length_zip]) fun i h1 h2 => ?_
  rw [List.length_zip, List.length_reverse, List.length_reverse] at h1
  rw [List.getElem_zip, List.getElem_reverse, List.getElem_reverse, List.getElem_reverse, List.getElem_zip]
  have e : (l.zip m).length = l.length := by rw [List.length_zip]; omega
  congr 2
  · rw [e]
  · rw [e, h]
theorem filter_rev {α : Type} (p : α → Bool) (l : List α) : l.reverse.filter p = (l.filter p).reverse := by
  rw [List.filter_reverse]
/-- the levels, one more -/
theorem lv_succ (way : Int) (row : List Int) {i : Nat} (h : i < row.length) : lv way (row.take (i + 1)) = lv way (row.take i) ++ [1 + mxN (((List.range i).filter fun j => up way (gt row j) (gt row i)).map fun j => (lv way (row.take i)).getD j 0)] := by
  have et : row.take (i + 1) = row.take i ++ [gt row i] := by
    refine take_at ?_
    rw [List.getElem?_eq_getElem h]
    unfold gt
    rw [List.getD_eq_getElem?_getD, List.getElem?_eq_getElem h]
    rfl
  have tl : (row.take i).length = i := by rw [List.length_take]; omega
  unfold lv
  rw [et, List.reverse_append]
  show ((1 + mxN (sel (-way) (gt row i) (row.take i).reverse (bh (-way) (row.take i).reverse))) :: bh (-way) (row.take i).reverse).reverse = _
  rw [List.reverse_cons]
  congr 3
  have hl : (bh (-way) (row.take i).reverse).length = (row.take i).length := by rw [bh_len, List.length_reverse]
  have e : sel (-way) (gt row i) (row.take i).reverse (bh (-way) (row.take i).reverse) = ((((row.take i).zip (bh (-way) (row.take i).reverse).reverse).filter fun p => up way p.1 (gt row i)).map (·.2)).reverse := by
    unfold sel
    have z : (row.take i).reverse.zip (bh (-way) (row.take i).reverse) = ((row.take i).zip (bh (-way) (row.take i).reverse).reverse).reverse := by
      rw [← zip_rev _ _ (by rw [List.length_reverse, hl]), List.reverse_reverse]
    rw [z, filter_rev, ← List.map_reverse]
    congr 2
    refine congrArg (fun f => List.filter f _) ?_
    funext p
    exact up_neg _ _ _
  rw [e, mxN_reverse, zip_range _ _ (by rw [List.length_reverse, hl]), List.filter_map, List.map_map, tl]
  have ef : (List.range i).filter (fun j => up way (gt (row.take i) j) (gt row i)) = (List.range i).filter fun j => up way (gt row j) (gt row i) := by
    refine List.filter_congr fun j hj => ?_
    have hj := List.mem_range.mp hj
    have : gt (row.take i) j = gt row j := by
      unfold gt
      rw [List.getD_eq_getElem?_getD, List.getD_eq_getElem?_getD, List.getElem?_take_of_lt hj]
    rw [this]
  rw [← ef]
  rfl
/-! ### the first longest list -/
theorem bh_getD (way : Int) (row : List Int) {i : Nat} (h : i < row.length) : (bh way row).getD i 0 = 1 + mxN (((List.range (row.length - (i + 1))).filter fun j => up way (gt row i) (gt row (i + 1 + j))).map fun j => (bh way row).getD (i + 1 + j) 0) := by
  have e := bh_at way row h
  rw [bh_drop, bh_drop] at e
  have e2 : (bh way row).getD i 0 = ((bh way row).drop i).headD 0 := by
    rw [List.headD_eq_head?_getD, List.head?_drop, List.getD_eq_getElem?_getD]
  rw [e2, e]
  have ed : ∀ j, ((bh way row).drop (i + 1)).getD j 0 = (bh way row).getD (i + 1 + j) 0 := fun j => by rw [List.getD_eq_getElem?_getD, List.getD_eq_getElem?_getD, List.getElem?_drop]
  show 1 + mxN (List.map (fun j => ((bh way row).drop (i + 1)).getD j 0) _) = _
  rw [funext ed]
structure Fl (way : Int) (row : List Int) (k : Nat) : Prop where
  len : (firstL way row k).length = k
  last : ∀ l, (firstL way row k).getLast? = some l → l < row.length ∧ (bh way row).getD l 0 = most way row - k + 1
theorem nxt_ne {way : Int} {row : List Int} {k : Nat} (f : Fl way row k) (hk : k < most way row) : nxt way row (firstL way row k) (most way row - k) ≠ [] := by
  suffices h : ∃ j, j ∈ nxt way row (firstL way row k) (most way row - k) from fun z => by
    obtain ⟨j, hj⟩ := h
    rw [z] at hj
    cases hj
  unfold nxt
  cases q : (firstL way row k).getLast? with
  | none =>
    have k0 : k = 0 := by
      have := f.len
      rw [List.getLast?_eq_none_iff] at q
      rw [q] at this
      exact this.symm
    subst k0
    have m := mxN_mem (l := bh way row) (show 0 < most way row by omega)
    obtain ⟨i, hi⟩ := List.getElem?_of_mem m
    have il := (List.getElem?_eq_some_iff.mp hi).1
    rw [bh_len] at il
    refine ⟨i, List.mem_filter.mpr ⟨List.mem_range.mpr il, ?_⟩⟩
    rw [List.getD_eq_getElem?_getD, hi, Bool.and_true]
    exact decide_eq_true (Nat.sub_zero _).symm
  | some l =>
    obtain ⟨h1, h2⟩ := f.last l q
    have e := bh_getD way row h1
    rw [h2] at e
    have e3 : mxN (((List.range (row.length - (l + 1))).filter fun j => up way (gt row l) (gt row (l + 1 + j))).map fun j => (bh way row).getD (l + 1 + j) 0) = most way row - k := by omega
    have m := mxN_mem (l := ((List.range (row.length - (l + 1))).filter fun j => up way (gt row l) (gt row (l + 1 + j))).map fun j => (bh way row).getD (l + 1 + j) 0) (by rw [e3]; omega)
    rw [e3] at m
    obtain ⟨j, hj, ej⟩ := List.mem_map.mp m
    obtain ⟨j1, j2⟩ := List.mem_filter.mp hj
    have j1 := List.mem_range.mp j1
    refine ⟨l + 1 + j, List.mem_filter.mpr ⟨List.mem_range.mpr (by omega), ?_⟩⟩
    show (decide ((bh way row).getD (l + 1 + j) 0 = most way row - k) && (decide (l < l + 1 + j) && up way (gt row l) (gt row (l + 1 + j)))) = true
    rw [decide_eq_true ej, decide_eq_true (show l < l + 1 + j by omega), j2]
    rfl
theorem nxt_head {way : Int} {row : List Int} {k : Nat} (f : Fl way row k) (hk : k < most way row) : ∃ r, nxt way row (firstL way row k) (most way row - k) = (nxt way row (firstL way row k) (most way row - k)).headD 0 :: r := by
  have := nxt_ne f hk
  cases q : nxt way row (firstL way row k) (most way row - k) with
  | nil => exact absurd q this
  | cons a r => exact ⟨r, rfl⟩
theorem Fl.zero (way : Int) (row : List Int) : Fl way row 0 := ⟨rfl, fun l h => nomatch h⟩
theorem Fl.succ {way : Int} {row : List Int} {k : Nat} (f : Fl way row k) (hk : k < most way row) : Fl way row (k + 1) where
  len := by
    show (firstL way row k ++ [_]).length = k + 1
    rw [List.length_append, f.len]
    rfl
  last := fun l h => by
    have h : (firstL way row k ++ [(nxt way row (firstL way row k) (most way row - k)).headD 0]).getLast? = some l := h
    rw [List.getLast?_concat] at h
    obtain ⟨r, hr⟩ := nxt_head f hk
    have m : l ∈ nxt way row (firstL way row k) (most way row - k) := by
      rw [hr, ← Option.some.inj h]
      exact List.mem_cons_self
    unfold nxt at m
    obtain ⟨m1, m2⟩ := List.mem_filter.mp m
    rw [Bool.and_eq_true] at m2
    refine ⟨List.mem_range.mp m1, ?_⟩
    rw [of_decide_eq_true m2.1]
    omega
theorem fl_all (way : Int) (row : List Int) : ∀ k, k ≤ most way row → Fl way row k
  | 0, _ => Fl.zero way row
  | k + 1, h => (fl_all way row k (by omega)).succ (by omega)
end K22

set_option Elab.async false
set_option linter.all false
set_option maxRecDepth 100000
set_option maxHeartbeats 1000000
set_option exponentiation.threshold 5000
namespace K22
open PySem L2 Evl PyProof.Rows RZ DL
theorem dints_len (row : List Int) : (row.map PyData.int).length = row.length := List.length_map _
theorem mlen_levels_there : ∀ xs Q, m_levels_there xs Q → xs.length = ps_levels_there.length := fun _ _ ⟨_, _, ⟨e, _⟩, _⟩ => by rw [e]; rfl
theorem math_levels_there : ∀ xs Q, m_levels_there xs Q → bd_levels_there { nx := fun _ => Q .none, rt := fun _ d _ => Q d } (startR nm_levels_there xs) := fun xs Q ⟨way, row, ⟨e, ro, wo⟩, h⟩ => by
  subst e
  have rl := ro.len
  have hn := dints_len row
  refine ⟨by decide, ?_⟩
  refine ⟨by omega, by omega, fun i ρ => ∃ s3, ρ = [.val (dints row), .val (.int way), .own ((lv way (row.take i)).map natD), s3, .no], ⟨.no, rfl⟩, ?_, ?_⟩
  · rintro i x ρ hi ⟨s3, rfl⟩
    obtain ⟨hi1, rfl⟩ := rngD_at hi
    have hi2 : i < row.length := by omega
    have ll : (lv way (row.take i)).length = i := by rw [lv_len, List.length_take]; omega
    rw [Int.zero_add]
    refine ⟨by decide, ?_⟩
    refine ⟨by omega, by omega, fun k ρ acc => ρ = [.val (dints row), .val (.int way), .own ((lv way (row.take i)).map natD), .val (.int (i : Int)), .no] ∧ acc = (((List.range k).filter fun j => up way (gt row j) (gt row i)).map fun j => (lv way (row.take i)).getD j 0).map natD, ⟨rfl, rfl⟩, ?_, ?_⟩
    · rintro k x ρ acc hk ⟨rfl, rfl⟩
      obtain ⟨hk1, rfl⟩ := rngD_at hk
      have hk2 : k < i := by omega
      have fl := filt_len (fun j => up way (gt row j) (gt row i)) k
      have fs := filt_succ (fun j => up way (gt row j) (gt row i)) k
      rw [Int.zero_add]
      refine ⟨way, row, k, i, ⟨rfl, ro, wo⟩, by omega, hi2, ?_⟩
      cases y : up way (gt row k) (gt row i) with
      | true =>
        refine ⟨_, at_nat _ (k := k) (by omega) rfl, ?_⟩
        refine ⟨by rw [List.length_map, List.length_map]; omega, rfl, ?_⟩
        rw [fs, if_pos y, List.map_append, List.map_append]
        rfl
      | false =>
        refine ⟨rfl, ?_⟩
        rw [fs, if_neg (by rw [y]; exact Bool.false_ne_true), List.append_nil]
    · rintro ρ acc ⟨rfl, rfl⟩
      rw [rngD_len, Int.toNat_natCast]
      have fl := filt_len (fun j => up way (gt row j) (gt row i)) i
      refine ⟨by rw [List.length_map, List.length_map]; show 1 + _ ≤ 100000; omega, (0 : Int) :: (((List.range i).filter fun j => up way (gt row j) (gt row i)).map fun j => (lv way (row.take i)).getD j 0).map (fun (i : Nat) => (i : Int)), by rw [natD_int]; rfl, by rw [List.length_cons]; omega, fun m h1 h2 => ?_⟩
      rw [max_nat h1 h2]
      refine ⟨by rw [List.length_map]; omega, .val (.int (i : Int)), ?_⟩
      rw [lv_succ way row hi2, List.map_append]
      have en : natD (1 + mxN (((List.range i).filter fun j => up way (gt row j) (gt row i)).map fun j => (lv way (row.take i)).getD j 0)) = .int (1 + ((mxN (((List.range i).filter fun j => up way (gt row j) (gt row i)).map fun j => (lv way (row.take i)).getD j 0) : Nat) : Int)) := by
        unfold natD
        rw [Int.natCast_add]
        rfl
      rw [← en]
      rfl
  · rintro ρ ⟨s3, rfl⟩
    rw [rngD_len]
    have en : (((row.map PyData.int).length : Int)).toNat = row.length := by omega
    rw [en, List.take_length]
    exact h
theorem getLast_neg (l : List Nat) (h : l ≠ []) : atI (l.map natD) (-1) = some (natD (l.getLast?.getD 0)) := by
  have hl : 0 < l.length := List.length_pos_iff.mpr h
  unfold atI ixN
  rw [List.length_map, if_neg (by omega), if_pos (by omega)]
  show (l.map natD)[((-1 : Int) + (l.length : Int)).toNat]? = _
  have e : ((-1 : Int) + (l.length : Int)).toNat = l.length - 1 := by omega
  rw [e, List.getElem?_map, List.getLast?_eq_getElem?, List.getElem?_eq_getElem (by omega)]
  rfl
theorem getLast_at (l : List Nat) (h : l ≠ []) {z : Int} (hz : z = (l.length : Int) - 1) : atI (l.map natD) z = some (natD (l.getLast?.getD 0)) := by
  have hl : 0 < l.length := List.length_pos_iff.mpr h
  rw [at_nat l (k := l.length - 1) (by omega) (by omega), List.getLast?_eq_getElem?, List.getD_eq_getElem?_getD]
theorem fit_nats (n : Nat) {l : List Nat} (h : l.length ≤ 100000) : fitD (n + 2) (natsD l) = true := by
  unfold natsD fitD
  rw [decide_eq_true (by rw [List.length_map]; exact h), Bool.true_and]
  refine fitAll_of fun d hd => ?_
  obtain ⟨i, _, rfl⟩ := List.mem_map.mp hd
  unfold natD fitD
  rfl
end K22

set_option Elab.async false
set_option linter.all false
set_option maxRecDepth 100000
set_option maxHeartbeats 1000000
namespace K22
open PySem L2 Evl PyProof.Rows RZ DL
theorem fit_lay : ∀ (n : Nat) (d : PyData), fitD n d = true → d.canLay0 = true ∧ d.depth ≤ n
  | 0, d, h => by unfold fitD at h; cases h
  | n + 1, d, h => by
    have all : ∀ ds : List PyData, fitAll n ds = true → PyData.canLayAll0 ds = true ∧ PyData.depthAll ds ≤ n := by
      intro ds
      induction ds with
      | nil => intro _; exact ⟨by simp only [PyData.canLayAll0], by simp only [PyData.depthAll]; omega⟩
      | cons e r ih =>
        intro h
        unfold fitAll at h
        rw [Bool.and_eq_true] at h
        have h1 := fit_lay n e h.1
        have h2 := ih h.2
        refine ⟨by simp only [PyData.canLayAll0, h1.1, h2.1, Bool.and_true], ?_⟩
        simp only [PyData.depthAll]
        omega
    cases d with
    | dict _ => unfold fitD at h; cases h
    | list ds =>
      have f : (decide (ds.length ≤ 100000) && fitAll n ds) = true := by unfold fitD at h; exact h
      rw [Bool.and_eq_true] at f
      have z := all ds f.2
      exact ⟨by simp only [PyData.canLay0]; exact z.1, by simp only [PyData.depth]; omega⟩
    | tuple ds =>
      have f : (decide (ds.length ≤ 100000) && fitAll n ds) = true := by unfold fitD at h; exact h
      rw [Bool.and_eq_true] at f
      have z := all ds f.2
      exact ⟨by simp only [PyData.canLay0]; exact z.1, by simp only [PyData.depth]; omega⟩
    | none => exact ⟨by simp only [PyData.canLay0], by simp only [PyData.depth]; omega⟩
    | bool b => exact ⟨by simp only [PyData.canLay0], by simp only [PyData.depth]; omega⟩
    | int i => exact ⟨by simp only [PyData.canLay0], by simp only [PyData.depth]; omega⟩
    | str x =>
      have f : SeqAt.shaped (.str x) = true := by unfold fitD at h; exact h
      exact ⟨SeqAt.canLay_of_shaped f, by simp only [PyData.depth]; omega⟩
theorem fit_shaped {n : Nat} {d : PyData} (h : fitD n d = true) (hn : n ≤ 64) : SeqAt.shaped d = true := by
  have z := fit_lay n d h
  unfold SeqAt.shaped
  rw [Bool.and_eq_true, decide_eq_true_eq]
  exact ⟨z.1, by omega⟩
theorem fit_list {n : Nat} {ds : List PyData} (hl : ds.length ≤ 100000) (h : ∀ d ∈ ds, fitD n d = true) : fitD (n + 1) (.list ds) = true := by
  unfold fitD
  rw [decide_eq_true hl, fitAll_of h]
  rfl
theorem fit_tuple {n : Nat} {ds : List PyData} (hl : ds.length ≤ 100000) (h : ∀ d ∈ ds, fitD n d = true) : fitD (n + 1) (.tuple ds) = true := by
  unfold fitD
  rw [decide_eq_true hl, fitAll_of h]
  rfl
theorem fit_int (n : Nat) (i : Int) : fitD (n + 1) (.int i) = true := by unfold fitD; rfl
theorem fit_dints (n : Nat) {cs : List Int} (h : cs.length ≤ 100000) : fitD (n + 2) (dints cs) = true := fit_list (by rw [List.length_map]; exact h) fun d hd => by
  obtain ⟨c, _, rfl⟩ := List.mem_map.mp hd
  exact fit_int n c
theorem shaped_nats {l : List Nat} (h : l.length ≤ 100000) : SeqAt.shaped (.list (l.map natD)) = true := fit_shaped (fit_nats 0 h) (by decide)
theorem eqv_empL (ds : List PyData) : PyData.eqv (.list ds) (.list []) = decide (ds = []) := by
  cases ds with
  | nil => rfl
  | cons _ _ => rfl
theorem stepD_at {lo c : Int} {n i : Nat} {x : PyData} (h : (stepD lo c n)[i]? = some x) : i < n ∧ x = .int (lo + (i : Int) * c) := by
  unfold stepD at h
  obtain ⟨a, ha, rfl⟩ := map_at h
  obtain ⟨h1, h2⟩ := List.getElem?_eq_some_iff.mp ha
  rw [List.length_range] at h1
  rw [List.getElem_range] at h2
  subst h2
  exact ⟨h1, rfl⟩
theorem stepD_len (lo c : Int) (n : Nat) : (stepD lo c n).length = n := by unfold stepD; rw [List.length_map, List.length_range]
/-- what may come behind what was found -/
def aft (way : Int) (row : List Int) (found : List Nat) (k : Nat) : Bool := match found.getLast? with
  | none => true
  | some l => decide (l < k) && up way (gt row l) (gt row k)
theorem nxt_eq (way : Int) (row : List Int) (found : List Nat) (left : Nat) : nxt way row found left = ((List.range row.length).filter (aft way row found)).filter fun k => decide ((bh way row).getD k 0 = left) := by
  rw [List.filter_filter]
  rfl
theorem last_some {l : List Nat} (h : l ≠ []) : l.getLast? = some (l.getLast?.getD 0) := by
  cases q : l.getLast? with
  | none => exact absurd (List.getLast?_eq_none_iff.mp q) h
  | some a => rfl
end K22

set_option Elab.async false
set_option linter.all false
set_option maxRecDepth 100000
set_option maxHeartbeats 1000000
set_option exponentiation.threshold 5000
namespace K22
open PySem L2 Evl PyProof.Rows RZ DL
theorem mlen_first_longest : ∀ xs Q, m_first_longest xs Q → xs.length = ps_first_longest.length := fun _ _ ⟨_, _, ⟨e, _⟩, _⟩ => by rw [e]; rfl
theorem math_first_longest : ∀ xs Q, m_first_longest xs Q → bd_first_longest { nx := fun _ => Q .none, rt := fun _ d _ => Q d } (startR nm_first_longest xs) := fun xs Q ⟨way, row, ⟨e, ro, wo⟩, h⟩ => by
  subst e
  have rl := ro.len
  have hn := dints_len row
  have ml := most_le way row
  refine ⟨way, row, ⟨rfl, ro, wo⟩, ?_⟩
  refine ⟨way, row, ⟨rfl, ro, wo⟩, by decide, ?_⟩
  refine ⟨way, row, ⟨rfl, ro, wo⟩, _, _, _, _, rfl, rfl, rfl, RgC.neg (by omega) (by omega) (by decide) (by decide), ?_⟩
  have en : ((most way row : Int) - 0).toNat = most way row := by omega
  rw [en]
  refine ⟨fun i ρ => ∃ s4 s5, ρ = [.val (dints row), .val (.int way), .val (natsD (bh way row)), .own ((firstL way row i).map natD), s4, s5, .no], ⟨.no, .no, rfl⟩, ?_, ?_⟩
  · rintro i x ρ hi ⟨s4, s5, rfl⟩
    obtain ⟨hi1, rfl⟩ := stepD_at hi
    have fl := fl_all way row i (by omega)
    have fe := fl.len
    have ei : (most way row : Int) + (i : Int) * -1 = ((most way row - i : Nat) : Int) := by omega
    rw [ei]
    have sh : SeqAt.shaped (.list ((firstL way row i).map natD)) = true := shaped_nats (by omega)
    refine ⟨by omega, by omega, fun k ρ acc => ρ = [.val (dints row), .val (.int way), .val (natsD (bh way row)), .own ((firstL way row i).map natD), .val (natD (most way row - i)), s5, .no] ∧ acc = ((List.range k).filter (aft way row (firstL way row i))).map natD, ⟨rfl, rfl⟩, ?_, ?_⟩
    · rintro k x ρ acc hk ⟨rfl, rfl⟩
      obtain ⟨hk1, rfl⟩ := rngD_at hk
      have hk2 : k < row.length := by omega
      have ff := filt_len (aft way row (firstL way row i)) k
      have fs := filt_succ (aft way row (firstL way row i)) k
      rw [Int.zero_add]
      refine ⟨by decide, ⟨sh, rfl⟩, ?_⟩
      rw [eqv_empL]
      by_cases z : firstL way row i = []
      · rw [decide_eq_true (by rw [z]; rfl)]
        refine ⟨by rw [List.length_map]; omega, rfl, ?_⟩
        rw [fs, if_pos (by unfold aft; rw [z]; rfl), List.map_append]
        rfl
      · rw [decide_eq_false (fun q => z (List.map_eq_nil_iff.mp q))]
        have la := getLast_neg _ z
        have ls := last_some z
        have lb := (fl.last _ ls).1
        have ea : aft way row (firstL way row i) k = (decide ((firstL way row i).getLast?.getD 0 < k) && up way (gt row ((firstL way row i).getLast?.getD 0)) (gt row k)) := by
          unfold aft
          rw [ls]
          rfl
        generalize (firstL way row i).getLast?.getD 0 = l at la lb ea
        refine ⟨_, la, ?_⟩
        show (match (decide ((l : Int) < (k : Int))) with | true => _ | false => _)
        by_cases y : l < k
        · rw [decide_eq_true (by omega)]
          rw [decide_eq_true y, Bool.true_and] at ea
          refine ⟨_, la, way, row, l, k, ⟨rfl, ro, wo⟩, lb, hk2, ?_⟩
          cases w : up way (gt row l) (gt row k) with
          | true =>
            rw [w] at ea
            refine ⟨by rw [List.length_map]; omega, rfl, ?_⟩
            rw [fs, if_pos ea, List.map_append]
            rfl
          | false =>
            rw [w] at ea
            refine ⟨rfl, ?_⟩
            rw [fs, if_neg (by rw [ea]; exact Bool.false_ne_true), List.append_nil]
        · rw [decide_eq_false (by omega)]
          rw [decide_eq_false y, Bool.false_and] at ea
          refine ⟨rfl, ?_⟩
          rw [fs, if_neg (by rw [ea]; exact Bool.false_ne_true), List.append_nil]
    · rintro ρ acc ⟨rfl, rfl⟩
      rw [rngD_len]
      have en2 : (((row.map PyData.int).length : Int)).toNat = row.length := by omega
      rw [en2]
      generalize eL : (List.range row.length).filter (aft way row (firstL way row i)) = L
      have Lb : ∀ k ∈ L, k < row.length := fun k hk => by
        rw [← eL] at hk
        exact List.mem_range.mp (List.mem_filter.mp hk).1
      have Ll : L.length ≤ row.length := by
        rw [← eL]
        exact filt_len _ _
      have bl := bh_len way row
      refine ⟨fun j ρ acc => ρ = [.val (dints row), .val (.int way), .val (natsD (bh way row)), .own ((firstL way row i).map natD), .val (natD (most way row - i)), .val (natsD L), .no] ∧ acc = ((L.take j).filter fun k => decide ((bh way row).getD k 0 = most way row - i)).map natD, ⟨rfl, rfl⟩, ?_, ?_⟩
      · rintro j x ρ acc hj ⟨rfl, rfl⟩
        obtain ⟨k, hk, rfl⟩ := map_at hj
        have kb := Lb k (List.mem_of_getElem? hk)
        have jl := (List.getElem?_eq_some_iff.mp hj).1
        refine ⟨_, at_nat (bh way row) (k := k) (by omega) rfl, ⟨rfl, rfl⟩, ?_⟩
        rw [show PyData.eqv (natD ((bh way row).getD k 0)) (natD (most way row - i)) = decide (((bh way row).getD k 0 : Int) = ((most way row - i : Nat) : Int)) from eqv_int _ _]
        have tf := List.length_filter_le (fun k => decide ((bh way row).getD k 0 = most way row - i)) (L.take j)
        have tt : (L.take j).length ≤ L.length := by rw [List.length_take]; omega
        by_cases y : (bh way row).getD k 0 = most way row - i
        · rw [decide_eq_true (by omega)]
          refine ⟨by rw [List.length_map]; omega, rfl, ?_⟩
          rw [take_at hk, List.filter_append, List.map_append, List.filter_cons, if_pos (decide_eq_true y)]
          rfl
        · rw [decide_eq_false (by omega)]
          refine ⟨rfl, ?_⟩
          rw [take_at hk, List.filter_append, List.filter_cons, if_neg (by rw [decide_eq_false y]; exact Bool.false_ne_true), List.filter_nil, List.append_nil]
      · rintro ρ acc ⟨rfl, rfl⟩
        rw [List.length_map, List.take_length, ← eL, ← nxt_eq]
        obtain ⟨r, hr⟩ := nxt_head fl hi1
        have a0 : atI ((nxt way row (firstL way row i) (most way row - i)).map natD) 0 = some (natD ((nxt way row (firstL way row i) (most way row - i)).headD 0)) := by
          have e := at_nat (nxt way row (firstL way row i) (most way row - i)) (k := 0) (z := 0) (by rw [hr]; exact Nat.zero_lt_succ _) rfl
          rw [e]
          rw [hr]
          rfl
        refine ⟨_, a0, ?_⟩
        refine ⟨by rw [List.length_map]; omega, ?a, ?b, ?eq⟩
        case eq =>
          rw [show firstL way row (i + 1) = firstL way row i ++ [(nxt way row (firstL way row i) (most way row - i)).headD 0] from rfl, List.map_append]
          rfl
  · rintro ρ ⟨s4, s5, rfl⟩
    rw [stepD_len]
    exact h
end K22

set_option Elab.async false
set_option linter.all false
set_option maxRecDepth 100000
set_option maxHeartbeats 1000000
set_option exponentiation.threshold 5000
namespace K22
open PySem L2 Evl PyProof.Rows RZ DL
theorem rep_nat (n : Nat) (v : Nat) : repD n [natD v] = (List.replicate n v).map natD := by
  unfold repD
  rw [List.map_replicate]
  induction n with
  | zero => rfl
  | succ n ih =>
    rw [List.replicate_succ, List.flatten_cons, ih, List.replicate_succ]
    rfl
theorem ixN_nat {n j : Nat} {z : Int} (h : j < n) (e : z = (j : Int)) : ixN n z = some j := by
  subst e
  unfold ixN
  rw [if_pos (by omega), if_pos (by omega), Int.toNat_natCast]
/-- what stands behind, filled in from the end -/
def bhd (way : Int) (row : List Int) (m : Nat) : List Nat := List.replicate m 0 ++ bh way (row.drop m)
theorem bhd_len (way : Int) (row : List Int) {m : Nat} (h : m ≤ row.length) : (bhd way row m).length = row.length := by
  unfold bhd
  rw [List.length_append, List.length_replicate, bh_len, List.length_drop]
  omega
theorem bhd_getD (way : Int) (row : List Int) (m j : Nat) : (bhd way row m).getD (m + j) 0 = (bh way (row.drop m)).getD j 0 := by
  unfold bhd
  rw [List.getD_eq_getElem?_getD, List.getD_eq_getElem?_getD, List.getElem?_append_right (by rw [List.length_replicate]; omega), List.length_replicate, Nat.add_sub_cancel_left]
theorem bhd_set (way : Int) (row : List Int) {m : Nat} (h : m < row.length) : (bhd way row (m + 1)).set m (1 + mxN (((List.range (row.length - (m + 1))).filter fun j => up way (gt row m) (gt row (m + 1 + j))).map fun j => (bh way (row.drop (m + 1))).getD j 0)) = bhd way row m := by
  have e := bh_at way row h
  unfold bhd
  rw [e, List.replicate_succ', List.append_assoc, List.set_append_right m _ (by rw [List.length_replicate]; exact Nat.le_refl _), List.length_replicate, Nat.sub_self]
  rfl
theorem mem_head {l : List Nat} {r : List Nat} {a : Nat} (e : l = a :: r) (s : l.Pairwise (· < ·)) {m : Int} (h1 : m ∈ l.map fun (i : Nat) => (i : Int)) (h2 : ∀ y ∈ l.map (fun (i : Nat) => (i : Int)), m ≤ y) : m = (a : Int) := by
  subst e
  apply Int.le_antisymm
  · exact h2 _ List.mem_cons_self
  · obtain ⟨i, hi, rfl⟩ := List.mem_map.mp h1
    rcases List.mem_cons.mp hi with rfl | hi
    · omega
    · have := List.rel_of_pairwise_cons s hi
      omega
theorem mlen__law_first : ∀ xs Q, m__law_first xs Q → xs.length = ps__law_first.length := fun _ _ ⟨_, _, ⟨e, _⟩, _⟩ => by rw [e]; rfl
theorem math__law_first : ∀ xs Q, m__law_first xs Q → bd__law_first { nx := fun _ => Q .none, rt := fun _ d _ => Q d } (startR nm__law_first xs) := fun xs Q ⟨way, row, ⟨e, ro, wo⟩, h⟩ => by
  subst e
  have rl := ro.len
  have hn := dints_len row
  have ml := most_le way row
  have bl := bh_len way row
  refine ⟨by decide, ⟨by omega, by omega, ?_⟩, ?_⟩
  · show 1 * _ ≤ _
    omega
  have e0 : repD ((row.map PyData.int).length : Int).toNat [PyData.int 0] = (bhd way row row.length).map natD := by
    have := rep_nat row.length 0
    unfold bhd
    rw [List.drop_length, show bh way [] = [] from rfl, List.append_nil, ← this, hn, Int.toNat_natCast]
    rfl
  rw [e0]
  refine ⟨_, _, _, _, rfl, rfl, rfl, RgC.neg (by omega) (by omega) (by decide) (by decide), ?_⟩
  have en : ((((row.map PyData.int).length : Int) - 1) - (0 - 1)).toNat = row.length := by omega
  rw [en]
  refine ⟨fun i ρ => ∃ s3, ρ = [.val (dints row), .val (.int way), .own ((bhd way row (row.length - i)).map natD), s3, .no, .no, .no, .no, .no], ⟨.no, by rw [Nat.sub_zero]; rfl⟩, ?_, ?_⟩
  · rintro i x ρ hi ⟨s3, rfl⟩
    obtain ⟨hi1, rfl⟩ := stepD_at hi
    obtain ⟨m, hm, em⟩ : ∃ m, m < row.length ∧ row.length - i = m + 1 := ⟨row.length - i - 1, by omega, by omega⟩
    have ei : ((row.map PyData.int).length : Int) - 1 + (i : Int) * (0 - 1) = (m : Int) := by omega
    have em2 : row.length - (i + 1) = m := by omega
    rw [ei, em]
    have hb := bhd_len way row (m := m + 1) (by omega)
    refine ⟨by decide, ?_⟩
    refine ⟨by omega, ?_⟩
    refine ⟨fun k ρ acc => ρ = [.val (dints row), .val (.int way), .own ((bhd way row (m + 1)).map natD), .val (.int (m : Int)), .no, .no, .no, .no, .no] ∧ acc = (((List.range k).filter fun j => up way (gt row m) (gt row (m + 1 + j))).map fun j => (bh way (row.drop (m + 1))).getD j 0).map natD, ⟨rfl, rfl⟩, ?_, ?_⟩
    · rintro k x ρ acc hk ⟨rfl, rfl⟩
      obtain ⟨hk1, rfl⟩ := rngD_at hk
      have hk2 : m + 1 + k < row.length := by omega
      have fl := filt_len (fun j => up way (gt row m) (gt row (m + 1 + j))) k
      have fs := filt_succ (fun j => up way (gt row m) (gt row (m + 1 + j))) k
      have ek : (m : Int) + 1 + (k : Int) = ((m + 1 + k : Nat) : Int) := by omega
      rw [ek]
      refine ⟨way, row, m, m + 1 + k, ⟨rfl, ro, wo⟩, hm, hk2, ?_⟩
      rw [decide_eq_true (show m < m + 1 + k by omega), Bool.true_and]
      cases y : up way (gt row m) (gt row (m + 1 + k)) with
      | true =>
        refine ⟨_, at_nat _ (k := m + 1 + k) (by omega) rfl, ?_⟩
        refine ⟨by rw [List.length_map, List.length_map]; omega, rfl, ?_⟩
        rw [fs, if_pos y, List.map_append, List.map_append, bhd_getD]
        rfl
      | false =>
        refine ⟨rfl, ?_⟩
        rw [fs, if_neg (by rw [y]; exact Bool.false_ne_true), List.append_nil]
    · rintro ρ acc ⟨rfl, rfl⟩
      rw [rngD_len]
      have en3 : (((row.map PyData.int).length : Int) - ((m : Int) + 1)).toNat = row.length - (m + 1) := by omega
      rw [en3]
      have fl := filt_len (fun j => up way (gt row m) (gt row (m + 1 + j))) (row.length - (m + 1))
      have bs := bhd_set way row hm
      generalize eL : ((List.range (row.length - (m + 1))).filter fun j => up way (gt row m) (gt row (m + 1 + j))).map (fun j => (bh way (row.drop (m + 1))).getD j 0) = L at bs ⊢
      have Ll : L.length ≤ 400 := by rw [← eL, List.length_map]; omega
      refine ⟨by rw [List.length_map]; show 1 + _ ≤ 100000; omega, (0 : Int) :: L.map (fun (i : Nat) => (i : Int)), by rw [natD_int]; rfl, by rw [List.length_cons]; omega, fun z h1 h2 => ?_⟩
      rw [max_nat h1 h2]
      refine ⟨m, ixN_nat (by rw [List.length_map]; omega) rfl, ?a, ?eq⟩
      case eq =>
        rw [em2, ← bs]
        show _ = [Sl.val (dints row), .val (.int way), .own (((bhd way row (m + 1)).set m (1 + mxN L)).map natD), _, _, _, _, _, _]
        rw [List.map_set, show natD (1 + mxN L) = .int (1 + ((mxN L : Nat) : Int)) from by unfold natD; rw [Int.natCast_add]; rfl]
        rfl
  rintro ρ ⟨s3, rfl⟩
  rw [stepD_len, Nat.sub_self]
  have e1 : bhd way row 0 = bh way row := rfl
  rw [e1]
  refine ⟨by decide, by decide, ?_⟩
  refine ⟨by rw [List.length_map]; show 1 + _ ≤ 100000; omega, (0 : Int) :: (bh way row).map (fun (i : Nat) => (i : Int)), by rw [natD_int]; rfl, by rw [List.length_cons]; omega, fun z h1 h2 => ?_⟩
  rw [max_nat h1 h2]
  have em : mxN (bh way row) = most way row := rfl
  rw [em]
  refine ⟨by omega, by omega, fun i ρ => ∃ s3 s6 s7, ρ = [.val (dints row), .val (.int way), .own ((bh way row).map natD), s3, .own ((firstL way row i).map natD), .val (natD (most way row)), s6, s7, .no], ⟨s3, .no, .no, rfl⟩, ?_, ?_⟩
  · rintro i x ρ hi ⟨s3, s6, s7, rfl⟩
    obtain ⟨hi1, rfl⟩ := rngD_at hi
    have hi2 : i < most way row := by omega
    have fl := fl_all way row i (by omega)
    have fe := fl.len
    rw [Int.zero_add]
    have sh : SeqAt.shaped (.list ((firstL way row i).map natD)) = true := shaped_nats (by omega)
    refine ⟨by omega, by omega, fun k ρ acc => ρ = [.val (dints row), .val (.int way), .own ((bh way row).map natD), .no, .own ((firstL way row i).map natD), .val (natD (most way row)), .val (natD i), s7, .no] ∧ acc = ((List.range k).filter fun k => decide ((bh way row).getD k 0 = most way row - i) && aft way row (firstL way row i) k).map natD, ⟨rfl, rfl⟩, ?_, ?_⟩
    · rintro k x ρ acc hk ⟨rfl, rfl⟩
      obtain ⟨hk1, rfl⟩ := rngD_at hk
      have hk2 : k < row.length := by omega
      have ff := filt_len (fun k => decide ((bh way row).getD k 0 = most way row - i) && aft way row (firstL way row i) k) k
      have fs := filt_succ (fun k => decide ((bh way row).getD k 0 = most way row - i) && aft way row (firstL way row i) k) k
      rw [Int.zero_add]
      refine ⟨_, at_nat (bh way row) (k := k) (by omega) rfl, ⟨rfl, rfl⟩, ?_⟩
      rw [show PyData.eqv (natD ((bh way row).getD k 0)) (.int ((most way row : Int) - (i : Int))) = decide (((bh way row).getD k 0 : Int) = (most way row : Int) - (i : Int)) from eqv_int _ _]
      by_cases y : (bh way row).getD k 0 = most way row - i
      · rw [decide_eq_true (show ((bh way row).getD k 0 : Int) = (most way row : Int) - (i : Int) by omega)]
        simp only [decide_eq_true y, Bool.true_and] at fs
        refine ⟨by decide, ⟨sh, rfl⟩, ?_⟩
        rw [eqv_empL]
        by_cases z : firstL way row i = []
        · rw [decide_eq_true (by rw [z]; rfl)]
          refine ⟨by rw [List.length_map]; omega, rfl, ?_⟩
          rw [fs, if_pos (by unfold aft; rw [z]; rfl), List.map_append]
          rfl
        · rw [decide_eq_false (fun q => z (List.map_eq_nil_iff.mp q))]
          have la := getLast_at (firstL way row i) z (z := ((firstL way row i).map natD).length - 1) (by rw [List.length_map])
          have ls := last_some z
          have lb := (fl.last _ ls).1
          have ea : aft way row (firstL way row i) k = (decide ((firstL way row i).getLast?.getD 0 < k) && up way (gt row ((firstL way row i).getLast?.getD 0)) (gt row k)) := by
            unfold aft
            rw [ls]
            rfl
          generalize (firstL way row i).getLast?.getD 0 = l at la lb ea
          refine ⟨_, la, way, row, l, k, ⟨rfl, ro, wo⟩, lb, hk2, ?_⟩
          rw [← ea]
          cases w : aft way row (firstL way row i) k with
          | true =>
            refine ⟨by rw [List.length_map]; omega, rfl, ?_⟩
            rw [fs, if_pos w, List.map_append]
            rfl
          | false =>
            refine ⟨rfl, ?_⟩
            rw [fs, if_neg (by rw [w]; exact Bool.false_ne_true), List.append_nil]
      · rw [decide_eq_false (show ¬((bh way row).getD k 0 : Int) = (most way row : Int) - (i : Int) by omega)]
        simp only [decide_eq_false y, Bool.false_and] at fs
        refine ⟨rfl, ?_⟩
        rw [fs, if_neg Bool.false_ne_true, List.append_nil]
    · rintro ρ acc ⟨rfl, rfl⟩
      rw [rngD_len]
      have en2 : (((row.map PyData.int).length : Int)).toNat = row.length := by omega
      rw [en2]
      have eN : ((List.range row.length).filter fun k => decide ((bh way row).getD k 0 = most way row - i) && aft way row (firstL way row i) k) = nxt way row (firstL way row i) (most way row - i) := by
        rw [nxt_eq, List.filter_filter]
      rw [eN]
      obtain ⟨r, hr⟩ := nxt_head fl hi2
      have hs : (nxt way row (firstL way row i) (most way row - i)).Pairwise (· < ·) := by
        unfold nxt
        exact List.Pairwise.filter _ List.pairwise_lt_range
      refine ⟨(nxt way row (firstL way row i) (most way row - i)).map (fun (i : Nat) => (i : Int)), by rw [natD_int], by rw [hr, List.length_map]; exact Nat.zero_lt_succ _, fun z h1 h2 => ?_⟩
      rw [mem_head hr hs h1 h2]
      refine ⟨by rw [List.length_map]; omega, ?u1, ?u2, ?u3, ?eq2⟩
      case eq2 =>
        rw [show firstL way row (i + 1) = firstL way row i ++ [(nxt way row (firstL way row i) (most way row - i)).headD 0] from rfl, List.map_append]
        rfl
  rintro ρ ⟨s3, s6, s7, rfl⟩
  rw [rngD_len, Int.toNat_natCast]
  exact h
end K22

set_option Elab.async false
set_option linter.all false
set_option maxRecDepth 100000
set_option maxHeartbeats 1000000
namespace K22
open PySem L2 Evl PyProof.Rows RZ DL
/-! patience -/
def Inc (T : List Int) : Prop := ∀ (k l : Nat) (v w : Int), k < l → T[k]? = some v → T[l]? = some w → v < w
theorem cnt_lt (h : Int) : ∀ T : List Int, Inc T → ∀ k v, T[k]? = some v → (v < h ↔ k < (T.filter fun t => decide (t < h)).length)
  | [], _, _, _, e => nomatch e
  | a :: t, i, k, v, e => by
    have it : Inc t := fun k l v w kl h1 h2 => i (k + 1) (l + 1) v w (by omega) h1 h2
    rw [List.filter_cons]
    by_cases y : a < h
    · rw [if_pos (decide_eq_true y), List.length_cons]
      cases k with
      | zero => cases e; exact ⟨fun _ => by omega, fun _ => y⟩
      | succ k =>
        have := cnt_lt h t it k v e
        omega
    · rw [if_neg (by rw [decide_eq_false y]; exact Bool.false_ne_true)]
      have z : t.filter (fun t => decide (t < h)) = [] := by
        refine List.filter_eq_nil_iff.mpr fun x hx => ?_
        obtain ⟨l, hl⟩ := List.getElem?_of_mem hx
        have := i 0 (l + 1) a x (by omega) rfl hl
        rw [decide_eq_true_eq]
        omega
      rw [z]
      have : a ≤ v := by
        cases k with
        | zero => cases e; omega
        | succ k => have := i 0 (k + 1) a v (by omega) rfl e; omega
      refine ⟨fun q => by omega, fun q => absurd q (Nat.not_lt_zero _)⟩
def put (T : List Int) (a : Nat) (h : Int) : List Int := if a = T.length then T ++ [h] else T.set a h
theorem put_at {T : List Int} {a : Nat} (h : Int) (ha : a ≤ T.length) (k : Nat) : (put T a h)[k]? = if k = a then some h else T[k]? := by
  unfold put
  by_cases z : a = T.length
  · rw [if_pos z]
    by_cases y : k = a
    · rw [if_pos y, y, z, List.getElem?_append_right (Nat.le_refl _), Nat.sub_self]
      rfl
    · rw [if_neg y]
      by_cases w : k < T.length
      · rw [List.getElem?_append_left w]
      · rw [List.getElem?_eq_none (by rw [List.length_append]; show T.length + 1 ≤ k; omega), List.getElem?_eq_none (by omega)]
  · rw [if_neg z]
    by_cases y : k = a
    · rw [if_pos y, y, List.getElem?_set_self (by omega)]
    · rw [if_neg y, List.getElem?_set_ne (fun q => y q.symm)]
structure Pat (way : Int) (row : List Int) (i : Nat) (T : List Int) : Prop where
  inc : Inc T
  low : ∀ j, j < i → ∃ v, T[(lv way (row.take i)).getD j 0 - 1]? = some v ∧ v ≤ gt row j * way
  has : ∀ k v, T[k]? = some v → ∃ j, j < i ∧ (lv way (row.take i)).getD j 0 = k + 1 ∧ gt row j * way = v
theorem Pat.zero (way : Int) (row : List Int) : Pat way row 0 [] := ⟨fun _ _ _ _ _ h => (nomatch h), fun _ h => absurd h (Nat.not_lt_zero _), fun _ _ h => (nomatch h)⟩
theorem up_mul (way x y : Int) : up way x y = decide (x * way < y * way) := by
  unfold up
  refine decide_eq_decide.mpr ?_
  rw [Int.sub_mul]
  omega
theorem lv_pos (way : Int) (row : List Int) {j : Nat} (h : j < row.length) : 1 ≤ (lv way row).getD j 0 := by
  have hl := lv_len way row
  rw [List.getD_eq_getElem?_getD, List.getElem?_eq_getElem (by omega)]
  have m : (lv way row)[j] ∈ lv way row := List.getElem_mem _
  refine bh_pos (-way) row.reverse _ ?_
  unfold lv at m ⊢
  exact List.mem_reverse.mp m
def cnt (T : List Int) (h : Int) : Nat := (T.filter fun t => decide (t < h)).length
theorem cnt_le (T : List Int) (h : Int) : cnt T h ≤ T.length := List.length_filter_le _ _
theorem Pat.top {way : Int} {row : List Int} {i : Nat} {T : List Int} (p : Pat way row i T) (hi : i < row.length) : mxN (((List.range i).filter fun j => up way (gt row j) (gt row i)).map fun j => (lv way (row.take i)).getD j 0) = cnt T (gt row i * way) := by
  have tl : (row.take i).length = i := by rw [List.length_take]; omega
  apply Nat.le_antisymm
  · refine mxN_le fun x hx => ?_
    obtain ⟨j, hj, rfl⟩ := List.mem_map.mp hx
    obtain ⟨h1, h2⟩ := List.mem_filter.mp hj
    have h1 := List.mem_range.mp h1
    rw [up_mul] at h2
    have h2 := of_decide_eq_true h2
    obtain ⟨v, h3, h4⟩ := p.low j h1
    have h5 := (cnt_lt (gt row i * way) T p.inc _ v h3).mp (by omega)
    have h6 := lv_pos way (row.take i) (j := j) (by omega)
    show _ ≤ (T.filter fun t => decide (t < gt row i * way)).length
    omega
  · by_cases z : cnt T (gt row i * way) = 0
    · omega
    · have cl := cnt_le T (gt row i * way)
      have e : T[cnt T (gt row i * way) - 1]? = some T[cnt T (gt row i * way) - 1] := List.getElem?_eq_getElem (by omega)
      have h1 := (cnt_lt (gt row i * way) T p.inc _ _ e).mpr (by unfold cnt at z ⊢; omega)
      obtain ⟨j, j1, j2, j3⟩ := p.has _ _ e
      refine le_mxN (List.mem_map.mpr ⟨j, List.mem_filter.mpr ⟨List.mem_range.mpr j1, ?_⟩, by omega⟩)
      rw [up_mul, j3]
      exact decide_eq_true h1
theorem getD_app1 (l : List Nat) (a : Nat) {j : Nat} (h : j < l.length) : (l ++ [a]).getD j 0 = l.getD j 0 := by
  rw [List.getD_eq_getElem?_getD, List.getD_eq_getElem?_getD, List.getElem?_append_left h]
theorem getD_app2 (l : List Nat) (a : Nat) {j : Nat} (h : j = l.length) : (l ++ [a]).getD j 0 = a := by
  rw [List.getD_eq_getElem?_getD, h, List.getElem?_append_right (Nat.le_refl _), Nat.sub_self]
  rfl
theorem Pat.lvs {way : Int} {row : List Int} {i : Nat} {T : List Int} (p : Pat way row i T) (hi : i < row.length) : lv way (row.take (i + 1)) = lv way (row.take i) ++ [cnt T (gt row i * way) + 1] := by
  rw [lv_succ way row hi, p.top hi, Nat.add_comm]
theorem Pat.succ {way : Int} {row : List Int} {i : Nat} {T : List Int} (p : Pat way row i T) (hi : i < row.length) : Pat way row (i + 1) (put T (cnt T (gt row i * way)) (gt row i * way)) := by
  have hl := p.lvs hi
  have tl : (row.take i).length = i := by rw [List.length_take]; omega
  have ll := lv_len way (row.take i)
  rw [tl] at ll
  have cl := cnt_le T (gt row i * way)
  have pa := put_at (T := T) (gt row i * way) cl
  have cc := fun k v h => cnt_lt (gt row i * way) T p.inc k v h
  have ce : (T.filter fun t => decide (t < gt row i * way)).length = cnt T (gt row i * way) := rfl
  rw [ce] at cc
  generalize cnt T (gt row i * way) = c at *
  refine ⟨fun k l v w kl h1 h2 => ?_, fun j hj => ?_, fun k v h => ?_⟩
  · rw [pa] at h1 h2
    by_cases a : k = c
    · rw [if_pos a] at h1
      rw [if_neg (by omega)] at h2
      cases h1
      have hw := cc l w h2
      have kk : k < T.length := by
        have := (List.getElem?_eq_some_iff.mp h2).1
        omega
      have h3 := p.inc k l T[k] w kl (List.getElem?_eq_getElem kk) h2
      have h4 := cc k T[k] (List.getElem?_eq_getElem kk)
      omega
    · rw [if_neg a] at h1
      by_cases b : l = c
      · rw [if_pos b] at h2
        cases h2
        exact (cc k v h1).mpr (by omega)
      · rw [if_neg b] at h2
        exact p.inc k l v w kl h1 h2
  · rw [hl]
    by_cases a : j = i
    · subst a
      rw [getD_app2 _ _ ll.symm, Nat.add_sub_cancel, pa, if_pos rfl]
      exact ⟨_, rfl, Int.le_refl _⟩
    · rw [getD_app1 _ _ (by omega), pa]
      obtain ⟨v, h1, h2⟩ := p.low j (by omega)
      by_cases b : (lv way (row.take i)).getD j 0 - 1 = c
      · rw [if_pos b]
        have := cc _ v h1
        exact ⟨_, rfl, by omega⟩
      · rw [if_neg b]
        exact ⟨v, h1, h2⟩
  · rw [pa] at h
    rw [hl]
    by_cases a : k = c
    · rw [if_pos a] at h
      cases h
      refine ⟨i, by omega, ?_, rfl⟩
      rw [getD_app2 _ _ ll.symm, a]
    · rw [if_neg a] at h
      obtain ⟨j, h1, h2, h3⟩ := p.has k v h
      exact ⟨j, by omega, by rw [getD_app1 _ _ (by omega)]; exact h2, h3⟩
theorem Pat.lenT {way : Int} {row : List Int} {i : Nat} {T : List Int} (p : Pat way row i T) (hi : i ≤ row.length) : T.length = mxN (lv way (row.take i)) := by
  have tl : (row.take i).length = i := by rw [List.length_take]; omega
  have ll := lv_len way (row.take i)
  rw [tl] at ll
  apply Nat.le_antisymm
  · by_cases z : T.length = 0
    · omega
    · obtain ⟨j, h1, h2, h3⟩ := p.has (T.length - 1) T[T.length - 1] (List.getElem?_eq_getElem (by omega))
      have m : (lv way (row.take i)).getD j 0 ∈ lv way (row.take i) := by
        rw [List.getD_eq_getElem?_getD, List.getElem?_eq_getElem (by omega)]
        exact List.getElem_mem _
      have := le_mxN m
      omega
  · refine mxN_le fun x hx => ?_
    obtain ⟨j, hj⟩ := List.getElem?_of_mem hx
    have jl := (List.getElem?_eq_some_iff.mp hj).1
    obtain ⟨v, h1, h2⟩ := p.low j (by omega)
    rw [List.getD_eq_getElem?_getD, hj] at h1
    have h1 : T[x - 1]? = some v := h1
    have := (List.getElem?_eq_some_iff.mp h1).1
    have := lv_pos way (row.take i) (j := j) (by omega)
    rw [List.getD_eq_getElem?_getD, hj] at this
    have : 1 ≤ x := this
    omega
/-- the values are the tops -/
theorem Pat.lenle {way : Int} {row : List Int} {i : Nat} {T : List Int} (p : Pat way row i T) (hi : i ≤ row.length) : T.length ≤ i := by
  rw [p.lenT hi]
  have tl : (row.take i).length = i := by rw [List.length_take]; omega
  have := bh_le (-way) (row.take i).reverse
  rw [List.length_reverse, tl] at this
  refine mxN_le fun x hx => this x ?_
  unfold lv at hx
  exact List.mem_reverse.mp hx
end K22

set_option Elab.async false
set_option linter.all false
set_option maxRecDepth 100000
set_option maxHeartbeats 1000000
set_option exponentiation.threshold 5000
namespace K22
open PySem L2 Evl PyProof.Rows RZ DL
theorem take_self {α : Type} {l : List α} {k : Nat} (h : l.length ≤ k) : l.take k = l := List.take_of_length_le h
theorem mul_b {x way : Int} (h : -(2 ^ 60) < x ∧ x < 2 ^ 60) (wo : WayOk way) : -(2 ^ 60) < x * way ∧ x * way < 2 ^ 60 := by
  rcases wo with rfl | rfl <;> omega
theorem mlen__law_levels : ∀ xs Q, m__law_levels xs Q → xs.length = ps__law_levels.length := fun _ _ ⟨_, _, ⟨e, _⟩, _⟩ => by rw [e]; rfl
theorem math__law_levels : ∀ xs Q, m__law_levels xs Q → bd__law_levels { nx := fun _ => Q .none, rt := fun _ d _ => Q d } (startR nm__law_levels xs) := fun xs Q ⟨way, row, ⟨e, ro, wo⟩, h⟩ => by
  subst e
  have rl := ro.len
  have hn := dints_len row
  refine ⟨by decide, by decide, ?_⟩
  refine ⟨fun i ρ => ∃ T s4 s5 s6, Pat way row i T ∧ ρ = [.val (dints row), .val (.int way), .own (T.map PyData.int), .own ((lv way (row.take i)).map natD), s4, s5, s6, .no], ⟨[], .no, .no, .no, Pat.zero way row, rfl⟩, ?_, ?_⟩
  · rintro i x ρ hi ⟨T, s4, s5, s6, p, rfl⟩
    obtain ⟨y, hy, rfl⟩ := map_at hi
    have hil := (List.getElem?_eq_some_iff.mp hy).1
    have ey := gt_at hy
    subst ey
    have bi := ro.b hil
    have tl := p.lenle (by omega)
    have cl := cnt_le T (gt row i * way)
    have ll := lv_len way (row.take i)
    rw [List.length_take] at ll
    refine ⟨⟨sz_abs (by omega), sz_abs (way_b wo)⟩, ?_⟩
    refine ⟨by decide, fun k ρ acc => ρ = [.val (dints row), .val (.int way), .own (T.map PyData.int), .own ((lv way (row.take i)).map natD), .val (.int (gt row i)), .val (.int (gt row i * way)), s6, .no] ∧ acc = ((T.take k).filter fun t => decide (t < gt row i * way)).map PyData.int, ⟨rfl, rfl⟩, ?_, ?_, ?_⟩
    · rintro k ρ acc ⟨rfl, rfl⟩
      rfl
    · rintro k x ρ acc hk ⟨rfl, rfl⟩
      obtain ⟨t, ht, rfl⟩ := map_at (show (T.map PyData.int)[k]? = some x from hk)
      have fl := List.length_filter_le (fun t => decide (t < gt row i * way)) (T.take k)
      rw [List.length_take] at fl
      show (match (decide (t < gt row i * way)) with | true => _ | false => _)
      by_cases z : t < gt row i * way
      · rw [decide_eq_true z]
        refine ⟨by rw [List.length_map]; omega, rfl, ?_⟩
        rw [take_at ht, List.filter_append, List.map_append, List.filter_cons, if_pos (decide_eq_true z)]
        rfl
      · rw [decide_eq_false z]
        refine ⟨rfl, ?_⟩
        rw [take_at ht, List.filter_append, List.filter_cons, if_neg (by rw [decide_eq_false z]; exact Bool.false_ne_true), List.filter_nil, List.append_nil]
    rintro ρ acc ⟨rfl, rfl⟩
    rw [List.length_map, List.take_length]
    have q := p.succ hil
    have hl := p.lvs hil
    have el : ((((T.filter fun t => decide (t < gt row i * way)).map PyData.int).length : Nat) : Int) = (cnt T (gt row i * way) : Int) := by
      rw [List.length_map]
      rfl
    have eT : (T.map PyData.int).length = T.length := List.length_map _
    have q2 : ∀ b : Bool, b = decide (cnt T (gt row i * way) = T.length) → Pat way row (i + 1) (match b with | true => T ++ [gt row i * way] | false => T.set (cnt T (gt row i * way)) (gt row i * way)) := by
      rintro b rfl
      unfold put at q
      by_cases z : cnt T (gt row i * way) = T.length
      · rw [if_pos z] at q
        rw [decide_eq_true z]
        exact q
      · rw [if_neg z] at q
        rw [decide_eq_false z]
        exact q
    refine ⟨⟨rfl, rfl⟩, ?_⟩
    rw [eqv_int, el, eT]
    have fe : natD (cnt T (gt row i * way) + 1) = .int ((cnt T (gt row i * way) : Int) + 1) := by
      unfold natD
      rw [Int.natCast_add]
      rfl
    by_cases z : cnt T (gt row i * way) = T.length
    · have q3 := q2 true (decide_eq_true z).symm
      rw [decide_eq_true (by omega)]
      refine ⟨by rw [List.length_map]; omega, ?_⟩
      refine ⟨by rw [List.length_map]; omega, T ++ [gt row i * way], ?u1, ?u2, ?u3, q3, ?eq2⟩
      case eq2 =>
        rw [hl, List.map_append, List.map_append, ← el]
        show _ = [_, _, _, Sl.own ((lv way (row.take i)).map natD ++ [natD (cnt T (gt row i * way) + 1)]), _, _, _, _]
        rw [fe, ← el]
        rfl
    · have q3 := q2 false (decide_eq_false z).symm
      rw [decide_eq_false (by omega)]
      refine ⟨cnt T (gt row i * way), ?_, ?_⟩
      · show ixN (T.map PyData.int).length _ = _
        exact ixN_nat (by omega) rfl
      refine ⟨by rw [List.length_map]; omega, T.set (cnt T (gt row i * way)) (gt row i * way), ?v1, ?v2, ?v3, q3, ?eq3⟩
      case eq3 =>
        rw [hl, List.map_append, List.map_set]
        show _ = [_, _, _, Sl.own ((lv way (row.take i)).map natD ++ [natD (cnt T (gt row i * way) + 1)]), _, _, _, _]
        rw [fe, ← el]
        rfl
  · rintro ρ ⟨T, s4, s5, s6, p, rfl⟩
    rw [List.length_map, List.take_length]
    exact h
end K22

set_option Elab.async false
set_option linter.all false
set_option maxRecDepth 100000
set_option maxHeartbeats 1000000
set_option exponentiation.threshold 5000
namespace K22
open PySem L2 Evl PyProof.Rows RZ DL
theorem mlen_covering : ∀ xs Q, m_covering xs Q → xs.length = ps_covering.length := fun _ _ ⟨_, _, ⟨e, _⟩, _⟩ => by rw [e]; rfl
theorem math_covering : ∀ xs Q, m_covering xs Q → bd_covering { nx := fun _ => Q .none, rt := fun _ d _ => Q d } (startR nm_covering xs) := fun xs Q ⟨way, row, ⟨e, ro, wo⟩, h⟩ => by
  subst e
  have rl := ro.len
  have hn := dints_len row
  have ml := most_le way row
  have ll := lv_len way row
  refine ⟨way, row, ⟨rfl, ro, wo⟩, way, row, ⟨rfl, ro, wo⟩, way, row, ⟨rfl, ro, wo⟩, ⟨by omega, by omega, by omega, by omega⟩, ?_⟩
  refine ⟨fun i ρ acc => ρ = [.val (dints row), .val (.int way), .val (natsD (lv way row)), .no, .no] ∧ acc = (List.range i).map fun k => natsD ((List.range row.length).filter fun at_ => decide ((lv way row).getD at_ 0 = k + 1)), ⟨rfl, rfl⟩, ?_, ?_⟩
  · rintro i x ρ acc hi ⟨rfl, rfl⟩
    obtain ⟨hi1, rfl⟩ := rngD_at hi
    have ei : (1 : Int) + (i : Int) = ((i + 1 : Nat) : Int) := by omega
    rw [ei]
    refine ⟨by omega, by omega, fun k ρ acc => ρ = [.val (dints row), .val (.int way), .val (natsD (lv way row)), .val (.int ((i + 1 : Nat) : Int)), .no] ∧ acc = ((List.range k).filter fun at_ => decide ((lv way row).getD at_ 0 = i + 1)).map natD, ⟨rfl, rfl⟩, ?_, ?_⟩
    · rintro k x ρ acc hk ⟨rfl, rfl⟩
      obtain ⟨hk1, rfl⟩ := rngD_at hk
      have hk2 : k < row.length := by omega
      have fl := filt_len (fun at_ => decide ((lv way row).getD at_ 0 = i + 1)) k
      have fs := filt_succ (fun at_ => decide ((lv way row).getD at_ 0 = i + 1)) k
      rw [Int.zero_add]
      refine ⟨_, at_nat _ (k := k) (by omega) rfl, ⟨rfl, rfl⟩, ?_⟩
      rw [show PyData.eqv (natD ((lv way row).getD k 0)) (.int ((i + 1 : Nat) : Int)) = decide (((lv way row).getD k 0 : Int) = ((i + 1 : Nat) : Int)) from eqv_int _ _]
      by_cases y : (lv way row).getD k 0 = i + 1
      · rw [decide_eq_true (by omega)]
        refine ⟨by rw [List.length_map]; omega, rfl, ?_⟩
        rw [fs, if_pos (decide_eq_true y), List.map_append]
        rfl
      · rw [decide_eq_false (by omega)]
        refine ⟨rfl, ?_⟩
        rw [fs, if_neg (by rw [decide_eq_false y]; exact Bool.false_ne_true), List.append_nil]
    · rintro ρ acc ⟨rfl, rfl⟩
      rw [rngD_len]
      have en : (((row.map PyData.int).length : Int)).toNat = row.length := by omega
      rw [en]
      refine ⟨by rw [List.length_map, List.length_range]; omega, rfl, ?_⟩
      rw [List.range_succ, List.map_append]
      rfl
  rintro ρ acc ⟨rfl, rfl⟩
  rw [rngD_len]
  have en : ((most way row : Int) + 1 - 1).toNat = most way row := by omega
  rw [en]
  exact h
theorem inR_nat {n : Nat} {d : PyData} (h : inR n d = true) : d = natD (numD d) ∧ numD d < n := by
  cases d with
  | int i =>
    have h := of_decide_eq_true (show decide (0 ≤ i ∧ i < (n : Int)) = true from h)
    refine ⟨?_, ?_⟩
    · show PyData.int i = .int ((i.toNat : Nat) : Int)
      rw [Int.toNat_of_nonneg h.1]
    · show i.toNat < n
      omega
  | _ => cases h
theorem inR_all {n : Nat} {as : List PyData} (h : as.all (inR n) = true) : as = (as.map numD).map natD ∧ ∀ k ∈ as.map numD, k < n := by
  rw [List.all_eq_true] at h
  refine ⟨?_, fun k hk => ?_⟩
  · rw [List.map_map]
    refine (List.map_id _).symm.trans (List.map_congr_left fun d hd => ?_)
    exact (inR_nat (h d hd)).1
  · obtain ⟨d, hd, rfl⟩ := List.mem_map.mp hk
    exact (inR_nat (h d hd)).2
/-- neighbours -/
def prs : List Nat → List (Nat × Nat)
  | a :: b :: r => (a, b) :: prs (b :: r)
  | _ => []
theorem chB_prs (way : Int) (row : List Int) : ∀ l, chB way row l = (prs l).all fun p => decide (p.1 < p.2) && up way (gt row p.1) (gt row p.2)
  | [] => rfl
  | [_] => rfl
  | a :: b :: r => by
    show ((decide (a < b) && up way (gt row a) (gt row b)) && chB way row (b :: r)) = _
    rw [chB_prs way row (b :: r)]
    rfl
theorem prs_len : ∀ l : List Nat, (prs l).length = l.length - 1
  | [] => rfl
  | [_] => rfl
  | a :: b :: r => by
    show (prs (b :: r)).length + 1 = _
    rw [prs_len (b :: r)]
    rfl
theorem prs_mem : ∀ (l : List Nat) (p : Nat × Nat), p ∈ prs l → p.1 ∈ l ∧ p.2 ∈ l
  | [], _, h => by cases h
  | [_], _, h => by cases h
  | a :: b :: r, p, h => by
    rcases List.mem_cons.mp (show p ∈ (a, b) :: prs (b :: r) from h) with rfl | h
    · exact ⟨List.mem_cons_self, List.mem_cons_of_mem _ List.mem_cons_self⟩
    · have := prs_mem (b :: r) p h
      exact ⟨List.mem_cons_of_mem _ this.1, List.mem_cons_of_mem _ this.2⟩
theorem prs_at : ∀ (l : List Nat) (k : Nat), k + 1 < l.length → (prs l)[k]? = some (l.getD k 0, l.getD (k + 1) 0)
  | [], _, h => absurd h (Nat.not_lt_zero _)
  | [_], k, h => by have h : k + 1 < 1 := h; omega
  | a :: b :: r, 0, _ => rfl
  | a :: b :: r, k + 1, h => prs_at (b :: r) k (by have h : k + 1 + 1 < (b :: r).length + 1 := h; omega)
def tD (p : Nat × Nat) : PyData := .tuple [natD p.1, natD p.2]
theorem zip_prs : ∀ l : List Nat, zipD (l.map natD) ((l.map natD).drop 1) = (prs l).map tD
  | [] => rfl
  | [_] => rfl
  | a :: b :: r => by
    have ih := zip_prs (b :: r)
    show PyData.tuple [natD a, natD b] :: zipD ((b :: r).map natD) (r.map natD) = _
    exact congrArg (List.cons _) ih
theorem cut_one (ds : List PyData) : cutD ds (some 1) none = ds.drop 1 := by
  cases ds with
  | nil => rfl
  | cons a t =>
    unfold DL.cutD
    have e : HT.sIx (a :: t).length 0 (some 1) = 1 := by
      have := HT.sIx_nat (a :: t).length 0 1
      rw [show ((1 : Nat) : Int) = 1 from rfl] at this
      rw [this, List.length_cons]
      omega
    rw [e, HT.sIx_none]
    exact List.take_of_length_le (by rw [List.length_drop]; exact Nat.le_refl _)
theorem mlen_goes : ∀ xs Q, m_goes xs Q → xs.length = ps_goes.length := fun _ _ ⟨_, _, _, ⟨e, _⟩, _⟩ => by rw [e]; rfl
theorem fit_len {n : Nat} {ds : List PyData} (h : fitD (n + 1) (.list ds) = true) : ds.length ≤ 100000 := by
  unfold fitD at h
  rw [Bool.and_eq_true] at h
  exact of_decide_eq_true h.1
theorem math_goes : ∀ xs Q, m_goes xs Q → bd_goes { nx := fun _ => Q .none, rt := fun _ d _ => Q d } (startR nm_goes xs) := fun xs Q ⟨way, row, d, ⟨e, ro, wo⟩, fd, h⟩ => by
  subst e
  have rl := ro.len
  have hn := dints_len row
  cases d with
  | list as =>
    have al := fit_len fd
    have eg : goesB way row (.list as) = (as.all (inR row.length) && chB way row (as.map numD)) := rfl
    rw [eg] at h
    refine ⟨fun i ρ acc => ρ = [.val (dints row), .val (.int way), .val (.list as), .no, .no, .no] ∧ acc = ((as.take i).map (inR row.length)).map PyData.bool, ⟨rfl, rfl⟩, ?_, ?_⟩
    · rintro i x ρ acc hi ⟨rfl, rfl⟩
      have il := (List.getElem?_eq_some_iff.mp hi).1
      have ef : ((as.take (i + 1)).map (inR row.length)).map PyData.bool = ((as.take i).map (inR row.length)).map PyData.bool ++ [.bool (inR row.length x)] := by
        rw [take_at hi, List.map_append, List.map_append]
        rfl
      have lt : (((as.take i).map (inR row.length)).map PyData.bool).length < 100000 := by
        rw [List.length_map, List.length_map, List.length_take]
        omega
      refine ⟨x, 0, rfl, ?_⟩
      show (match PyData.bool (DL.cnt 0 x) with | .bool true => _ | .bool false => _ | _ => False)
      cases x with
      | int z =>
        have ez : DL.cnt 0 (.int z) = decide (0 ≤ z) := rfl
        rw [ez]
        have er : inR row.length (.int z) = (decide (0 ≤ z) && decide (z < (row.length : Int))) := by
          show decide (0 ≤ z ∧ z < (row.length : Int)) = _
          rw [Bool.decide_and]
        rw [er] at ef
        by_cases y : 0 ≤ z
        · rw [decide_eq_true y, Bool.true_and] at ef
          rw [decide_eq_true y]
          refine ⟨lt, rfl, ?_⟩
          show _ ++ [PyData.bool (decide (z < ((row.map PyData.int).length : Int)))] = _
          rw [hn]
          exact ef.symm
        · rw [decide_eq_false y, Bool.false_and] at ef
          rw [decide_eq_false y]
          exact ⟨lt, rfl, ef.symm⟩
      | _ => exact ⟨lt, rfl, ef.symm⟩
    rintro ρ acc ⟨rfl, rfl⟩
    rw [List.take_length]
    refine ⟨as.map (inR row.length), rfl, ?_⟩
    rw [List.all_map, show (id ∘ inR row.length) = inR row.length from rfl]
    cases w : as.all (inR row.length) with
    | false =>
      rw [w, Bool.false_and] at h
      exact h
    | true =>
      rw [w, Bool.true_and] at h
      obtain ⟨ea, eb⟩ := inR_all w
      generalize as.map numD = ns at ea eb h
      subst ea
      rw [List.length_map] at al
      refine ⟨fun i ρ acc => ρ = [.val (dints row), .val (.int way), .val (natsD ns), .no, .no, .no] ∧ acc = (((prs ns).take i).map fun p => decide (p.1 < p.2) && up way (gt row p.1) (gt row p.2)).map PyData.bool, ⟨rfl, rfl⟩, ?_, ?_⟩
      · rintro i x ρ acc hi ⟨rfl, rfl⟩
        have hi' : (zipD (ns.map natD) (cutD (ns.map natD) (some 1) none))[i]? = some x := hi
        rw [cut_one, zip_prs] at hi'
        obtain ⟨p, hp, rfl⟩ := map_at hi'
        have il := (List.getElem?_eq_some_iff.mp hp).1
        rw [prs_len] at il
        have pm := prs_mem ns p (List.mem_of_getElem? hp)
        have p1 := eb _ pm.1
        have p2 := eb _ pm.2
        have ef : (((prs ns).take (i + 1)).map fun p => decide (p.1 < p.2) && up way (gt row p.1) (gt row p.2)).map PyData.bool = (((prs ns).take i).map fun p => decide (p.1 < p.2) && up way (gt row p.1) (gt row p.2)).map PyData.bool ++ [.bool (decide (p.1 < p.2) && up way (gt row p.1) (gt row p.2))] := by
          rw [take_at hp, List.map_append, List.map_append]
          rfl
        have lt : ((((prs ns).take i).map fun p => decide (p.1 < p.2) && up way (gt row p.1) (gt row p.2)).map PyData.bool).length < 100000 := by
          rw [List.length_map, List.length_map, List.length_take]
          omega
        show (match (PyData.bool (decide ((p.1 : Int) < (p.2 : Int)))) with | .bool true => _ | .bool false => _ | _ => False)
        by_cases y : p.1 < p.2
        · rw [decide_eq_true y, Bool.true_and] at ef
          rw [decide_eq_true (by omega)]
          exact ⟨way, row, p.1, p.2, ⟨rfl, ro, wo⟩, p1, p2, lt, rfl, ef.symm⟩
        · rw [decide_eq_false y, Bool.false_and] at ef
          rw [decide_eq_false (by omega)]
          exact ⟨lt, rfl, ef.symm⟩
      · rintro ρ acc ⟨rfl, rfl⟩
        have el : (zipD (ns.map natD) (cutD (ns.map natD) (some 1) none)).length = (prs ns).length := by
          rw [cut_one, zip_prs, List.length_map]
        refine ⟨(prs ns).map fun p => decide (p.1 < p.2) && up way (gt row p.1) (gt row p.2), ?_, ?_⟩
        · show PyData.list ((((prs ns).take (zipD (ns.map natD) (cutD (ns.map natD) (some 1) none)).length).map _).map _) = _
          rw [el, List.take_length]
        · rw [List.all_map, show (id ∘ fun p : Nat × Nat => decide (p.1 < p.2) && up way (gt row p.1) (gt row p.2)) = (fun p : Nat × Nat => decide (p.1 < p.2) && up way (gt row p.1) (gt row p.2)) from rfl, ← chB_prs]
          exact h
  | _ => exact h
end K22

set_option Elab.async false
set_option linter.all false
set_option maxRecDepth 100000
set_option maxHeartbeats 1000000
set_option exponentiation.threshold 5000
namespace K22
open PySem L2 Evl PyProof.Rows RZ DL
theorem eqvAll_ints : ∀ a b : List Int, PyData.eqvAll (a.map PyData.int) (b.map PyData.int) = decide (a = b)
  | [], [] => by simp [PyData.eqvAll]
  | [], _ :: _ => by simp [PyData.eqvAll]
  | _ :: _, [] => by simp [PyData.eqvAll]
  | x :: a, y :: b => by
    rw [List.map_cons, List.map_cons, PyData.eqvAll, eqv_int, eqvAll_ints a b]
    by_cases h : x = y <;> by_cases g : a = b <;> simp [h, g]
theorem eqv_ints (a b : List Int) : PyData.eqv (.list (a.map PyData.int)) (.list (b.map PyData.int)) = decide (a = b) := by
  rw [PyData.eqv]
  exact eqvAll_ints a b
theorem rng_ints (n : Nat) : rngD 0 n = ((List.range n).map fun (i : Nat) => (i : Int)).map PyData.int := by
  refine List.ext_getElem (by rw [rngD_len, List.length_map, List.length_map, List.length_range]) fun i h1 h2 => ?_
  obtain ⟨_, e⟩ := rngD_at (List.getElem?_eq_getElem h1)
  rw [e, List.getElem_map, List.getElem_map, List.getElem_range, Int.zero_add]
theorem nat_map_inj {a b : List Nat} (h : a.map (fun (i : Nat) => (i : Int)) = b.map fun (i : Nat) => (i : Int)) : a = b := by
  have := congrArg (List.map Int.toNat) h
  rw [List.map_map, List.map_map] at this
  rw [show (Int.toNat ∘ fun (i : Nat) => (i : Int)) = id from rfl, List.map_id, List.map_id] at this
  exact this
theorem perm_nat {a b : List Nat} (h : (a.map (fun (i : Nat) => (i : Int))).Perm (b.map fun (i : Nat) => (i : Int))) : a.Perm b := by
  have := h.map Int.toNat
  rw [List.map_map, List.map_map] at this
  rw [show (Int.toNat ∘ fun (i : Nat) => (i : Int)) = id from rfl, List.map_id, List.map_id] at this
  exact this
theorem sort_eq (l : List Nat) (ks : List Int) (n : Nat) (pm : ks.Perm (l.map fun (i : Nat) => (i : Int))) (pw : ks.Pairwise (· ≤ ·)) : PyData.eqv (.list (ks.map PyData.int)) (.list (rngD 0 n)) = decide (l.Perm (List.range n)) := by
  rw [rng_ints, eqv_ints]
  refine decide_eq_decide.mpr ⟨fun h => ?_, fun h => ?_⟩
  · rw [h] at pm
    exact (perm_nat pm).symm
  · refine List.Perm.eq_of_pairwise (le := (· ≤ ·)) (fun a b _ _ h1 h2 => Int.le_antisymm h1 h2) pw ?_ (pm.trans (h.map _))
    rw [List.pairwise_map]
    exact List.pairwise_lt_range.imp fun h => by omega
theorem chB_len {way : Int} {row : List Int} {n : Nat} : ∀ (l : List Nat) (a : Nat), chB way row (a :: l) = true → (∀ x ∈ a :: l, x < n) → (a :: l).length + a ≤ n
  | [], a, _, h => by
    have := h a List.mem_cons_self
    show 1 + a ≤ n
    omega
  | b :: l, a, c, h => by
    have c : ((decide (a < b) && up way (gt row a) (gt row b)) && chB way row (b :: l)) = true := c
    rw [Bool.and_eq_true, Bool.and_eq_true] at c
    have := chB_len l b c.2 fun x hx => h x (List.mem_cons_of_mem _ hx)
    have := of_decide_eq_true c.1.1
    rw [List.length_cons]
    omega
structure Good (way : Int) (row : List Int) (p : PyData) : Prop where
  lst : p = .list (((itemsD p).map numD).map natD)
  bd : ∀ k ∈ (itemsD p).map numD, k < row.length
  ch : chB way row ((itemsD p).map numD) = true
theorem Good.of {way : Int} {row : List Int} {p : PyData} (h : goesB way row p = true) : Good way row p := by
  cases p with
  | list as =>
    have h : (as.all (inR row.length) && chB way row (as.map numD)) = true := h
    rw [Bool.and_eq_true] at h
    obtain ⟨a, b⟩ := inR_all h.1
    exact ⟨congrArg PyData.list a, b, h.2⟩
  | _ => cases h
theorem Good.its {way : Int} {row : List Int} {p : PyData} (h : Good way row p) : itemsD p = ((itemsD p).map numD).map natD := by
  have := congrArg itemsD h.lst
  exact this
theorem Good.len {way : Int} {row : List Int} {p : PyData} (h : Good way row p) : (itemsD p).length ≤ row.length := by
  have e : (itemsD p).length = ((itemsD p).map numD).length := (List.length_map _).symm
  rw [e]
  have hb := h.bd
  have hc := h.ch
  generalize (itemsD p).map numD = l at hb hc
  cases l with
  | nil => exact Nat.zero_le _
  | cons a l =>
    have := chB_len l a hc hb
    omega
theorem flat_len (n : Nat) : ∀ ps : List PyData, (∀ p ∈ ps, (itemsD p).length ≤ n) → (ps.flatMap itemsD).length ≤ ps.length * n
  | [], _ => Nat.zero_le _
  | p :: ps, h => by
    rw [List.flatMap_cons, List.length_append, List.length_cons, Nat.add_mul, Nat.one_mul]
    have := h p List.mem_cons_self
    have := flat_len n ps fun q hq => h q (List.mem_cons_of_mem _ hq)
    omega
theorem flat_its {way : Int} {row : List Int} : ∀ ps : List PyData, (∀ p ∈ ps, Good way row p) → ps.flatMap itemsD = ((ps.flatMap itemsD).map numD).map natD
  | [], _ => rfl
  | p :: ps, h => by
    rw [List.flatMap_cons, List.map_append, List.map_append, ← (h p List.mem_cons_self).its, ← flat_its ps fun q hq => h q (List.mem_cons_of_mem _ hq)]
theorem flat_b {way : Int} {row : List Int} {ps : List PyData} (rl : row.length ≤ 200) (pl : ps.length ≤ 200) (h : ∀ p ∈ ps, Good way row p) : (ps.flatMap itemsD).length ≤ 40000 := by
  have := flat_len row.length ps fun p hp => (h p hp).len
  have := Nat.mul_le_mul pl rl
  omega
theorem ne_empL (p : PyData) : (!PyData.eqv p (.list [])) = neB p := by
  cases p with
  | list as => cases as <;> rfl
  | _ => rfl
theorem mlen_is_covering : ∀ xs Q, m_is_covering xs Q → xs.length = ps_is_covering.length := fun _ _ ⟨_, _, _, ⟨e, _⟩, _⟩ => by rw [e]; rfl
theorem math_is_covering : ∀ xs Q, m_is_covering xs Q → bd_is_covering { nx := fun _ => Q .none, rt := fun _ d _ => Q d } (startR nm_is_covering xs) := fun xs Q ⟨way, row, d, ⟨e, ro, wo⟩, fd, h⟩ => by
  subst e
  have rl := ro.len
  have hn := dints_len row
  have ml := most_le way row
  refine ⟨way, row, ⟨rfl, ro, wo⟩, ?_⟩
  cases d with
  | list ps =>
    have pl := fit_len fd
    have pf : ∀ p ∈ ps, fitD 7 p = true := by
      unfold fitD at fd
      rw [Bool.and_eq_true] at fd
      exact fitAll_mem fd.2
    have eg : covB way row (.list ps) = (decide (ps.length = most way row) && (ps.all (fun p => goesB (-way) row p && neB p) && decide (((ps.flatMap itemsD).map numD).Perm (List.range row.length)))) := rfl
    rw [eg] at h
    refine ⟨way, row, ⟨rfl, ro, wo⟩, ⟨rfl, rfl⟩, ?_⟩
    rw [show PyData.eqv (.int (ps.length : Int)) (natD (most way row)) = decide ((ps.length : Int) = (most way row : Int)) from eqv_int _ _]
    by_cases z : ps.length = most way row
    · rw [decide_eq_true (show (ps.length : Int) = (most way row : Int) by omega)]
      rw [decide_eq_true z, Bool.true_and] at h
      refine ⟨fun i ρ acc => ρ = [.val (dints row), .val (.int way), .val (.list ps), .no, .no] ∧ acc = ((ps.take i).map fun p => goesB (-way) row p && neB p).map PyData.bool, ⟨rfl, rfl⟩, ?_, ?_⟩
      · rintro i x ρ acc hi ⟨rfl, rfl⟩
        have il := (List.getElem?_eq_some_iff.mp hi).1
        have fx := pf x (List.mem_of_getElem? hi)
        have ef : ((ps.take (i + 1)).map fun p => goesB (-way) row p && neB p).map PyData.bool = ((ps.take i).map fun p => goesB (-way) row p && neB p).map PyData.bool ++ [.bool (goesB (-way) row x && neB x)] := by
          rw [take_at hi, List.map_append, List.map_append]
          rfl
        have lt : (((ps.take i).map fun p => goesB (-way) row p && neB p).map PyData.bool).length < 100000 := by
          rw [List.length_map, List.length_map, List.length_take]
          omega
        refine ⟨-way, row, x, ⟨?_, ro, neg_ok wo⟩, fx, ?_⟩
        · show [dints row, PyData.int (0 - way), x] = _
          rw [Int.zero_sub]
        show (match PyData.bool (goesB (-way) row x) with | .bool true => _ | .bool false => _ | _ => False)
        cases y : goesB (-way) row x with
        | true =>
          rw [y, Bool.true_and, ← ne_empL] at ef
          refine ⟨by decide, ⟨fit_shaped fx (by decide), rfl⟩, lt, rfl, ef.symm⟩
        | false =>
          rw [y, Bool.false_and] at ef
          exact ⟨lt, rfl, ef.symm⟩
      rintro ρ acc ⟨rfl, rfl⟩
      rw [List.take_length]
      refine ⟨ps.map fun p => goesB (-way) row p && neB p, rfl, ?_⟩
      rw [List.all_map, show (id ∘ fun p => goesB (-way) row p && neB p) = (fun p => goesB (-way) row p && neB p) from rfl]
      cases w : ps.all fun p => goesB (-way) row p && neB p with
      | false =>
        rw [w, Bool.false_and] at h
        exact h
      | true =>
        rw [w, Bool.true_and] at h
        have gd : ∀ p ∈ ps, Good (-way) row p := fun p hp => by
          have := (List.all_eq_true.mp w) p hp
          rw [Bool.and_eq_true] at this
          exact .of this.1
        have gt' : ∀ i, ∀ p ∈ ps.take i, Good (-way) row p := fun i p hp => gd p (List.mem_of_mem_take hp)
        refine ⟨fun i ρ acc => ρ = [.val (dints row), .val (.int way), .val (.list ps), .no, .no] ∧ acc = (ps.take i).flatMap itemsD, ⟨rfl, rfl⟩, ?_, ?_⟩
        · rintro i x ρ acc hi ⟨rfl, rfl⟩
          have il := (List.getElem?_eq_some_iff.mp hi).1
          have gx := gd x (List.mem_of_getElem? hi)
          have ef : (ps.take (i + 1)).flatMap itemsD = (ps.take i).flatMap itemsD ++ itemsD x := by
            rw [take_at hi, List.flatMap_append, List.flatMap_cons, List.flatMap_nil, List.append_nil]
          have fb := flat_b rl (ps := ps.take i) (by rw [List.length_take]; omega) (gt' i)
          have gl := gx.len
          have gi := gx.lst
          generalize (itemsD x).map numD = ns at gi
          subst gi
          refine ⟨fun j ρ acc => ρ = [.val (dints row), .val (.int way), .val (.list ps), .val (.list (ns.map natD)), .no] ∧ acc = (ps.take i).flatMap itemsD ++ (ns.map natD).take j, ⟨rfl, ?_⟩, ?_, ?_⟩
          · rw [List.take_zero, List.append_nil]
          · rintro j y ρ acc hj ⟨rfl, rfl⟩
            have tl := List.length_take_le j (ns.map natD)
            have gl : (ns.map natD).length ≤ row.length := gl
            refine ⟨?_, rfl, ?_⟩
            · rw [List.length_append, List.length_take]
              omega
            · rw [take_at (show (ns.map natD)[j]? = some y from hj), List.append_assoc]
          · rintro ρ acc ⟨rfl, rfl⟩
            refine ⟨rfl, ?_⟩
            rw [ef, List.take_length]
            rfl
        · rintro ρ acc ⟨rfl, rfl⟩
          rw [List.take_length]
          have fi := flat_its ps gd
          have fb := flat_b rl (ps := ps) (by omega) gd
          refine ⟨((ps.flatMap itemsD).map numD).map (fun (i : Nat) => (i : Int)), ?_, fun ks pm pw => ?_⟩
          · rw [← natD_int, ← fi]
          · have kl := pm.length_eq
            rw [List.length_map, List.length_map] at kl
            refine ⟨_, rfl, by omega, by omega, ⟨?_, ?_⟩, ?_⟩
            · exact fit_shaped (fit_dints 0 (by omega)) (by decide)
            · rw [rng_ints]
              exact fit_shaped (fit_dints 0 (by rw [List.length_map, List.length_range]; omega)) (by decide)
            · have en : (((row.map PyData.int).length : Int)).toNat = row.length := by omega
              rw [en, sort_eq _ ks row.length pm pw]
              exact h
    · rw [decide_eq_false (show ¬(ps.length : Int) = (most way row : Int) by omega)]
      rw [decide_eq_false z, Bool.false_and] at h
      exact h
  | _ => exact h
end K22

set_option Elab.async false
set_option linter.all false
set_option maxRecDepth 100000
set_option maxHeartbeats 1000000
set_option exponentiation.threshold 5000
namespace K22
open PySem L2 Evl PyProof.Rows RZ DL
def isL : PyData → Bool
  | .list _ => true
  | _ => false
theorem goes_isL {way : Int} {row : List Int} {p : PyData} (h : goesB way row p = true) : isL p = true := by
  cases p with
  | list _ => rfl
  | _ => cases h
theorem mlen__law_is_covering : ∀ xs Q, m__law_is_covering xs Q → xs.length = ps__law_is_covering.length := fun _ _ ⟨_, _, _, ⟨e, _⟩, _⟩ => by rw [e]; rfl
theorem math__law_is_covering : ∀ xs Q, m__law_is_covering xs Q → bd__law_is_covering { nx := fun _ => Q .none, rt := fun _ d _ => Q d } (startR nm__law_is_covering xs) := fun xs Q ⟨way, row, d, ⟨e, ro, wo⟩, fd, h⟩ => by
  subst e
  have rl := ro.len
  have hn := dints_len row
  have ml := most_le way row
  cases d with
  | list ps =>
    have pl := fit_len fd
    have pf : ∀ p ∈ ps, fitD 7 p = true := by
      unfold fitD at fd
      rw [Bool.and_eq_true] at fd
      exact fitAll_mem fd.2
    have eg : covB way row (.list ps) = (decide (ps.length = most way row) && (ps.all (fun p => goesB (-way) row p && neB p) && decide (((ps.flatMap itemsD).map numD).Perm (List.range row.length)))) := rfl
    rw [eg] at h
    refine ⟨⟨rfl, rfl⟩, ?_⟩
    rw [show (!PyData.eqv (.int (ps.length : Int)) (natD (most way row))) = !decide ((ps.length : Int) = (most way row : Int)) from congrArg not (eqv_int _ _)]
    by_cases z : ps.length = most way row
    · rw [decide_eq_true (show (ps.length : Int) = (most way row : Int) by omega)]
      rw [decide_eq_true z, Bool.true_and] at h
      have hf : ∀ x ∈ ps, (goesB (-way) row x && neB x) = false → Q (.bool false) := fun x hx hg => by
        have : ps.all (fun p => goesB (-way) row p && neB p) = false := by
          cases w : ps.all fun p => goesB (-way) row p && neB p with
          | false => rfl
          | true =>
            have := (List.all_eq_true.mp w) x hx
            rw [hg] at this
            cases this
        rw [this, Bool.false_and] at h
        exact h
      refine ⟨fun i ρ acc => ρ = [.val (dints row), .val (.int way), .val (natD (most way row)), .val (.list ps), .no, .no, .no] ∧ acc = ((ps.take i).map fun p => isL p && neB p).map PyData.bool, ⟨rfl, rfl⟩, ?_, ?_⟩
      · rintro i x ρ acc hi ⟨rfl, rfl⟩
        have il := (List.getElem?_eq_some_iff.mp hi).1
        have fx := pf x (List.mem_of_getElem? hi)
        have ef : ((ps.take (i + 1)).map fun p => isL p && neB p).map PyData.bool = ((ps.take i).map fun p => isL p && neB p).map PyData.bool ++ [.bool (isL x && neB x)] := by
          rw [take_at hi, List.map_append, List.map_append]
          rfl
        have lt : (((ps.take i).map fun p => isL p && neB p).map PyData.bool).length < 100000 := by
          rw [List.length_map, List.length_map, List.length_take]
          omega
        cases x with
        | list as =>
          rw [show isL (.list as) = true from rfl, Bool.true_and, ← ne_empL] at ef
          exact ⟨by decide, ⟨fit_shaped fx (by decide), rfl⟩, lt, rfl, ef.symm⟩
        | _ => exact ⟨lt, rfl, ef.symm⟩
      rintro ρ acc ⟨rfl, rfl⟩
      rw [List.take_length]
      refine ⟨ps.map fun p => isL p && neB p, rfl, ?_⟩
      rw [List.all_map, show (id ∘ fun p => isL p && neB p) = (fun p => isL p && neB p) from rfl]
      cases w : ps.all fun p => isL p && neB p with
      | false =>
        obtain ⟨x, hx, hg⟩ : ∃ x ∈ ps, (isL x && neB x) = false := by
          rw [List.all_eq_false] at w
          obtain ⟨x, hx, hg⟩ := w
          exact ⟨x, hx, by simpa using hg⟩
        refine hf x hx ?_
        cases u : goesB (-way) row x with
        | false => rfl
        | true =>
          rw [goes_isL u] at hg
          exact hg
      | true =>
        have wl := List.all_eq_true.mp w
        refine ⟨by decide, ?_⟩
        refine ⟨fun i ρ => (∀ p ∈ ps.take i, Good (-way) row p ∧ neB p = true ∧ goesB (-way) row p = true) ∧ ∃ s5, ρ = [.val (dints row), .val (.int way), .val (natD (most way row)), .val (.list ps), .val (.list ((ps.take i).flatMap itemsD)), s5, .no], ⟨fun p hp => (by cases hp), .no, rfl⟩, ?_, ?_⟩
        · rintro i x ρ hi ⟨gd, s5, rfl⟩
          have il := (List.getElem?_eq_some_iff.mp hi).1
          have xm := List.mem_of_getElem? hi
          have fx := pf x xm
          have fb := flat_b rl (ps := ps.take i) (by rw [List.length_take]; omega) fun p hp => (gd p hp).1
          have ef : (ps.take (i + 1)).flatMap itemsD = (ps.take i).flatMap itemsD ++ itemsD x := by
            rw [take_at hi, List.flatMap_append, List.flatMap_cons, List.flatMap_nil, List.append_nil]
          have ex := wl x xm
          rw [Bool.and_eq_true] at ex
          cases x with
          | list as =>
            have al := fit_len fx
            refine ⟨fun k ρ acc => ρ = [.val (dints row), .val (.int way), .val (natD (most way row)), .val (.list ps), .val (.list ((ps.take i).flatMap itemsD)), .val (.list as), .no] ∧ acc = ((as.take k).map (inR row.length)).map PyData.bool, ⟨rfl, rfl⟩, ?_, ?_⟩
            · rintro k x ρ acc hk ⟨rfl, rfl⟩
              have kl := (List.getElem?_eq_some_iff.mp hk).1
              have ef : ((as.take (k + 1)).map (inR row.length)).map PyData.bool = ((as.take k).map (inR row.length)).map PyData.bool ++ [.bool (inR row.length x)] := by
                rw [take_at hk, List.map_append, List.map_append]
                rfl
              have lt : (((as.take k).map (inR row.length)).map PyData.bool).length < 100000 := by
                rw [List.length_map, List.length_map, List.length_take]
                omega
              cases x with
              | int z =>
                have er : inR row.length (.int z) = (decide (0 ≤ z) && decide (z < (row.length : Int))) := by
                  show decide (0 ≤ z ∧ z < (row.length : Int)) = _
                  rw [Bool.decide_and]
                rw [er] at ef
                show (match PyData.bool (decide (0 ≤ z)) with | .bool true => _ | .bool false => _ | _ => False)
                by_cases y : 0 ≤ z
                · rw [decide_eq_true y, Bool.true_and] at ef
                  rw [decide_eq_true y]
                  refine ⟨lt, rfl, ?_⟩
                  show _ ++ [PyData.bool (decide (z < ((row.map PyData.int).length : Int)))] = _
                  rw [hn]
                  exact ef.symm
                · rw [decide_eq_false y, Bool.false_and] at ef
                  rw [decide_eq_false y]
                  exact ⟨lt, rfl, ef.symm⟩
              | _ => exact ⟨lt, rfl, ef.symm⟩
            rintro ρ acc ⟨rfl, rfl⟩
            rw [List.take_length]
            refine ⟨as.map (inR row.length), rfl, ?_⟩
            rw [List.all_map, show (id ∘ inR row.length) = inR row.length from rfl]
            have gg : goesB (-way) row (.list as) = (as.all (inR row.length) && chB (-way) row (as.map numD)) := rfl
            cases u : as.all (inR row.length) with
            | false => exact hf _ xm (by rw [gg, u, Bool.false_and, Bool.false_and])
            | true =>
              rw [u, Bool.true_and] at gg
              obtain ⟨ea, eb⟩ := inR_all u
              generalize as.map numD = ns at ea eb gg
              subst ea
              rw [List.length_map] at al
              have nl : (ns.map natD).length = ns.length := List.length_map _
              refine ⟨⟨by omega, by omega, by omega, by omega⟩, fun k ρ acc => ρ = [.val (dints row), .val (.int way), .val (natD (most way row)), .val (.list ps), .val (.list ((ps.take i).flatMap itemsD)), .val (natsD ns), .no] ∧ acc = (((prs ns).take k).map fun p => decide (p.1 < p.2) && up (-way) (gt row p.1) (gt row p.2)).map PyData.bool, ⟨rfl, rfl⟩, ?_, ?_⟩
              · rintro k x ρ acc hk ⟨rfl, rfl⟩
                obtain ⟨hk1, rfl⟩ := rngD_at hk
                have hk2 : k + 1 < ns.length := by omega
                have hp := prs_at ns k hk2
                have pm := prs_mem ns _ (List.mem_of_getElem? hp)
                have p1 := eb _ pm.1
                have p2 := eb _ pm.2
                have ef : (((prs ns).take (k + 1)).map fun p => decide (p.1 < p.2) && up (-way) (gt row p.1) (gt row p.2)).map PyData.bool = (((prs ns).take k).map fun p => decide (p.1 < p.2) && up (-way) (gt row p.1) (gt row p.2)).map PyData.bool ++ [.bool (decide (ns.getD k 0 < ns.getD (k + 1) 0) && up (-way) (gt row (ns.getD k 0)) (gt row (ns.getD (k + 1) 0)))] := by
                  rw [take_at hp, List.map_append, List.map_append]
                  rfl
                have lt : ((((prs ns).take k).map fun p => decide (p.1 < p.2) && up (-way) (gt row p.1) (gt row p.2)).map PyData.bool).length < 100000 := by
                  rw [List.length_map, List.length_map, List.length_take]
                  omega
                refine ⟨_, at_nat ns (k := k) (by omega) (by omega), _, at_nat ns (k := k + 1) (by omega) (by omega), -way, row, ns.getD k 0, ns.getD (k + 1) 0, ⟨?_, ro, neg_ok wo⟩, p1, p2, lt, rfl, ef.symm⟩
                show [dints row, PyData.int (0 - way), _, _] = _
                rw [Int.zero_sub]
                rfl
              · rintro ρ acc ⟨rfl, rfl⟩
                have el : (rngD 1 (((ns.map natD).length : Int) - 1).toNat).length = (prs ns).length := by
                  rw [rngD_len, prs_len, nl]
                  omega
                refine ⟨(prs ns).map fun p => decide (p.1 < p.2) && up (-way) (gt row p.1) (gt row p.2), ?_, ?_⟩
                · show PyData.list ((((prs ns).take (rngD 1 (((ns.map natD).length : Int) - 1).toNat).length).map _).map _) = _
                  rw [el, List.take_length]
                · rw [List.all_map, show (id ∘ fun p : Nat × Nat => decide (p.1 < p.2) && up (-way) (gt row p.1) (gt row p.2)) = (fun p : Nat × Nat => decide (p.1 < p.2) && up (-way) (gt row p.1) (gt row p.2)) from rfl, ← chB_prs, ← gg]
                  cases v : goesB (-way) row (.list (ns.map natD)) with
                  | false => exact hf _ xm (by rw [v, Bool.false_and])
                  | true =>
                    have gx := Good.of v
                    have gl : (ns.map natD).length ≤ row.length := gx.len
                    refine ⟨by omega, fun p hp => ?_, ?u5, ?eq⟩
                    case eq =>
                      rw [ef]
                      rfl
                    rw [take_at hi] at hp
                    rcases List.mem_append.mp hp with hp | hp
                    · exact gd p hp
                    · rcases List.mem_singleton.mp hp with rfl
                      exact ⟨gx, ex.2, v⟩
          | _ => cases ex.1
        · rintro ρ ⟨gd, s5, rfl⟩
          rw [List.take_length] at gd ⊢
          have fi := flat_its ps fun p hp => (gd p hp).1
          have fb := flat_b rl (ps := ps) (by omega) fun p hp => (gd p hp).1
          have ga : ps.all (fun p => goesB (-way) row p && neB p) = true := List.all_eq_true.mpr fun p hp => by
            rw [(gd p hp).2.1, (gd p hp).2.2]
            rfl
          rw [ga, Bool.true_and] at h
          refine ⟨((ps.flatMap itemsD).map numD).map (fun (i : Nat) => (i : Int)), ?_, fun ks pm pw => ?_⟩
          · rw [← natD_int, ← fi]
          · have kl := pm.length_eq
            rw [List.length_map, List.length_map] at kl
            refine ⟨_, rfl, by omega, by omega, ⟨?_, ?_⟩, ?_⟩
            · exact fit_shaped (fit_dints 0 (by omega)) (by decide)
            · rw [rng_ints]
              exact fit_shaped (fit_dints 0 (by rw [List.length_map, List.length_range]; omega)) (by decide)
            · have en : (((row.map PyData.int).length : Int)).toNat = row.length := by omega
              rw [en, sort_eq _ ks row.length pm pw]
              exact h
    · rw [decide_eq_false (show ¬(ps.length : Int) = (most way row : Int) by omega)]
      rw [decide_eq_false z, Bool.false_and] at h
      exact h
  | _ => exact h
end K22

set_option Elab.async false
set_option linter.all false
set_option maxRecDepth 100000
set_option maxHeartbeats 1000000
namespace K22
open PySem L2 Evl PyProof.Rows RZ DL
theorem RowOk.perm {row l : List Int} (w : RowOk row) (h : l.Perm row) : RowOk l := ⟨h.nodup_iff.mpr w.nd, by rw [h.length_eq]; exact w.len, fun x hx => w.rng x (h.mem_iff.mp hx)⟩
theorem gt_inj {row : List Int} (h : row.Nodup) {i j : Nat} (hi : i < row.length) (hj : j < row.length) (e : gt row i = gt row j) : i = j := by
  unfold gt at e
  rw [List.getD_eq_getElem?_getD, List.getD_eq_getElem?_getD, List.getElem?_eq_getElem hi, List.getElem?_eq_getElem hj] at e
  have e : row[i] = row[j] := e
  rcases Nat.lt_trichotomy i j with k | k | k
  · exact absurd e (List.pairwise_iff_getElem.mp h i j hi hj k)
  · exact k
  · exact absurd e.symm (List.pairwise_iff_getElem.mp h j i hj hi k)
theorem RowOk.pick {row : List Int} (w : RowOk row) {J : List Nat} (nd : J.Nodup) (h : ∀ j ∈ J, j < row.length) : RowOk (J.map (gt row)) := by
  refine ⟨?_, ?_, fun x hx => ?_⟩
  · unfold List.Nodup
    rw [List.pairwise_map]
    exact List.Pairwise.imp_of_mem (fun {a b} ha hb hab e => hab (gt_inj w.nd (h a ha) (h b hb) e)) nd
  · have := List.Nodup.length_le_of_subset (l₂ := List.range row.length) nd fun j hj => List.mem_range.mpr (h j hj)
    rw [List.length_range] at this
    rw [List.length_map]
    exact Nat.le_trans this w.len
  · obtain ⟨j, hj, rfl⟩ := List.mem_map.mp hx
    exact w.b (h j hj)
theorem fm_pick (row : List Int) : ∀ R : List Nat, R.filterMap ((row.map PyData.int)[·]?) = ((R.filter fun j => decide (j < row.length)).map (gt row)).map PyData.int
  | [] => rfl
  | j :: R => by
    rw [List.filterMap_cons, List.filter_cons, fm_pick row R]
    by_cases h : j < row.length
    · rw [if_pos (decide_eq_true h)]
      have : (row.map PyData.int)[j]? = some (.int (gt row j)) := by
        rw [List.getElem?_map, List.getElem?_eq_getElem h]
        unfold gt
        rw [List.getD_eq_getElem?_getD, List.getElem?_eq_getElem h]
        rfl
      rw [this]
      rfl
    · rw [if_neg (by rw [decide_eq_false h]; exact Bool.false_ne_true), List.getElem?_eq_none (by rw [List.length_map]; omega)]
theorem pick_ix (row : List Int) {a b : Nat} (hb : 0 < b) (hab : a < b) : ∃ I : List Nat, pickL (row.map PyData.int) (some (a : Int)) none (some (b : Int)) = (I.map (gt row)).map PyData.int ∧ I.Nodup ∧ ∀ j ∈ I, j < row.length ∧ j % b = a := by
  have eb : sliceBounds (some (a : Int)) none (some (b : Int)) row.length = (((min a row.length : Nat) : Int), (row.length : Int), (b : Int)) := by
    unfold sliceBounds
    simp only [Option.getD_some]
    rw [if_pos (by omega), if_neg (by omega)]
    refine Prod.ext ?_ (Prod.ext ?_ rfl)
    · show max 0 (min (a : Int) row.length) = ((min a row.length : Nat) : Int)
      omega
    · show (if (b : Int) > 0 then (row.length : Int) else -1) = row.length
      rw [if_pos (by omega)]
  unfold DL.pickL
  rw [List.length_map, eb, fm_pick]
  refine ⟨_, rfl, ?_, fun j hj => ?_⟩
  · unfold List.Nodup
    refine List.Pairwise.filter _ ?_
    unfold sliceRange
    rw [List.pairwise_map]
    refine List.pairwise_lt_range.imp fun {x y} h e => ?_
    have m : (b : Int) * (x : Int) < (b : Int) * (y : Int) := Int.mul_lt_mul_of_pos_left (by omega) (by omega)
    have m0 : 0 ≤ (b : Int) * (x : Int) := Int.mul_nonneg (by omega) (by omega)
    generalize (b : Int) * (x : Int) = p at m m0 e
    generalize (b : Int) * (y : Int) = q at m e
    dsimp only at e
    omega
  · obtain ⟨h1, h2⟩ := List.mem_filter.mp hj
    refine ⟨of_decide_eq_true h2, ?_⟩
    unfold sliceRange at h1
    obtain ⟨k, hk, rfl⟩ := List.mem_map.mp h1
    have hk := List.mem_range.mp hk
    dsimp only at hk ⊢
    rw [if_pos (by omega)] at hk
    by_cases z : ((min a row.length : Nat) : Int) < (row.length : Int)
    · have em : min a row.length = a := by omega
      rw [em]
      have e : ((a : Int) + (b : Int) * (k : Int)).toNat = a + b * k := by
        rw [← Int.natCast_mul, ← Int.natCast_add, Int.toNat_natCast]
      rw [e, Nat.add_mul_mod_self_left, Nat.mod_eq_of_lt hab]
    · rw [if_neg z] at hk
      exact absurd hk (Nat.not_lt_zero _)
theorem cut_fromI (l : List Int) (k : Nat) (h : k ≤ l.length) : cutD (l.map PyData.int) (some (k : Int)) none = (l.drop k).map PyData.int := by
  unfold DL.cutD
  rw [HT.sIx_nat, HT.sIx_none, List.length_map, Nat.min_eq_left h, ← List.map_drop]
  exact List.take_of_length_le (by rw [List.length_map, List.length_drop]; exact Nat.le_refl _)
theorem swap_perm (l : List Int) {k : Nat} (h : k + 1 < l.length) : (l.take k ++ [gt l (k + 1), gt l k] ++ l.drop (k + 2)).Perm l := by
  have e : l = l.take k ++ (gt l k :: gt l (k + 1) :: l.drop (k + 2)) := by
    rw [← drop_at l h, ← drop_at l (by omega), List.take_append_drop]
  conv => rhs; rw [e]
  rw [List.append_assoc]
  exact List.Perm.append_left _ (List.Perm.swap _ _ _)
theorem perm_ints {js : List PyData} {l : List Int} (h : js.Perm (l.map PyData.int)) : ∃ k : List Int, js = k.map PyData.int ∧ k.Perm l := by
  have g := h.map fun d => match d with | .int i => i | _ => 0
  rw [List.map_map] at g
  refine ⟨_, ?_, g.trans ?_⟩
  · rw [List.map_map]
    refine (List.map_id _).symm.trans (List.map_congr_left fun d hd => ?_)
    obtain ⟨i, _, rfl⟩ := List.mem_map.mp (h.mem_iff.mp hd)
    rfl
  · refine List.Perm.of_eq ?_
    exact (List.map_congr_left fun _ _ => rfl).trans (List.map_id l)
end K22

set_option Elab.async false
set_option linter.all false
set_option maxRecDepth 100000
set_option maxHeartbeats 1000000
set_option exponentiation.threshold 5000
namespace K22
open PySem L2 Evl PyProof.Rows RZ DL
theorem pu_mono {m n : Nat} {ns : List Int} (h : PuOk m ns) (l : m ≤ n) : PuOk n ns := by
  obtain ⟨a, b, c, t, e, h1, h2, ⟨c0, c1⟩, h4⟩ := h
  exact ⟨a, b, c, t, e, h1, h2, ⟨c0, by omega⟩, h4⟩
theorem small {x : Int} (h : x < 2 ^ 62) : x < 2 ^ 2000 := Int.lt_of_lt_of_le h (pw_le (by decide))
theorem mlen__law_one_of : ∀ qs xs Q, m__law_one_of qs xs Q → xs.length + 1 = ps__law_one_of.length := fun _ _ _ ⟨_, _, _, _, e, _⟩ => by rw [e]; rfl
theorem math__law_one_of : ∀ qs xs Q, m__law_one_of qs xs Q → bd__law_one_of { nx := fun ρ => pur0 ρ (Q .none), rt := fun _ d ρ => pur0 ρ (Q d) } (startP nm__law_one_of qs xs) := fun qs xs Q ⟨n, ns, ks, e1, e2, pu, hn, hk, hl, h⟩ => by
  subst e1 e2
  have h0 : 0 < ks.length := List.length_pos_iff.mpr hk
  have hm : (ks.map PyData.int).length = ks.length := List.length_map _
  refine ⟨n, ns, ((ks.map PyData.int).length : Int), rfl, rfl, pu, hn, ⟨by omega, small (by omega)⟩, fun d ms d0 d1 pu1 => ?_⟩
  refine ⟨_, at_gt ks (k := d.toNat) (by omega) (by omega), ?_⟩
  exact h _ ms (gt_mem (by omega)) pu1
theorem mlen__law_shuffled : ∀ qs xs Q, m__law_shuffled qs xs Q → xs.length + 1 = ps__law_shuffled.length := fun _ _ _ ⟨_, _, _, _, e, _⟩ => by rw [e]; rfl
theorem math__law_shuffled : ∀ qs xs Q, m__law_shuffled qs xs Q → bd__law_shuffled { nx := fun ρ => pur0 ρ (Q .none), rt := fun _ d ρ => pur0 ρ (Q d) } (startP nm__law_shuffled qs xs) := fun qs xs Q ⟨n, ns, ks, e1, e2, pu, hn, hl, h⟩ => by
  subst e1 e2
  refine ⟨by decide, ?_⟩
  refine ⟨fun i ρ => ∃ (ms : List Int) (l : List PyData) (x : Sl), ρ = [.pur (ms.map .int), .val (.list ks), .own l, x] ∧ l.Perm (ks.take i) ∧ PuOk (n + 100 * i) ms, ⟨ns, [], .no, rfl, List.Perm.refl _, pu⟩, ?_, ?_⟩
  · rintro i x ρ hi ⟨ms, l, s3, rfl, pe, pu1⟩
    have hy : ks[i]? = some x := hi
    have hi2 : i < ks.length := (List.getElem?_eq_some_iff.mp hy).1
    have ll : l.length = i := by rw [pe.length_eq, List.length_take]; omega
    refine ⟨_, ms, (l.length : Int) + 1, rfl, rfl, pu1, by omega, ⟨by omega, small (by omega)⟩, fun d ms2 d0 d1 pu2 => ?_⟩
    refine ⟨d, rfl, by omega, d0, by omega, ?_⟩
    refine ⟨ms2, l.take d.toNat ++ [x] ++ l.drop d.toNat, .val x, rfl, ?_, pu_mono pu2 (by omega)⟩
    rw [take_at hy, List.append_assoc]
    refine List.Perm.trans List.perm_middle ?_
    show (x :: (l.take d.toNat ++ l.drop d.toNat)).Perm _
    rw [List.take_append_drop]
    exact (List.Perm.cons x pe).trans (List.perm_append_singleton x _).symm
  · rintro ρ ⟨ms, l, s3, rfl, pe, pu1⟩
    rw [List.take_length] at pe
    exact h l ms pe (pu_mono pu1 (by omega))
end K22

set_option Elab.async false
set_option linter.all false
set_option maxRecDepth 100000
set_option maxHeartbeats 1000000
set_option exponentiation.threshold 5000
namespace K22
open PySem L2 Evl PyProof.Rows RZ DL
theorem mlen__law_row : ∀ qs xs Q, m__law_row qs xs Q → xs.length + 1 = ps__law_row.length := fun _ _ _ ⟨_, _, _, e, _⟩ => by rw [e]; rfl
theorem math__law_row : ∀ qs xs Q, m__law_row qs xs Q → bd__law_row { nx := fun ρ => pur0 ρ (Q .none), rt := fun _ d ρ => pur0 ρ (Q d) } (startP nm__law_row qs xs) := fun qs xs Q ⟨n, ns, e1, e2, pu, hn, h⟩ => by
  subst e1 e2
  refine ⟨n, ns, 40 + 1, rfl, rfl, pu, by omega, ⟨by decide, small (by decide)⟩, fun many ms d0 d1 pu1 => ?_⟩
  refine ⟨n + 100, ms, 5, rfl, rfl, pu1, by omega, ⟨by decide, small (by decide)⟩, fun way ms w0 w1 pu2 => ?_⟩
  have b10 : (Builtin.Int.intBits 10 : Int) = 4 := by decide
  refine ⟨⟨by decide, by decide⟩, ⟨by decide, by decide⟩, by decide, ?_⟩
  refine ⟨n + 200, ms, [60, 10 ^ (4 : Int).toNat, 10 ^ (12 : Int).toNat], rfl, rfl, pu2, by omega, by decide, by decide, fun wide ms hw pu3 => ?_⟩
  have wb : 60 ≤ wide ∧ wide ≤ 1000000000000 := by
    have e4 : (10 : Int) ^ (4 : Int).toNat = 10000 := by decide
    have e12 : (10 : Int) ^ (12 : Int).toNat = 1000000000000 := by decide
    rw [e4, e12] at hw
    simp only [List.mem_cons, List.not_mem_nil, or_false] at hw
    omega
  clear hw
  refine ⟨by decide, ⟨sz_abs (by decide), sz_abs (by omega)⟩, n + 300, ms, 2 * wide - 100, rfl, rfl, pu3, by omega, ⟨by omega, small (by omega)⟩, fun d ms l0 l1 pu4 => ?_⟩
  refine ⟨by omega, by omega, fun i ρ => ∃ (ms : List Int) (L : List Int) (s7 : Sl), ρ = [.pur (ms.map .int), .val (.int 40), .val (.int many), .val (.int way), .val (.int wide), .own (L.map PyData.int), .val (.int (d - wide + 50)), s7, .no, .no, .no, .no, .no] ∧ L.length = i ∧ (∀ x ∈ L, -(2 ^ 60) < x ∧ x < 2 ^ 60) ∧ PuOk (n + 400 + 100 * i) ms, ⟨ms, [], .no, rfl, rfl, fun _ z => (nomatch z), pu4⟩, ?_, ?_⟩
  · rintro i x ρ hi ⟨ms, L, s7, rfl, Ll, Lb, pu5⟩
    obtain ⟨hi1, rfl⟩ := rngD_at hi
    have hi2 : i < 41 := by omega
    rw [Int.zero_add]
    have fin : ∀ (z : Int) (ms : List Int), -(2 ^ 60) < z ∧ z < 2 ^ 60 → PuOk (n + 400 + 100 * (i + 1)) ms → (L.map PyData.int).length < 100000 ∧ ∃ (ms' : List Int) (L' : List Int) (s7 : Sl), [Sl.pur (ms.map .int), .val (.int 40), .val (.int many), .val (.int way), .val (.int wide), .own (L.map PyData.int ++ [.int z]), .val (.int (d - wide + 50)), .val (.int (i : Int)), .no, .no, .no, .no, .no] = [.pur (ms'.map .int), .val (.int 40), .val (.int many), .val (.int way), .val (.int wide), .own (L'.map PyData.int), .val (.int (d - wide + 50)), s7, .no, .no, .no, .no, .no] ∧ L'.length = i + 1 ∧ (∀ x ∈ L', -(2 ^ 60) < x ∧ x < 2 ^ 60) ∧ PuOk (n + 400 + 100 * (i + 1)) ms' := fun z ms hz pu => by
      refine ⟨by rw [List.length_map]; omega, ms, L ++ [z], .val (.int (i : Int)), by rw [List.map_append]; rfl, by rw [List.length_append, Ll]; rfl, fun y hy => ?_, pu⟩
      rcases List.mem_append.mp hy with hy | hy
      · exact Lb y hy
      · rw [List.mem_singleton.mp hy]
        exact hz
    refine ⟨⟨rfl, rfl⟩, ?_⟩
    rw [eqv_int]
    by_cases z : way = 0
    · rw [decide_eq_true z]
      exact fin _ ms (by omega) (pu_mono pu5 (by omega))
    · rw [decide_eq_false z]
      refine ⟨⟨rfl, rfl⟩, ?_⟩
      rw [eqv_int]
      by_cases y : wide = 60
      · rw [decide_eq_true y]
        refine ⟨⟨sz_abs (by omega), sz_abs (by decide)⟩, ?_⟩
        exact fin _ ms (by omega) (pu_mono pu5 (by omega))
      · rw [decide_eq_false y]
        refine ⟨⟨sz_abs (by decide), sz_abs (by omega)⟩, n + 400 + 100 * i, ms, 2 * wide - 1, rfl, rfl, pu5, by omega, ⟨by omega, small (by omega)⟩, fun d2 ms d20 d21 pu6 => ?_⟩
        exact fin _ ms (by omega) (pu_mono pu6 (by omega))
  rintro ρ ⟨ms, L, s7, rfl, Ll, Lb, pu5⟩
  rw [rngD_len] at Ll pu5
  refine ⟨by decide, ?_⟩
  refine ⟨L, rfl, by omega, fun ks kp km => ?_⟩
  have ro : RowOk ks := by
    have nd : ks.Nodup := kp.imp fun h => by omega
    refine ⟨nd, ?_, fun x hx => Lb x ((km x).mp hx)⟩
    have := List.Nodup.length_le_of_subset (l₂ := L) nd fun x hx => (km x).mp hx
    omega
  refine ⟨fun i ρ => ∃ s9, ρ = [.pur (ms.map .int), .val (.int 40), .val (.int many), .val (.int way), .val (.int wide), .val (.list (L.map PyData.int)), .val (.int (d - wide + 50)), s7, .own ((ks.take i).map PyData.int), s9, .no, .no, .no], ⟨.no, rfl⟩, ?_, ?_⟩
  · rintro i x ρ hi ⟨s9, rfl⟩
    obtain ⟨y, hy, rfl⟩ := map_at hi
    have hi2 := (List.getElem?_eq_some_iff.mp hy).1
    have kl := ro.len
    refine ⟨by rw [List.length_map, List.length_take]; omega, .val (.int y), ?_⟩
    rw [take_at hy, List.map_append]
    rfl
  rintro ρ ⟨s9, rfl⟩
  rw [List.length_map, List.take_length]
  have pu6 : PuOk (n + 5000) ms := pu_mono pu5 (by omega)
  have kl := ro.len
  clear pu5 Ll Lb kp km
  show (match (decide (way < 3)) with | true => _ | false => _)
  by_cases w3 : way < 3
  · rw [decide_eq_true w3]
    refine ⟨n + 5000, ms, ks.map PyData.int, rfl, rfl, pu6, by omega, by rw [List.length_map]; omega, fun js ms pj pu7 => ?_⟩
    obtain ⟨k, rfl, kp⟩ := perm_ints pj
    exact h k ms (ro.perm kp) (pu_mono pu7 (by omega))
  rw [decide_eq_false w3]
  refine ⟨⟨rfl, rfl⟩, ?_⟩
  rw [eqv_int]
  by_cases w4 : way = 3
  · rw [decide_eq_true w4]
    refine ⟨n + 5000, ms, 6, rfl, rfl, pu6, by omega, ⟨by decide, small (by decide)⟩, fun c ms c0 c1 pu7 => ?_⟩
    refine ⟨by omega, by omega, fun i ρ => ∃ (ms : List Int) (l : List Int) (s7 s8 s10 : Sl), ρ = [.pur (ms.map .int), .val (.int 40), .val (.int many), .val (.int way), .val (.int wide), .val (.list (L.map PyData.int)), .val (.int (d - wide + 50)), s7, s8, s9, s10, .no, .no] ∧ (s8 = .own (l.map PyData.int) ∨ s8 = .val (dints l)) ∧ l.Perm ks ∧ PuOk (n + 5100 + 100 * i) ms, ⟨ms, ks, s7, _, .no, rfl, .inl rfl, List.Perm.refl _, pu7⟩, ?_, ?_⟩
    · rintro i x ρ hi ⟨ms, l, s7, s8, s10, rfl, hs, pe, pu8⟩
      obtain ⟨hi1, rfl⟩ := rngD_at hi
      have hi2 : i < 6 := by omega
      have ll := pe.length_eq
      have lm : (l.map PyData.int).length = l.length := List.length_map _
      rcases hs with rfl | rfl
      · show (match (decide ((1 : Int) < ((l.map PyData.int).length : Int))) with | true => _ | false => _)
        by_cases g : 1 < l.length
        · rw [decide_eq_true (by omega)]
          refine ⟨n + 5100 + 100 * i, ms, ((l.map PyData.int).length : Int) - 1, rfl, rfl, pu8, by omega, ⟨by omega, small (by omega)⟩, fun a ms a0 a1 pu9 => ?_⟩
          obtain ⟨k, rfl⟩ : ∃ k : Nat, a = (k : Int) := ⟨a.toNat, by omega⟩
          have hk : k + 1 < l.length := by omega
          refine ⟨_, at_gt l (k := k + 1) hk (by omega), _, at_gt l (k := k) (by omega) rfl, (by decide : 2 ≤ 100000), ?_, ?_, ?_⟩
          · rw [cut_toI l k (by omega), List.length_map, List.length_take]
            show _ + 2 ≤ _
            omega
          · rw [cut_toI l k (by omega), show ((k : Int) + 2) = ((k + 2 : Nat) : Int) from by omega, cut_fromI l (k + 2) (by omega), List.length_append, List.length_map, List.length_map, List.length_take, List.length_drop]
            show _ + 2 + _ ≤ _
            omega
          refine ⟨ms, l.take k ++ [gt l (k + 1), gt l k] ++ l.drop (k + 2), .val (.int (0 + (i : Int))), _, .val (.int (k : Int)), rfl, .inr ?_, (swap_perm l hk).trans pe, pu_mono pu9 (by omega)⟩
          show Sl.val (.list _) = .val (.list _)
          rw [cut_toI l k (by omega), show ((k : Int) + 2) = ((k + 2 : Nat) : Int) from by omega, cut_fromI l (k + 2) (by omega), List.map_append, List.map_append]
          rfl
        · rw [decide_eq_false (by omega)]
          exact ⟨ms, l, .val (.int (0 + (i : Int))), _, s10, rfl, .inl rfl, pe, pu_mono pu8 (by omega)⟩
      · show (match (decide ((1 : Int) < ((l.map PyData.int).length : Int))) with | true => _ | false => _)
        by_cases g : 1 < l.length
        · rw [decide_eq_true (by omega)]
          refine ⟨n + 5100 + 100 * i, ms, ((l.map PyData.int).length : Int) - 1, rfl, rfl, pu8, by omega, ⟨by omega, small (by omega)⟩, fun a ms a0 a1 pu9 => ?_⟩
          obtain ⟨k, rfl⟩ : ∃ k : Nat, a = (k : Int) := ⟨a.toNat, by omega⟩
          have hk : k + 1 < l.length := by omega
          refine ⟨_, at_gt l (k := k + 1) hk (by omega), _, at_gt l (k := k) (by omega) rfl, (by decide : 2 ≤ 100000), ?_, ?_, ?_⟩
          · rw [cut_toI l k (by omega), List.length_map, List.length_take]
            show _ + 2 ≤ _
            omega
          · rw [cut_toI l k (by omega), show ((k : Int) + 2) = ((k + 2 : Nat) : Int) from by omega, cut_fromI l (k + 2) (by omega), List.length_append, List.length_map, List.length_map, List.length_take, List.length_drop]
            show _ + 2 + _ ≤ _
            omega
          refine ⟨ms, l.take k ++ [gt l (k + 1), gt l k] ++ l.drop (k + 2), .val (.int (0 + (i : Int))), _, .val (.int (k : Int)), rfl, .inr ?_, (swap_perm l hk).trans pe, pu_mono pu9 (by omega)⟩
          show Sl.val (.list _) = .val (.list _)
          rw [cut_toI l k (by omega), show ((k : Int) + 2) = ((k + 2 : Nat) : Int) from by omega, cut_fromI l (k + 2) (by omega), List.map_append, List.map_append]
          rfl
        · rw [decide_eq_false (by omega)]
          exact ⟨ms, l, .val (.int (0 + (i : Int))), _, s10, rfl, .inr rfl, pe, pu_mono pu8 (by omega)⟩
    · rintro ρ ⟨ms, l, s7, s8, s10, rfl, hs, pe, pu8⟩
      rw [rngD_len] at pu8
      have fin : ∀ (r : Int) ms, PuOk (n + 5900) ms → (match decide (r = 0) with | true => Q (dints l) (ms.map .int) | false => Q (.list (l.map PyData.int).reverse) (ms.map .int)) := fun r ms pu => by
        by_cases z : r = 0
        · rw [decide_eq_true z]
          exact h l ms (ro.perm pe) (pu_mono pu (by omega))
        · rw [decide_eq_false z]
          show Q (.list (l.map PyData.int).reverse) _
          rw [← List.map_reverse]
          exact h l.reverse ms (ro.perm ((List.reverse_perm l).trans pe)) (pu_mono pu (by omega))
      rcases hs with rfl | rfl
      · refine ⟨n + 5800, ms, 2, rfl, rfl, pu_mono pu8 (by omega), by omega, ⟨by decide, small (by decide)⟩, fun r ms r0 r1 pu9 => ⟨⟨rfl, rfl⟩, ?_⟩⟩
        rw [eqv_int]
        have q := fin r ms pu9
        cases w : decide (r = 0) with
        | true => rw [w] at q; exact q
        | false => rw [w] at q; exact q
      · refine ⟨n + 5800, ms, 2, rfl, rfl, pu_mono pu8 (by omega), by omega, ⟨by decide, small (by decide)⟩, fun r ms r0 r1 pu9 => ⟨⟨rfl, rfl⟩, ?_⟩⟩
        rw [eqv_int]
        have q := fin r ms pu9
        cases w : decide (r = 0) with
        | true => rw [w] at q; exact q
        | false => rw [w] at q; exact q
  · rw [decide_eq_false w4]
    refine ⟨n + 5000, ms, 7, rfl, rfl, pu6, by omega, ⟨by decide, small (by decide)⟩, fun b ms b0 b1 pu7 => ⟨by decide, ?_⟩⟩
    obtain ⟨B, eB⟩ : ∃ B : Nat, 1 + b = (B : Int) := ⟨(1 + b).toNat, by omega⟩
    rw [eB]
    refine ⟨by omega, by omega, fun i ρ => ∃ (J : List Nat) (s8 s10 : Sl), ρ = [.pur (ms.map .int), .val (.int 40), .val (.int many), .val (.int way), .val (.int wide), .val (.list (L.map PyData.int)), .val (.int (d - wide + 50)), s7, s8, s9, s10, .val (.int (B : Int)), .val (.list ((J.map (gt ks)).map PyData.int))] ∧ (s8 = .own (ks.map PyData.int) ∨ s8 = .val (dints ks)) ∧ J.Nodup ∧ ∀ j ∈ J, j < ks.length ∧ j % B < i, ⟨[], _, .no, rfl, .inl rfl, List.nodup_nil, fun _ z => (nomatch z)⟩, ?_, ?_⟩
    · rintro i x ρ hi ⟨J, s8, s10, rfl, hs, nd, hJ⟩
      obtain ⟨hi1, rfl⟩ := rngD_at hi
      have hi2 : i < B := by omega
      obtain ⟨I, eI, ndI, hI⟩ := pick_ix ks (a := i) (b := B) (by omega) hi2
      have lJ := List.Nodup.length_le_of_subset (l₂ := List.range ks.length) nd fun j hj => List.mem_range.mpr (hJ j hj).1
      have lI := List.Nodup.length_le_of_subset (l₂ := List.range ks.length) ndI fun j hj => List.mem_range.mpr (hI j hj).1
      rw [List.length_range] at lJ lI
      have eR : (pickL (ks.map PyData.int) (some (0 + (i : Int))) none (some (B : Int))).reverse = ((I.reverse).map (gt ks)).map PyData.int := by
        rw [Int.zero_add, eI, ← List.map_reverse, ← List.map_reverse]
      have nR : (J ++ I.reverse).Nodup := by
        rw [List.nodup_append]
        refine ⟨nd, ?_, fun a ha c hc e => ?_⟩
        · exact (List.reverse_perm I).nodup_iff.mpr ndI
        · have h1 := (hJ a ha).2
          have h2 := (hI c (List.mem_reverse.mp hc)).2
          rw [e] at h1
          omega
      have mR : ∀ j ∈ J ++ I.reverse, j < ks.length ∧ j % B < i + 1 := fun j hj => by
        rcases List.mem_append.mp hj with hj | hj
        · have := hJ j hj
          exact ⟨this.1, by omega⟩
        · have := hI j (List.mem_reverse.mp hj)
          exact ⟨this.1, by omega⟩
      rcases hs with rfl | rfl
      · refine ⟨fun e => by have := Option.some.inj e; omega, ?_, J ++ I.reverse, _, .val (.int (0 + (i : Int))), ?_, .inr rfl, nR, mR⟩
        · rw [eR, List.length_map, List.length_map, List.length_map, List.length_map, List.length_reverse]
          omega
        · rw [List.map_append, List.map_append, ← eR]
          rfl
      · refine ⟨fun e => by have := Option.some.inj e; omega, ?_, J ++ I.reverse, _, .val (.int (0 + (i : Int))), ?_, .inr rfl, nR, mR⟩
        · rw [eR, List.length_map, List.length_map, List.length_map, List.length_map, List.length_reverse]
          omega
        · rw [List.map_append, List.map_append, ← eR]
          rfl
    · rintro ρ ⟨J, s8, s10, rfl, hs, nd, hJ⟩
      exact h _ ms (ro.pick nd fun j hj => (hJ j hj).1) (pu_mono pu7 (by omega))
end K22

set_option Elab.async false
set_option linter.all false
set_option maxRecDepth 100000
set_option maxHeartbeats 1000000
set_option exponentiation.threshold 5000
namespace K22
open PySem L2 Evl PyProof.Rows RZ DL
theorem pl_all {L n : Nat} : ∀ {ds : List PyData}, plAll L n ds = true ↔ ∀ d ∈ ds, plD L n d = true
  | [] => by
    unfold plAll
    exact ⟨fun _ _ h => (nomatch h), fun _ => rfl⟩
  | d :: ds => by
    unfold plAll
    rw [Bool.and_eq_true, pl_all (ds := ds)]
    exact ⟨fun ⟨h1, h2⟩ x hx => by rcases List.mem_cons.mp hx with rfl | hx; exact h1; exact h2 x hx, fun h => ⟨h d List.mem_cons_self, fun x hx => h x (List.mem_cons_of_mem _ hx)⟩⟩
theorem pl_list {L n : Nat} {ds : List PyData} : plD L (n + 1) (.list ds) = true ↔ ds.length ≤ L ∧ ∀ d ∈ ds, plD L n d = true := by
  have e : plD L (n + 1) (.list ds) = (decide (ds.length ≤ L) && plAll L n ds) := by
    unfold plD
    rfl
  rw [e, Bool.and_eq_true, decide_eq_true_eq, pl_all]
theorem pl_tuple {L n : Nat} {ds : List PyData} : plD L (n + 1) (.tuple ds) = true ↔ ds.length ≤ L ∧ ∀ d ∈ ds, plD L n d = true := by
  have e : plD L (n + 1) (.tuple ds) = (decide (ds.length ≤ L) && plAll L n ds) := by
    unfold plD
    rfl
  rw [e, Bool.and_eq_true, decide_eq_true_eq, pl_all]
theorem pl_mono {L M : Nat} (hl : L ≤ M) : ∀ (n : Nat) (d : PyData), plD L n d = true → plD M n d = true
  | 0, d, h => by unfold plD at h; cases h
  | n + 1, d, h => by
    cases d with
    | list ds =>
      rw [pl_list] at h ⊢
      exact ⟨Nat.le_trans h.1 hl, fun d hd => pl_mono hl n d (h.2 d hd)⟩
    | tuple ds =>
      rw [pl_tuple] at h ⊢
      exact ⟨Nat.le_trans h.1 hl, fun d hd => pl_mono hl n d (h.2 d hd)⟩
    | dict _ => unfold plD at h; cases h
    | str _ => unfold plD at h; cases h
    | none => unfold plD; rfl
    | bool _ => unfold plD; rfl
    | int _ => unfold plD; rfl
theorem pl_int (L n : Nat) (i : Int) : plD L (n + 1) (.int i) = true := by unfold plD; rfl
theorem pl_bool (L n : Nat) (b : Bool) : plD L (n + 1) (.bool b) = true := by unfold plD; rfl
theorem pl_none (L n : Nat) : plD L (n + 1) .none = true := by unfold plD; rfl
theorem cut_mem {ds : List PyData} {lo hi : Option Int} {x : PyData} (h : x ∈ cutD ds lo hi) : x ∈ ds := by
  unfold DL.cutD at h
  exact List.mem_of_mem_drop (List.mem_of_mem_take h)
theorem cut_len (ds : List PyData) (lo hi : Option Int) : (cutD ds lo hi).length ≤ ds.length := by
  unfold DL.cutD
  rw [List.length_take, List.length_drop]
  omega
theorem cut_last (ds : List PyData) : (cutD ds (some (0 - 1)) none).length ≤ 1 := by
  unfold DL.cutD
  rw [HT.sIx_none, List.length_take, List.length_drop]
  have e : HT.sIx ds.length 0 (some (0 - 1)) = ((0 - 1 : Int) + (ds.length : Int)).toNat := by
    show (if (0 - 1 : Int) < 0 then ((0 - 1 : Int) + (ds.length : Int)).toNat else min (0 - 1 : Int).toNat ds.length) = _
    rw [if_pos (by decide)]
  rw [e]
  omega
theorem at_four {a b c d : PyData} {w : Int} (w0 : 0 ≤ w) (w1 : w < 4) {P : PyData → Prop} (ha : P a) (hb : P b) (hc : P c) (hd : P d) : ∃ x, atI [a, b, c, d] w = some x ∧ P x := by
  rcases (by omega : w = 0 ∨ w = 1 ∨ w = 2 ∨ w = 3) with rfl | rfl | rfl | rfl
  · exact ⟨a, rfl, ha⟩
  · exact ⟨b, rfl, hb⟩
  · exact ⟨c, rfl, hc⟩
  · exact ⟨d, rfl, hd⟩
theorem at_gen (ds : List PyData) {z : Int} (h0 : 0 ≤ z) (h : z < (ds.length : Int)) : ∃ x, x ∈ ds ∧ atI ds z = some x := by
  have hk : z.toNat < ds.length := by omega
  refine ⟨ds[z.toNat], List.getElem_mem _, ?_⟩
  unfold atI ixN
  rw [if_pos h0, if_pos h]
  show ds[z.toNat]? = _
  exact List.getElem?_eq_getElem hk
theorem cut_split (ds : List PyData) (a : Int) (h0 : 0 ≤ a) (h : a < (ds.length : Int)) : (cutD ds none (some a)).length + 1 + (cutD ds (some (a + 1)) none).length = ds.length := by
  obtain ⟨k, rfl⟩ : ∃ k : Nat, a = (k : Int) := ⟨a.toNat, by omega⟩
  unfold DL.cutD
  have e1 := HT.sIx_nat ds.length ds.length k
  have e2 := HT.sIx_nat ds.length 0 (k + 1)
  rw [Int.natCast_add] at e2
  rw [HT.sIx_none, HT.sIx_none, e1, show ((k : Int) + 1) = ((k : Nat) : Int) + ((1 : Nat) : Int) from rfl, e2, List.length_take, List.length_take, List.length_drop, List.length_drop]
  omega
theorem mlen_bend {n : Nat} : ∀ qs xs Q, mBend n qs xs Q → xs.length + 1 = ps__law_bend.length := fun _ _ _ ⟨_, _, _, _, e, _⟩ => by rw [e]; rfl
theorem math_bend0 : ∀ qs xs Q, mBend 0 qs xs Q → bd__law_bend (fun _ _ _ => False) { nx := fun ρ => pur0 ρ (Q .none), rt := fun _ d ρ => pur0 ρ (Q d) } (startP nm__law_bend qs xs) := fun qs xs Q ⟨_, _, d, _, _, h, _⟩ => by
  unfold plD at h
  cases h
theorem math_bend1 {n : Nat} : ∀ qs xs Q, mBend (n + 1) qs xs Q → bd__law_bend (mBend n) { nx := fun ρ => pur0 ρ (Q .none), rt := fun _ d ρ => pur0 ρ (Q d) } (startP nm__law_bend qs xs) := fun qs xs Q ⟨k, ns, d, e1, e2, pd, pu, hk, h⟩ => by
  subst e1 e2
  have hk2 : k + 1000 * n + 1000 ≤ 2 ^ 60 := by omega
  refine ⟨k, ns, 4, rfl, rfl, pu, by omega, ⟨by decide, small (by decide)⟩, fun w ms w0 w1 pu1 => ?_⟩
  cases d with
  | dict _ => unfold plD at pd; cases pd
  | str _ => unfold plD at pd; cases pd
  | none =>
    have q : ∀ e, plD 50001 (n + 1) e = true → Q e (ms.map .int) := fun e he => h e ms he (pu_mono pu1 (by omega))
    refine ⟨by decide, by decide, by decide, at_four w0 w1 ?_ ?_ ?_ ?_⟩
    · exact q _ (pl_int _ _ _)
    · exact q _ (pl_tuple.mpr ⟨by decide, fun _ h => (nomatch h)⟩)
    · exact q _ (pl_list.mpr ⟨by decide, fun _ h => (nomatch h)⟩)
    · exact q _ (pl_bool _ _ _)
  | bool b =>
    have q : ∀ e, plD 50001 (n + 1) e = true → Q e (ms.map .int) := fun e he => h e ms he (pu_mono pu1 (by omega))
    refine ⟨(by decide : 4 ≤ 100000), at_four w0 w1 ?_ ?_ ?_ ?_⟩
    · exact q _ (pl_bool _ _ _)
    · exact q _ (pl_int _ _ _)
    · exact q _ (pl_none _ _)
    · exact q _ (pl_bool _ _ _)
  | int i =>
    have q : ∀ e, plD 50001 (n + 1) e = true → Q e (ms.map .int) := fun e he => h e ms he (pu_mono pu1 (by omega))
    refine ⟨⟨rfl, rfl⟩, (by decide : 4 ≤ 100000), at_four w0 w1 ?_ ?_ ?_ ?_⟩
    · exact q _ (pl_int _ _ _)
    · exact q _ (pl_int _ _ _)
    · exact q _ (pl_int _ _ _)
    · exact q _ (pl_bool _ _ _)
  | list ds =>
    obtain ⟨dl, dm⟩ := pl_list.mp pd
    have pm : ∀ x ∈ ds, plD 50001 n x = true := fun x hx => pl_mono (by decide) n x (dm x hx)
    show (match (decide ((0 : Int) < (ds.length : Int))) with | true => _ | false => _)
    by_cases g : 0 < ds.length
    · rw [decide_eq_true (by omega)]
      refine ⟨k + 100, ms, 7, rfl, rfl, pu1, by omega, ⟨by decide, small (by decide)⟩, fun v ms v0 v1 pu2 => ?_⟩
      show (match (decide ((0 : Int) < v)) with | true => _ | false => _)
      by_cases y : 0 < v
      · rw [decide_eq_true y]
        refine ⟨k + 200, ms, (ds.length : Int), rfl, rfl, pu2, by omega, ⟨by omega, small (by omega)⟩, fun a ms a0 a1 pu3 => ?_⟩
        obtain ⟨x, xm, xa⟩ := at_gen ds a0 a1
        have cs := cut_split ds a a0 a1
        refine ⟨x, xa, k + 300, ms, x, rfl, rfl, dm x xm, pu3, by omega, fun e ms pe pu4 => ?_⟩
        refine ⟨(by decide : 1 ≤ 100000), by show _ + 1 ≤ _; omega, by rw [List.length_append]; show _ + 1 + _ ≤ _; omega, ?_⟩
        refine h _ ms (pl_list.mpr ⟨?_, fun z hz => ?_⟩) (pu_mono pu4 (by omega))
        · rw [List.length_append, List.length_append]
          show _ + 1 + _ ≤ _
          omega
        · rcases List.mem_append.mp hz with hz | hz
          · rcases List.mem_append.mp hz with hz | hz
            · exact pm z (cut_mem hz)
            · rw [List.mem_singleton.mp hz]
              exact pe
          · exact pm z (cut_mem hz)
      · rw [decide_eq_false y]
        have q : ∀ e, plD 50001 (n + 1) e = true → Q e (ms.map .int) := fun e he => h e ms he (pu_mono pu2 (by omega))
        have c2 := cut_last ds
        refine ⟨by omega, (by decide : 4 ≤ 100000), at_four w0 w1 ?_ ?_ ?_ ?_⟩
        · exact q _ (pl_tuple.mpr ⟨by omega, pm⟩)
        · exact q _ (pl_list.mpr ⟨by have := cut_len ds (some 1) none; omega, fun x hx => pm x (cut_mem hx)⟩)
        · exact q _ (pl_list.mpr ⟨by rw [List.length_append]; omega, fun x hx => (List.mem_append.mp hx).elim (pm x) fun hx => pm x (cut_mem hx)⟩)
        · exact q _ (pl_list.mpr ⟨by have := cut_len ds none (some (0 - 1)); omega, fun x hx => pm x (cut_mem hx)⟩)
    · rw [decide_eq_false (by omega)]
      have q : ∀ e, plD 50001 (n + 1) e = true → Q e (ms.map .int) := fun e he => h e ms he (pu_mono pu1 (by omega))
      have c2 := cut_last ds
      refine ⟨by omega, (by decide : 4 ≤ 100000), at_four w0 w1 ?_ ?_ ?_ ?_⟩
      · exact q _ (pl_tuple.mpr ⟨by omega, pm⟩)
      · exact q _ (pl_list.mpr ⟨by have := cut_len ds (some 1) none; omega, fun x hx => pm x (cut_mem hx)⟩)
      · exact q _ (pl_list.mpr ⟨by rw [List.length_append]; omega, fun x hx => (List.mem_append.mp hx).elim (pm x) fun hx => pm x (cut_mem hx)⟩)
      · exact q _ (pl_list.mpr ⟨by have := cut_len ds none (some (0 - 1)); omega, fun x hx => pm x (cut_mem hx)⟩)
  | tuple ds =>
    obtain ⟨dl, dm⟩ := pl_tuple.mp pd
    have pm : ∀ x ∈ ds, plD 50001 n x = true := fun x hx => pl_mono (by decide) n x (dm x hx)
    show (match (decide ((0 : Int) < (ds.length : Int))) with | true => _ | false => _)
    by_cases g : 0 < ds.length
    · rw [decide_eq_true (by omega)]
      refine ⟨k + 100, ms, 7, rfl, rfl, pu1, by omega, ⟨by decide, small (by decide)⟩, fun v ms v0 v1 pu2 => ?_⟩
      show (match (decide ((0 : Int) < v)) with | true => _ | false => _)
      by_cases y : 0 < v
      · rw [decide_eq_true y]
        refine ⟨k + 200, ms, (ds.length : Int), rfl, rfl, pu2, by omega, ⟨by omega, small (by omega)⟩, fun a ms a0 a1 pu3 => ?_⟩
        obtain ⟨x, xm, xa⟩ := at_gen ds a0 a1
        have cs := cut_split ds a a0 a1
        refine ⟨x, xa, k + 300, ms, x, rfl, rfl, dm x xm, pu3, by omega, fun e ms pe pu4 => ?_⟩
        refine ⟨(by decide : 1 ≤ 100000), by show _ + 1 ≤ _; omega, by rw [List.length_append]; show _ + 1 + _ ≤ _; omega, ?_⟩
        refine h _ ms (pl_tuple.mpr ⟨?_, fun z hz => ?_⟩) (pu_mono pu4 (by omega))
        · rw [List.length_append, List.length_append]
          show _ + 1 + _ ≤ _
          omega
        · rcases List.mem_append.mp hz with hz | hz
          · rcases List.mem_append.mp hz with hz | hz
            · exact pm z (cut_mem hz)
            · rw [List.mem_singleton.mp hz]
              exact pe
          · exact pm z (cut_mem hz)
      · rw [decide_eq_false y]
        have q : ∀ e, plD 50001 (n + 1) e = true → Q e (ms.map .int) := fun e he => h e ms he (pu_mono pu2 (by omega))
        have c2 := cut_last ds
        refine ⟨by omega, (by decide : 4 ≤ 100000), at_four w0 w1 ?_ ?_ ?_ ?_⟩
        · exact q _ (pl_list.mpr ⟨by omega, pm⟩)
        · exact q _ (pl_tuple.mpr ⟨by have := cut_len ds none (some (0 - 1)); omega, fun x hx => pm x (cut_mem hx)⟩)
        · exact q _ (pl_tuple.mpr ⟨by rw [List.length_append]; omega, fun x hx => (List.mem_append.mp hx).elim (pm x) fun hx => pm x (cut_mem hx)⟩)
        · exact q _ (pl_none _ _)
    · rw [decide_eq_false (by omega)]
      have q : ∀ e, plD 50001 (n + 1) e = true → Q e (ms.map .int) := fun e he => h e ms he (pu_mono pu1 (by omega))
      have c2 := cut_last ds
      refine ⟨by omega, (by decide : 4 ≤ 100000), at_four w0 w1 ?_ ?_ ?_ ?_⟩
      · exact q _ (pl_list.mpr ⟨by omega, pm⟩)
      · exact q _ (pl_tuple.mpr ⟨by have := cut_len ds none (some (0 - 1)); omega, fun x hx => pm x (cut_mem hx)⟩)
      · exact q _ (pl_tuple.mpr ⟨by rw [List.length_append]; omega, fun x hx => (List.mem_append.mp hx).elim (pm x) fun hx => pm x (cut_mem hx)⟩)
      · exact q _ (pl_none _ _)
end K22

set_option Elab.async false
set_option linter.all false
set_option maxRecDepth 100000
set_option maxHeartbeats 1000000
namespace K22
open PySem L2 Evl PyProof.Rows RZ DL
theorem set_swap {α : Type} (w : α) : ∀ (l : List α) (a : Nat) (v : α), l[a]? = some v → (v :: l.set a w).Perm (w :: l)
  | [], _, _, h => nomatch h
  | x :: l, 0, v, h => by
    cases h
    exact List.Perm.swap _ _ _
  | x :: l, a + 1, v, h => by
    show (v :: x :: l.set a w).Perm (w :: x :: l)
    exact (List.Perm.swap _ _ _).trans (((set_swap w l a v h).cons x).trans (List.Perm.swap _ _ _))
theorem set_perm {α : Type} {w v : α} {l m : List α} {a b : Nat} (p : l.Perm m) (hl : l[a]? = some v) (hm : m[b]? = some v) : (l.set a w).Perm (m.set b w) := by
  have h := (set_swap w l a v hl).trans ((p.cons w).trans (set_swap w m b v hm).symm)
  exact List.Perm.cons_inv h
theorem flat_set {f : List Nat} {i : Nat} : ∀ (F : List (List Nat)) (b : Nat), F[b]? = some f → ((F.set b (f ++ [i])).flatten).Perm (F.flatten ++ [i])
  | [], _, h => nomatch h
  | x :: F, 0, h => by
    cases h
    show ((f ++ [i]) ++ F.flatten).Perm ((f ++ F.flatten) ++ [i])
    rw [List.append_assoc, List.append_assoc]
    exact List.Perm.append_left f List.perm_append_comm
  | x :: F, b + 1, h => by
    show (x ++ (F.set b (f ++ [i])).flatten).Perm ((x ++ F.flatten) ++ [i])
    rw [List.append_assoc]
    exact List.Perm.append_left x (flat_set F b h)
theorem chB_snoc {way : Int} {row : List Int} {i : Nat} : ∀ (f : List Nat) (e : Nat), f.getLast? = some e → chB way row f = true → e < i → up way (gt row e) (gt row i) = true → chB way row (f ++ [i]) = true
  | [], _, h, _, _, _ => nomatch h
  | [a], e, h, _, l, u => by
    have ea : a = e := Option.some.inj (show some a = some e from h)
    subst ea
    show ((decide (a < i) && up way (gt row a) (gt row i)) && true) = true
    rw [decide_eq_true l, u]
    rfl
  | a :: b :: r, e, h, c, l, u => by
    have c : ((decide (a < b) && up way (gt row a) (gt row b)) && chB way row (b :: r)) = true := c
    rw [Bool.and_eq_true] at c
    show ((decide (a < b) && up way (gt row a) (gt row b)) && chB way row ((b :: r) ++ [i])) = true
    rw [c.1, chB_snoc (b :: r) e h c.2 l u]
    rfl
def gW (way : Int) (row : List Int) (e : Nat) : Int := gt row e * way
theorem gW_inj {way : Int} {row : List Int} (wo : WayOk way) (nd : row.Nodup) {i j : Nat} (hi : i < row.length) (hj : j < row.length) (e : gW way row i = gW way row j) : i = j := by
  refine gt_inj nd hi hj ?_
  unfold gW at e
  rcases wo with rfl | rfl <;> omega
structure Oc (way : Int) (row : List Int) (i : Nat) (E : List Nat) (F : List (List Nat)) (T : List Int) : Prop where
  pat : Pat way row i T
  len : E.length = F.length
  per : (E.map (gW way row)).Perm T
  lt : ∀ e ∈ E, e < i
  pil : ∀ (s : Nat) (e : Nat) (f : List Nat), E[s]? = some e → F[s]? = some f → f.getLast? = some e ∧ chB (-way) row f = true ∧ ∀ x ∈ f, x < i
  flat : (F.flatten).Perm (List.range i)
theorem Oc.zero (way : Int) (row : List Int) : Oc way row 0 [] [] [] := ⟨Pat.zero way row, rfl, List.Perm.nil, fun _ h => (nomatch h), fun _ _ _ h => (nomatch h), List.Perm.nil⟩
theorem Oc.ne {way : Int} {row : List Int} {i : Nat} {E F T} (o : Oc way row i E F T) (wo : WayOk way) (nd : row.Nodup) (hi : i < row.length) {v : Int} (h : v ∈ T) : v ≠ gW way row i := by
  intro z
  obtain ⟨e, he, rfl⟩ := List.mem_map.mp (o.per.mem_iff.mpr h)
  have le := o.lt e he
  have := gW_inj wo nd (by omega) hi z
  omega
theorem Oc.new {way : Int} {row : List Int} {i : Nat} {E : List Nat} {F : List (List Nat)} {T : List Int} (o : Oc way row i E F T) (wo : WayOk way) (nd : row.Nodup) (hi : i < row.length) (h : ∀ e ∈ E, ¬ gW way row i < gW way row e) : ∃ T', Oc way row (i + 1) (E ++ [i]) (F ++ [[i]]) T' := by
  have al : ∀ v ∈ T, v < gW way row i := fun v hv => by
    have := o.ne wo nd hi hv
    obtain ⟨e, he, rfl⟩ := List.mem_map.mp (o.per.mem_iff.mpr hv)
    have := h e he
    omega
  have ec : cnt T (gt row i * way) = T.length := by
    unfold cnt
    rw [show (T.filter fun t => decide (t < gt row i * way)) = T from List.filter_eq_self.mpr fun v hv => decide_eq_true (al v hv)]
  have ps := o.pat.succ hi
  unfold put at ps
  rw [if_pos ec] at ps
  refine ⟨_, ps, ?_, ?_, fun e he => ?_, fun s e f h1 h2 => ?_, ?_⟩
  · rw [List.length_append, List.length_append, o.len]
    rfl
  · rw [List.map_append]
    exact o.per.append_right _
  · rcases List.mem_append.mp he with he | he
    · have := o.lt e he
      omega
    · rw [List.mem_singleton.mp he]
      omega
  · by_cases z : s < E.length
    · rw [List.getElem?_append_left z] at h1
      rw [List.getElem?_append_left (by rw [← o.len]; exact z)] at h2
      obtain ⟨a, b, c⟩ := o.pil s e f h1 h2
      exact ⟨a, b, fun x hx => by have := c x hx; omega⟩
    · have sl := (List.getElem?_eq_some_iff.mp h1).1
      rw [List.length_append] at sl
      have sl : s < E.length + 1 := sl
      have es : s = E.length := by omega
      subst es
      rw [List.getElem?_append_right (Nat.le_refl _), Nat.sub_self] at h1
      rw [o.len, List.getElem?_append_right (Nat.le_refl _), Nat.sub_self] at h2
      cases h1
      cases h2
      exact ⟨rfl, rfl, fun x hx => by rw [List.mem_singleton.mp hx]; omega⟩
  · rw [List.flatten_append, List.range_succ]
    exact o.flat.append_right _
theorem Oc.old {way : Int} {row : List Int} {i : Nat} {E : List Nat} {F : List (List Nat)} {T : List Int} (o : Oc way row i E F T) (wo : WayOk way) (nd : row.Nodup) (hi : i < row.length) {b e0 : Nat} {f0 : List Nat} (hb : E[b]? = some e0) (hf : F[b]? = some f0) (hg : gW way row i < gW way row e0) (hm : ∀ e ∈ E, gW way row i < gW way row e → gW way row e0 ≤ gW way row e) : ∃ T', Oc way row (i + 1) (E.set b i) (F.set b (f0 ++ [i])) T' := by
  have eb := List.mem_of_getElem? hb
  obtain ⟨k, hk⟩ := List.getElem?_of_mem (o.per.mem_iff.mp (List.mem_map.mpr ⟨e0, eb, rfl⟩))
  have kl := (List.getElem?_eq_some_iff.mp hk).1
  have c1 := cnt_lt (gt row i * way) T o.pat.inc k _ hk
  have ce : (T.filter fun t => decide (t < gt row i * way)).length = cnt T (gt row i * way) := rfl
  rw [ce] at c1
  have eg : gW way row i = gt row i * way := rfl
  have ck : cnt T (gt row i * way) ≤ k := by omega
  have ps := o.pat.succ hi
  have cc := cnt_lt (gt row i * way) T o.pat.inc (cnt T (gt row i * way)) T[cnt T (gt row i * way)] (List.getElem?_eq_getElem (by omega))
  rw [ce] at cc
  have tc : T[cnt T (gt row i * way)]? = some (gW way row e0) := by
    have hx : T[cnt T (gt row i * way)]? = some T[cnt T (gt row i * way)] := List.getElem?_eq_getElem (by omega)
    have hn := o.ne wo nd hi (List.mem_of_getElem? hx)
    obtain ⟨e1, h1, h2⟩ := List.mem_map.mp (o.per.mem_iff.mpr (List.mem_of_getElem? hx))
    have hle := hm e1 h1 (by omega)
    have hge : T[cnt T (gt row i * way)] ≤ gW way row e0 := by
      by_cases z : cnt T (gt row i * way) = k
      · have : T[cnt T (gt row i * way)]? = T[k]? := by rw [z]
        rw [hx, hk] at this
        have := Option.some.inj this
        omega
      · have := o.pat.inc _ k _ _ (by omega) hx hk
        omega
    rw [hx]
    congr 1
    omega
  unfold put at ps
  rw [if_neg (by omega)] at ps
  have bl := (List.getElem?_eq_some_iff.mp hb).1
  have le0 := o.lt e0 eb
  refine ⟨_, ps, ?_, ?_, fun e he => ?_, fun s e f h1 h2 => ?_, ?_⟩
  · rw [List.length_set, List.length_set, o.len]
  · rw [List.map_set]
    exact set_perm o.per (by rw [List.getElem?_map, hb]; rfl) tc
  · rcases List.mem_or_eq_of_mem_set he with he | rfl
    · have := o.lt e he
      omega
    · omega
  · by_cases z : b = s
    · subst z
      rw [List.getElem?_set_self bl] at h1
      rw [List.getElem?_set_self (by rw [← o.len]; exact bl)] at h2
      cases h1
      cases h2
      obtain ⟨a1, a2, a3⟩ := o.pil b e0 f0 hb hf
      refine ⟨List.getLast?_concat, chB_snoc f0 e0 a1 a2 le0 ?_, fun x hx => ?_⟩
      · rw [up_neg, up_mul]
        exact decide_eq_true hg
      · rcases List.mem_append.mp hx with hx | hx
        · have := a3 x hx
          omega
        · rw [List.mem_singleton.mp hx]
          omega
    · rw [List.getElem?_set_ne z] at h1 h2
      obtain ⟨a, b, c⟩ := o.pil s e f h1 h2
      exact ⟨a, b, fun x hx => by have := c x hx; omega⟩
  · refine (flat_set F b hf).trans ?_
    rw [List.range_succ]
    exact o.flat.append_right _
theorem numD_nat (l : List Nat) : (l.map natD).map numD = l := by
  rw [List.map_map]
  exact (List.map_congr_left fun _ _ => rfl).trans (List.map_id l)
theorem flat_nats : ∀ F : List (List Nat), ((F.map natsD).flatMap itemsD).map numD = F.flatten
  | [] => rfl
  | f :: F => by
    rw [List.map_cons, List.flatMap_cons, List.map_append, flat_nats F]
    show (f.map natD).map numD ++ _ = f ++ _
    rw [numD_nat]
theorem goes_nats {way : Int} {row : List Int} {f : List Nat} (h1 : chB way row f = true) (h2 : ∀ x ∈ f, x < row.length) : goesB way row (natsD f) = true := by
  show ((f.map natD).all (inR row.length) && chB way row ((f.map natD).map numD)) = true
  rw [numD_nat, h1, Bool.and_true, List.all_map, List.all_eq_true]
  intro x hx
  have := h2 x hx
  exact decide_eq_true ⟨by omega, by omega⟩
/-- lists that make a covering -/
theorem cov_of {way : Int} {row : List Int} {F : List (List Nat)} {js : List PyData} (rl : row.length ≤ 200) (hp : js.Perm (F.map natsD)) (hl : F.length = most way row) (hf : ∀ f ∈ F, f ≠ [] ∧ chB (-way) row f = true ∧ ∀ x ∈ f, x < row.length) (fl : F.flatten.Perm (List.range row.length)) : covB way row (.list js) = true ∧ plD 1000 4 (.list js) = true := by
  have jl : js.length = most way row := by rw [hp.length_eq, List.length_map, hl]
  have ml := most_le way row
  have mem : ∀ p ∈ js, ∃ f ∈ F, natsD f = p := fun p hp2 => List.mem_map.mp (hp.mem_iff.mp hp2)
  refine ⟨?_, pl_list.mpr ⟨by omega, fun p hp2 => ?_⟩⟩
  · show (decide (js.length = most way row) && (js.all (fun p => goesB (-way) row p && neB p) && decide (((js.flatMap itemsD).map numD).Perm (List.range row.length)))) = true
    rw [decide_eq_true jl, Bool.true_and, Bool.and_eq_true]
    refine ⟨List.all_eq_true.mpr fun p hp2 => ?_, decide_eq_true ?_⟩
    · obtain ⟨f, hf2, rfl⟩ := mem p hp2
      obtain ⟨h1, h2, h3⟩ := hf f hf2
      rw [goes_nats h2 h3]
      cases f with
      | nil => exact absurd rfl h1
      | cons _ _ => rfl
    · have := (hp.flatMap_right itemsD).map numD
      rw [flat_nats] at this
      exact this.trans fl
  · obtain ⟨f, hf2, rfl⟩ := mem p hp2
    obtain ⟨h1, h2, h3⟩ := hf f hf2
    have : f.length ≤ row.length := by
      cases f with
      | nil => exact Nat.zero_le _
      | cons a l =>
        have := chB_len l a h2 h3
        omega
    refine pl_list.mpr ⟨by rw [List.length_map]; omega, fun d hd => ?_⟩
    obtain ⟨k, _, rfl⟩ := List.mem_map.mp hd
    exact pl_int _ _ _
theorem Oc.cov {way : Int} {row : List Int} {E F T} {js : List PyData} (o : Oc way row row.length E F T) (wo : WayOk way) (rl : row.length ≤ 200) (hp : js.Perm (F.map natsD)) : covB way row (.list js) = true ∧ plD 1000 4 (.list js) = true := by
  have tl := o.pat.lenT (Nat.le_refl _)
  rw [List.take_length, lv_most way wo] at tl
  have pl := o.per.length_eq
  rw [List.length_map, o.len] at pl
  refine cov_of rl hp (by omega) (fun f hf => ?_) o.flat
  obtain ⟨s, hs⟩ := List.getElem?_of_mem hf
  have sl := (List.getElem?_eq_some_iff.mp hs).1
  have sE : s < E.length := by rw [o.len]; exact sl
  obtain ⟨a, b, c⟩ := o.pil s E[s] f (List.getElem?_eq_getElem sE) hs
  refine ⟨fun z => ?_, b, c⟩
  rw [z] at a
  cases a
end K22

set_option Elab.async false
set_option linter.all false
set_option maxRecDepth 100000
set_option maxHeartbeats 1000000
set_option exponentiation.threshold 5000
namespace K22
open PySem L2 Evl PyProof.Rows RZ DL
theorem min_pair : ∀ (xs : List (Int × Int)) (x : Int × Int), PySem.W.minOf x xs ∈ x :: xs ∧ ∀ y ∈ x :: xs, (PySem.W.minOf x xs).1 ≤ y.1
  | [], x => ⟨List.mem_cons_self, fun y hy => by rw [List.mem_singleton.mp hy]; exact Int.le_refl _⟩
  | y :: ys, x => by
    have e : PySem.W.minOf x (y :: ys) = PySem.W.minOf (if PySem.W.DatumOrd.lt y x = true then y else x) ys := rfl
    rw [e]
    have el : PySem.W.DatumOrd.lt y x = (if y.1 = x.1 then decide (y.2 < x.2) else decide (y.1 < x.1)) := rfl
    rw [el]
    by_cases z : (if y.1 = x.1 then decide (y.2 < x.2) else decide (y.1 < x.1)) = true
    · rw [if_pos z]
      obtain ⟨h1, h2⟩ := min_pair ys y
      have hy : y.1 ≤ x.1 := by
        by_cases w : y.1 = x.1
        · omega
        · rw [if_neg w] at z
          have := of_decide_eq_true z
          omega
      refine ⟨List.mem_cons_of_mem _ h1, fun t ht => ?_⟩
      rcases List.mem_cons.mp ht with rfl | ht
      · have := h2 y List.mem_cons_self
        omega
      · exact h2 t ht
    · rw [if_neg z]
      obtain ⟨h1, h2⟩ := min_pair ys x
      have hy : x.1 ≤ y.1 := by
        by_cases w : y.1 = x.1
        · omega
        · rw [if_neg w] at z
          have : ¬ y.1 < x.1 := fun q => z (decide_eq_true q)
          omega
      refine ⟨?_, fun t ht => ?_⟩
      · rcases List.mem_cons.mp h1 with h | h
        · rw [h]; exact List.mem_cons_self
        · exact List.mem_cons_of_mem _ (List.mem_cons_of_mem _ h)
      · rcases List.mem_cons.mp ht with rfl | ht
        · exact h2 t List.mem_cons_self
        · rcases List.mem_cons.mp ht with rfl | ht
          · have := h2 x List.mem_cons_self
            omega
          · exact h2 t (List.mem_cons_of_mem _ ht)
def pD (p : Int × Int) : PyData := .tuple [.int p.1, .int p.2]
theorem at_nats (l : List (List Nat)) {z : Int} {k : Nat} (h : k < l.length) (e : z = (k : Int)) : atI (l.map natsD) z = some (natsD (l.getD k [])) := by
  subst e
  unfold atI ixN
  rw [List.length_map, if_pos (by omega), if_pos (by omega)]
  show (l.map natsD)[(k : Int).toNat]? = _
  rw [Int.toNat_natCast, List.getElem?_map, List.getD_eq_getElem?_getD, List.getElem?_eq_getElem h]
  rfl
theorem abs_gW {way a b : Int} (wo : WayOk way) (h : (a - b) * way < 0) : (if b - a < 0 then -(b - a) else b - a) = b * way - a * way := by
  rcases wo with rfl | rfl
  · rw [if_neg (by omega)]
    omega
  · rw [if_pos (by omega)]
    omega
theorem mlen__law_own_covering : ∀ qs xs Q, m__law_own_covering qs xs Q → xs.length + 1 = ps__law_own_covering.length := fun _ _ _ ⟨_, _, _, _, _, ⟨e, _⟩, _⟩ => by rw [e]; rfl
theorem math__law_own_covering : ∀ qs xs Q, m__law_own_covering qs xs Q → bd__law_own_covering { nx := fun ρ => pur0 ρ (Q .none), rt := fun _ d ρ => pur0 ρ (Q d) } (startP nm__law_own_covering qs xs) := fun qs xs Q ⟨n, ns, way, row, e1, ⟨e2, ro, wo⟩, pu, hn, h⟩ => by
  subst e1 e2
  have rl := ro.len
  have hn := dints_len row
  refine ⟨by decide, by decide, by omega, by omega, ?_⟩
  refine ⟨fun i ρ => ∃ (E : List Nat) (F : List (List Nat)) (T : List Int) (s5 s6 s7 : Sl), ρ = [.pur (ns.map .int), .val (dints row), .val (.int way), .own (E.map natD), .own (F.map natsD), s5, s6, s7, .no, .no] ∧ Oc way row i E F T, ⟨[], [], [], .no, .no, .no, rfl, Oc.zero way row⟩, ?_, ?_⟩
  · rintro i x ρ hi ⟨E, F, T, s5, s6, s7, rfl, o⟩
    obtain ⟨hi1, rfl⟩ := rngD_at hi
    have hi2 : i < row.length := by omega
    rw [Int.zero_add]
    have bi := ro.b hi2
    have El : E.length ≤ i := by
      have := o.per.length_eq
      rw [List.length_map] at this
      rw [this]
      exact o.pat.lenle (by omega)
    have Fl : F.length = E.length := o.len.symm
    have Eb : ∀ s, s < E.length → E.getD s 0 < i := fun s hs => by
      rw [List.getD_eq_getElem?_getD, List.getElem?_eq_getElem hs]
      exact o.lt _ (List.getElem_mem _)
    refine ⟨by decide, fun k ρ acc => ρ = [.pur (ns.map .int), .val (dints row), .val (.int way), .own (E.map natD), .own (F.map natsD), .val (.int (i : Int)), s6, s7, .no, .no] ∧ acc = ((List.range k).filter fun s => decide ((gt row i - gt row (E.getD s 0)) * way < 0)).map natD, ⟨rfl, rfl⟩, ?_, ?_, ?_⟩
    · rintro k ρ acc ⟨rfl, rfl⟩
      rfl
    · rintro k x ρ acc hk ⟨rfl, rfl⟩
      obtain ⟨dd, hd, rfl⟩ := enumD_at _ _ _ _ (show (enumD 0 (E.map natD))[k]? = some x from hk)
      obtain ⟨e, he, rfl⟩ := map_at hd
      have kl := (List.getElem?_eq_some_iff.mp he).1
      have ed : E.getD k 0 = e := by rw [List.getD_eq_getElem?_getD, he]; rfl
      have eb := Eb k kl
      rw [ed] at eb
      have be := ro.b (i := e) (by omega)
      have fl := filt_len (fun s => decide ((gt row i - gt row (E.getD s 0)) * way < 0)) k
      have fs := filt_succ (fun s => decide ((gt row i - gt row (E.getD s 0)) * way < 0)) k
      rw [Nat.zero_add]
      refine ⟨_, at_gt row (k := i) hi2 rfl, _, at_gt row (k := e) (by omega) rfl, ⟨sz_abs (by omega), sz_abs (way_b wo)⟩, ?_⟩
      show (match (decide ((gt row i - gt row e) * way < 0)) with | true => _ | false => _)
      by_cases z : (gt row i - gt row e) * way < 0
      · rw [decide_eq_true z]
        refine ⟨by rw [List.length_map]; omega, rfl, ?_⟩
        rw [fs, if_pos (by rw [ed]; exact decide_eq_true z), List.map_append]
        rfl
      · rw [decide_eq_false z]
        refine ⟨rfl, ?_⟩
        rw [fs, if_neg (by rw [ed, decide_eq_false z]; exact Bool.false_ne_true), List.append_nil]
    rintro ρ acc ⟨rfl, rfl⟩
    rw [List.length_map]
    generalize eS : (List.range E.length).filter (fun s => decide ((gt row i - gt row (E.getD s 0)) * way < 0)) = S
    have Sm : ∀ s, s ∈ S ↔ s < E.length ∧ (gt row i - gt row (E.getD s 0)) * way < 0 := fun s => by
      rw [← eS, List.mem_filter, List.mem_range, decide_eq_true_eq]
    have Sl2 : S.length ≤ E.length := by
      rw [← eS]
      exact filt_len _ _
    have gl : ∀ e, (gt row i - gt row e) * way < 0 ↔ gW way row i < gW way row e := fun e => by
      unfold gW
      rw [Int.sub_mul]
      omega
    refine ⟨by decide, ⟨shaped_nats (by omega), rfl⟩, ?_⟩
    rw [eqv_empL]
    by_cases z : S = []
    · rw [decide_eq_true (by rw [z]; rfl)]
      obtain ⟨T', o'⟩ := o.new wo ro.nd hi2 fun e he hg => by
        obtain ⟨s, hs⟩ := List.getElem?_of_mem he
        have sl := (List.getElem?_eq_some_iff.mp hs).1
        have ed : E.getD s 0 = e := by rw [List.getD_eq_getElem?_getD, hs]; rfl
        have : s ∈ S := (Sm s).mpr ⟨sl, by rw [ed]; exact (gl e).mpr hg⟩
        rw [z] at this
        cases this
      refine ⟨(by decide : 1 ≤ 100000), ?_, (by decide : 1 ≤ 100000), (by decide : 1 ≤ 100000), ?_, E ++ [i], F ++ [[i]], T', ?u5, ?u6, ?u7, ?eq, o'⟩
      case eq =>
        rw [List.map_append, List.map_append]
        rfl
      · rw [List.length_map]
        show _ + 1 ≤ _
        omega
      · rw [List.length_map]
        show _ + 1 ≤ _
        omega
    · rw [decide_eq_false (fun q => z (List.map_eq_nil_iff.mp q))]
      let V : Nat → Int × Int := fun s => (gW way row (E.getD s 0) - gW way row i, (s : Int))
      refine ⟨fun k ρ acc => ρ = [.pur (ns.map .int), .val (dints row), .val (.int way), .own (E.map natD), .own (F.map natsD), .val (.int (i : Int)), .val (natsD S), s7, .no, .no] ∧ acc = ((S.take k).map V).map pD, ⟨rfl, rfl⟩, ?_, ?_⟩
      · rintro k x ρ acc hk ⟨rfl, rfl⟩
        obtain ⟨s, hs, rfl⟩ := map_at hk
        have kl := (List.getElem?_eq_some_iff.mp hs).1
        obtain ⟨sl, sg⟩ := (Sm s).mp (List.mem_of_getElem? hs)
        have eb := Eb s sl
        refine ⟨_, at_nat E (k := s) sl rfl, _, at_gt row (k := E.getD s 0) (by omega) rfl, _, at_gt row (k := i) hi2 rfl, ?_⟩
        have ea := abs_gW wo sg
        refine ⟨(by decide : 2 ≤ 100000), by rw [List.length_map, List.length_map, List.length_take]; omega, rfl, ?_⟩
        show _ ++ [PyData.tuple [.int (if gt row (E.getD s 0) - gt row i < 0 then -(gt row (E.getD s 0) - gt row i) else gt row (E.getD s 0) - gt row i), natD s]] = _
        rw [ea, take_at hs, List.map_append, List.map_append]
        rfl
      rintro ρ acc ⟨rfl, rfl⟩
      rw [List.length_map, List.take_length]
      obtain ⟨s0, S', eSS⟩ : ∃ a l, S = a :: l := by
        cases S with
        | nil => exact absurd rfl z
        | cons a l => exact ⟨a, l, rfl⟩
      have mp := min_pair (S'.map V) (V s0)
      have em : PySem.W.minD (pD (V s0)) ((S'.map V).map pD) = pD (PySem.W.minOf (V s0) (S'.map V)) := PySem.W.minD_map (V s0) (S'.map V)
      have eV : V s0 :: S'.map V = S.map V := by rw [eSS]; rfl
      rw [eV] at mp
      obtain ⟨b, hb, hbV⟩ := List.mem_map.mp mp.1
      obtain ⟨bl, bg⟩ := (Sm b).mp hb
      have ebl := Eb b bl
      refine ⟨pD (V s0), (S'.map V).map pD, by rw [eSS]; rfl, ?_, ?_, ?_⟩
      · have := PySem.W.alikeAll_datum (V s0 :: S'.map V)
        exact this
      · refine fit_shaped (n := 10) (fit_list ?_ fun d hd => ?_) (by decide)
        · have e3 : (pD (V s0) :: (S'.map V).map pD).length = S.length := by
            rw [eSS, List.length_cons, List.length_map, List.length_map, List.length_cons]
          omega
        · obtain ⟨p, _, rfl⟩ := List.mem_map.mp (show d ∈ (V s0 :: S'.map V).map pD from hd)
          refine fit_tuple (n := 8) (by decide : 2 ≤ 100000) fun y hy => ?_
          rcases List.mem_cons.mp hy with rfl | hy
          · exact fit_int 7 _
          · rw [List.mem_singleton.mp hy]
            exact fit_int 7 _
      rw [em, ← hbV]
      refine ⟨.int (b : Int), rfl, ?_⟩
      have hE : E[b]? = some (E.getD b 0) := by
        rw [List.getD_eq_getElem?_getD, List.getElem?_eq_getElem bl]
        rfl
      have hF : F[b]? = some (F.getD b []) := by
        rw [List.getD_eq_getElem?_getD, List.getElem?_eq_getElem (by omega)]
        rfl
      obtain ⟨T', o'⟩ := o.old wo ro.nd hi2 hE hF ((gl _).mp bg) fun e he hg => by
        obtain ⟨s, hs⟩ := List.getElem?_of_mem he
        have sl := (List.getElem?_eq_some_iff.mp hs).1
        have ed : E.getD s 0 = e := by rw [List.getD_eq_getElem?_getD, hs]; rfl
        have sS : s ∈ S := (Sm s).mpr ⟨sl, by rw [ed]; exact (gl e).mpr hg⟩
        have := mp.2 _ (List.mem_map.mpr ⟨s, sS, rfl⟩)
        rw [← hbV] at this
        have h3 : gW way row (E.getD b 0) - gW way row i ≤ gW way row (E.getD s 0) - gW way row i := this
        rw [ed] at h3
        omega
      have fb : (F.getD b []).length ≤ row.length := by
        have p := (o.pil b _ _ hE hF)
        have c2 := p.2.1
        have c3 := p.2.2
        generalize F.getD b [] = f at c2 c3
        cases f with
        | nil => exact Nat.zero_le _
        | cons a l =>
          have := chB_len l a c2 (fun x hx => by have := c3 x hx; exact (by omega : x < row.length))
          omega
      refine ⟨b, ixN_nat (by rw [List.length_map]; exact bl) rfl, ?_⟩
      refine ⟨_, at_nats F (k := b) (by omega) rfl, (by decide : 1 ≤ 100000), ?_, ?_⟩
      · rw [List.length_map]
        show _ + 1 ≤ _
        omega
      refine ⟨b, ixN_nat (by rw [List.length_map]; omega) rfl, E.set b i, F.set b (F.getD b [] ++ [i]), T', ?v5, ?v6, ?v7, ?eq2, o'⟩
      case eq2 =>
        rw [List.map_set, List.map_set, show natsD (F.getD b [] ++ [i]) = .list ((F.getD b []).map natD ++ [natD i]) from by unfold natsD; rw [List.map_append]; rfl]
        rfl
  · rintro ρ ⟨E, F, T, s5, s6, s7, rfl, o⟩
    rw [rngD_len] at o
    have en : (((row.map PyData.int).length : Int)).toNat = row.length := by omega
    rw [en] at o
    have Fl : F.length ≤ row.length := by
      have := o.per.length_eq
      rw [List.length_map] at this
      have := o.pat.lenle (Nat.le_refl _)
      have := o.len
      omega
    refine ⟨n, ns, F.map natsD, rfl, rfl, pu, by omega, by rw [List.length_map]; omega, fun js ms pj pu1 => ?_⟩
    obtain ⟨h1, h2⟩ := o.cov wo rl pj
    exact h _ ms h1 h2 pu1
end K22

set_option Elab.async false
set_option linter.all false
set_option maxRecDepth 100000
set_option maxHeartbeats 1000000
namespace K22
open PySem L2 Evl PyProof.Rows RZ DL
theorem Pat.ex (way : Int) (row : List Int) : ∀ i, i ≤ row.length → ∃ T, Pat way row i T
  | 0, _ => ⟨[], Pat.zero way row⟩
  | i + 1, h => by
    obtain ⟨T, p⟩ := Pat.ex way row i (by omega)
    exact ⟨_, p.succ (by omega)⟩
theorem lv_pre (way : Int) (row : List Int) {i j : Nat} (hj : j < i) : ∀ m, i + m ≤ row.length → (lv way (row.take (i + m))).getD j 0 = (lv way (row.take i)).getD j 0
  | 0, _ => rfl
  | m + 1, h => by
    rw [show i + (m + 1) = (i + m) + 1 from rfl, lv_succ way row (i := i + m) (by omega)]
    have ll := lv_len way (row.take (i + m))
    rw [List.length_take] at ll
    rw [getD_app1 _ _ (by omega)]
    exact lv_pre way row hj m (by omega)
theorem lv_pre' (way : Int) (row : List Int) {i j : Nat} (hj : j < i) (hi : i ≤ row.length) : (lv way (row.take i)).getD j 0 = (lv way row).getD j 0 := by
  have := lv_pre way row hj (row.length - i) (by omega)
  rw [show i + (row.length - i) = row.length from by omega, List.take_length] at this
  exact this.symm
theorem lv_up (way : Int) (row : List Int) {a b : Nat} (hab : a < b) (hb : b < row.length) (u : up way (gt row a) (gt row b) = true) : (lv way row).getD a 0 < (lv way row).getD b 0 := by
  have h1 := lv_pre' way row (i := b + 1) (j := b) (by omega) (by omega)
  have h2 := lv_pre' way row (i := b) (j := a) hab (by omega)
  have ll := lv_len way (row.take b)
  rw [List.length_take] at ll
  rw [lv_succ way row hb, getD_app2 _ _ (by omega)] at h1
  have m : (lv way (row.take b)).getD a 0 ≤ mxN (((List.range b).filter fun j => up way (gt row j) (gt row b)).map fun j => (lv way (row.take b)).getD j 0) := le_mxN (List.mem_map.mpr ⟨a, List.mem_filter.mpr ⟨List.mem_range.mpr hab, u⟩, rfl⟩)
  omega
theorem pw_chB {way : Int} {row : List Int} : ∀ f : List Nat, f.Pairwise (fun a b => a < b ∧ up way (gt row a) (gt row b) = true) → chB way row f = true
  | [], _ => rfl
  | [_], _ => rfl
  | a :: b :: r, h => by
    have h1 := List.rel_of_pairwise_cons h List.mem_cons_self
    show ((decide (a < b) && up way (gt row a) (gt row b)) && chB way row (b :: r)) = true
    rw [decide_eq_true h1.1, h1.2, pw_chB (b :: r) (List.Pairwise.of_cons h)]
    rfl
theorem chB_pw {way : Int} {row : List Int} (wo : WayOk way) : ∀ f : List Nat, chB way row f = true → f.Pairwise (fun a b => a < b ∧ up way (gt row a) (gt row b) = true)
  | [], _ => List.Pairwise.nil
  | [a], _ => List.pairwise_singleton _ _
  | a :: b :: r, h => by
    have h : ((decide (a < b) && up way (gt row a) (gt row b)) && chB way row (b :: r)) = true := h
    rw [Bool.and_eq_true, Bool.and_eq_true] at h
    have ih := chB_pw wo (b :: r) h.2
    refine List.pairwise_cons.mpr ⟨fun x hx => ?_, ih⟩
    rcases List.mem_cons.mp hx with rfl | hx
    · exact ⟨of_decide_eq_true h.1.1, h.1.2⟩
    · have := List.rel_of_pairwise_cons ih hx
      have := of_decide_eq_true h.1.1
      exact ⟨by omega, up_trans wo h.1.2 (List.rel_of_pairwise_cons ih hx).2⟩
theorem row_range (row : List Int) : row = (List.range row.length).map (gt row) := by
  refine List.ext_getElem (by rw [List.length_map, List.length_range]) fun i h1 h2 => ?_
  rw [List.getElem_map, List.getElem_range]
  unfold gt
  rw [List.getD_eq_getElem?_getD, List.getElem?_eq_getElem h1]
  rfl
theorem sub_range {l : List Nat} {n : Nat} (pw : l.Pairwise (· < ·)) (h : ∀ x ∈ l, x < n) : l.Sublist (List.range n) := by
  have e : l = (List.range n).filter fun x => decide (x ∈ l) := by
    refine List.Perm.eq_of_pairwise (le := (· < ·)) (fun a b _ _ h1 h2 => by omega) pw (List.Pairwise.filter _ List.pairwise_lt_range) ?_
    refine (List.perm_ext_iff_of_nodup (pw.imp fun h => by omega) (List.Pairwise.filter _ (List.pairwise_lt_range.imp fun h => by omega))).mpr fun a => ?_
    rw [List.mem_filter, List.mem_range, decide_eq_true_eq]
    exact ⟨fun k => ⟨h a k, k⟩, fun k => k.2⟩
  rw [e]
  exact List.filter_sublist
/-- a list of places that goes on is not too long -/
theorem chB_most {way : Int} {row : List Int} (wo : WayOk way) {f : List Nat} (h : chB way row f = true) (hb : ∀ x ∈ f, x < row.length) : f.length ≤ most way row := by
  have pw := chB_pw wo f h
  have s := (sub_range (pw.imp fun h => h.1) hb).map (gt row)
  rw [← row_range] at s
  rw [← List.length_map (f := gt row)]
  refine most_top way row _ s ?_
  unfold Ch
  rw [List.pairwise_map]
  exact pw.imp fun h => h.2
def covL (way : Int) (row : List Int) : List (List Nat) := (List.range (most way row)).map fun k => (List.range row.length).filter fun at_ => decide ((lv way row).getD at_ 0 = k + 1)
theorem lv_le (way : Int) (wo : WayOk way) (row : List Int) {j : Nat} (h : j < row.length) : (lv way row).getD j 0 ≤ most way row := by
  have ll := lv_len way row
  rw [← lv_most way wo row, List.getD_eq_getElem?_getD, List.getElem?_eq_getElem (by omega)]
  exact le_mxN (List.getElem_mem _)
theorem covL_flat (way : Int) (row : List Int) : ∀ m, (((List.range m).map fun k => (List.range row.length).filter fun at_ => decide ((lv way row).getD at_ 0 = k + 1)).flatten).Perm ((List.range row.length).filter fun at_ => decide ((lv way row).getD at_ 0 ≤ m))
  | 0 => by
    have : ((List.range row.length).filter fun at_ => decide ((lv way row).getD at_ 0 ≤ 0)) = [] := by
      refine List.filter_eq_nil_iff.mpr fun j hj => ?_
      have := lv_pos way row (List.mem_range.mp hj)
      rw [decide_eq_true_eq]
      omega
    rw [this]
    exact List.Perm.nil
  | m + 1 => by
    rw [List.range_succ, List.map_append, List.flatten_append]
    refine ((covL_flat way row m).append_right _).trans ?_
    have h := List.filter_append_perm (fun at_ => decide ((lv way row).getD at_ 0 ≤ m)) ((List.range row.length).filter fun at_ => decide ((lv way row).getD at_ 0 ≤ m + 1))
    rw [List.filter_filter, List.filter_filter] at h
    refine (List.Perm.of_eq ?_).trans h
    congr 1
    · refine List.filter_congr fun j _ => ?_
      rw [← Bool.decide_and]
      refine decide_eq_decide.mpr ?_
      omega
    · show (List.range row.length).filter _ ++ [] = _
      rw [List.append_nil]
      refine List.filter_congr fun j _ => ?_
      rw [← decide_not, ← Bool.decide_and]
      refine decide_eq_decide.mpr ?_
      omega
theorem cover_cov {way : Int} {row : List Int} (ro : RowOk row) (wo : WayOk way) : covB way row (coverD way row) = true ∧ plD 1000 4 (coverD way row) = true ∧ row.length ≤ most way row * most (-way) row := by
  have e : coverD way row = .list ((covL way row).map natsD) := by
    unfold coverD covL
    rw [List.map_map]
    rfl
  have fl : (covL way row).flatten.Perm (List.range row.length) := by
    have := covL_flat way row (most way row)
    have z : ((List.range row.length).filter fun at_ => decide ((lv way row).getD at_ 0 ≤ most way row)) = List.range row.length := List.filter_eq_self.mpr fun j hj => decide_eq_true (lv_le way wo row (List.mem_range.mp hj))
    rw [z] at this
    exact this
  have hl : (covL way row).length = most way row := by
    unfold covL
    rw [List.length_map, List.length_range]
  have hf : ∀ f ∈ covL way row, f ≠ [] ∧ chB (-way) row f = true ∧ ∀ x ∈ f, x < row.length := fun f hf => by
    obtain ⟨k, hk, rfl⟩ := List.mem_map.mp hf
    have hk := List.mem_range.mp hk
    refine ⟨fun z => ?_, pw_chB _ ?_, fun x hx => List.mem_range.mp (List.mem_filter.mp hx).1⟩
    · obtain ⟨T, p⟩ := Pat.ex way row row.length (Nat.le_refl _)
      have tl := p.lenT (Nat.le_refl _)
      rw [List.take_length, lv_most way wo] at tl
      obtain ⟨j, h1, h2, _⟩ := p.has k T[k] (List.getElem?_eq_getElem (by omega))
      rw [List.take_length] at h2
      have : j ∈ ([] : List Nat) := by
        rw [← z]
        exact List.mem_filter.mpr ⟨List.mem_range.mpr h1, decide_eq_true h2⟩
      cases this
    · refine List.Pairwise.imp_of_mem (fun {a b} ha hb hab => ⟨hab, ?_⟩) (List.Pairwise.filter _ List.pairwise_lt_range)
      obtain ⟨a1, a2⟩ := List.mem_filter.mp ha
      obtain ⟨b1, b2⟩ := List.mem_filter.mp hb
      have a2 := of_decide_eq_true a2
      have b2 := of_decide_eq_true b2
      have a1 := List.mem_range.mp a1
      have b1 := List.mem_range.mp b1
      rw [up_neg]
      rcases up_or wo (x := gt row a) (y := gt row b) (fun q => by have := gt_inj ro.nd a1 b1 q; omega) with u | u
      · have := lv_up way row hab b1 u
        omega
      · exact u
  rw [e]
  obtain ⟨c1, c2⟩ := cov_of ro.len (List.Perm.refl _) hl hf fl
  refine ⟨c1, c2, ?_⟩
  have len : ∀ L : List (List Nat), (∀ f ∈ L, f.length ≤ most (-way) row) → L.flatten.length ≤ L.length * most (-way) row := by
    intro L
    induction L with
    | nil => intro _; exact Nat.zero_le _
    | cons f L ih =>
      intro h
      rw [List.flatten_cons, List.length_append, List.length_cons, Nat.add_mul, Nat.one_mul]
      have := h f List.mem_cons_self
      have := ih fun g hg => h g (List.mem_cons_of_mem _ hg)
      omega
  have := len (covL way row) fun f hf2 => chB_most (neg_ok wo) (hf f hf2).2.1 (hf f hf2).2.2
  rw [fl.length_eq, List.length_range, hl] at this
  exact this
/-! turned about -/
theorem bh_negm (way : Int) : ∀ l : List Int, bh (-way) (l.map fun x => 0 - x) = bh way l
  | [] => rfl
  | a :: t => by
    show (1 + mxN (sel (-way) (0 - a) (t.map fun x => 0 - x) (bh (-way) (t.map fun x => 0 - x)))) :: bh (-way) (t.map fun x => 0 - x) = (1 + mxN (sel way a t (bh way t))) :: bh way t
    rw [bh_negm way t]
    have e : sel (-way) (0 - a) (t.map fun x => 0 - x) (bh way t) = sel way a t (bh way t) := by
      unfold sel
      rw [List.zip_map_left, List.filter_map, List.map_map]
      refine congrArg (List.map _) (List.filter_congr fun p _ => ?_)
      show up (-way) (0 - a) (0 - p.1) = up way a p.1
      rw [up_neg, up_mul, up_mul]
      refine decide_eq_decide.mpr ?_
      rw [Int.sub_mul, Int.sub_mul]
      omega
    rw [e]
theorem lv_negm (way : Int) (row : List Int) : lv (-way) (row.map fun x => 0 - x) = lv way row := by
  unfold lv
  rw [← List.map_reverse, bh_negm (-way)]
theorem RowOk.negm {row : List Int} (w : RowOk row) : RowOk (row.map fun x => 0 - x) := ⟨by
  have := w.nd
  unfold List.Nodup at this ⊢
  rw [List.pairwise_map]
  exact this.imp fun h z => h (by omega), by rw [List.length_map]; exact w.len, fun x hx => by
    obtain ⟨y, hy, rfl⟩ := List.mem_map.mp hx
    have := w.rng y hy
    exact ⟨by omega, by omega⟩⟩
theorem firstL_len (way : Int) (row : List Int) : (firstL way row (most way row)).length = most way row := (fl_all way row _ (Nat.le_refl _)).len
end K22

set_option Elab.async false
set_option linter.all false
set_option maxRecDepth 100000
set_option maxHeartbeats 1000000
set_option exponentiation.threshold 5000
namespace K22
open PySem L2 Evl PyProof.Rows RZ DL
theorem pl_succ {L : Nat} : ∀ (n : Nat) (d : PyData), plD L n d = true → plD L (n + 1) d = true
  | 0, d, h => by unfold plD at h; cases h
  | n + 1, d, h => by
    cases d with
    | list ds =>
      rw [pl_list] at h ⊢
      exact ⟨h.1, fun d hd => pl_succ n d (h.2 d hd)⟩
    | tuple ds =>
      rw [pl_tuple] at h ⊢
      exact ⟨h.1, fun d hd => pl_succ n d (h.2 d hd)⟩
    | dict _ => unfold plD at h; cases h
    | str _ => unfold plD at h; cases h
    | none => exact pl_none _ _
    | bool _ => exact pl_bool _ _ _
    | int _ => exact pl_int _ _ _
theorem pl_up {L n : Nat} {d : PyData} (h : plD L n d = true) : ∀ m, plD L (n + m) d = true
  | 0 => h
  | m + 1 => pl_succ (n + m) d (pl_up h m)
theorem pl_fit {L : Nat} (hL : L ≤ 100000) : ∀ (n : Nat) (d : PyData), plD L n d = true → fitD n d = true
  | 0, d, h => by unfold plD at h; cases h
  | n + 1, d, h => by
    cases d with
    | list ds =>
      rw [pl_list] at h
      exact fit_list (by omega) fun d hd => pl_fit hL n d (h.2 d hd)
    | tuple ds =>
      rw [pl_tuple] at h
      exact fit_tuple (by omega) fun d hd => pl_fit hL n d (h.2 d hd)
    | dict _ => unfold plD at h; cases h
    | str _ => unfold plD at h; cases h
    | none => unfold fitD; rfl
    | bool _ => unfold fitD; rfl
    | int _ => unfold fitD; rfl
theorem pl_nats {l : List Nat} (n : Nat) (h : l.length ≤ 1000) : plD 1000 (n + 2) (natsD l) = true := pl_list.mpr ⟨by rw [List.length_map]; exact h, fun d hd => by
  obtain ⟨k, _, rfl⟩ := List.mem_map.mp hd
  exact pl_int _ _ _⟩
theorem rb_dints {cs : List Int} {k : Nat} (h : ∀ x ∈ cs, -(2 ^ 60) < x ∧ x < 2 ^ 60) (hl : cs.length ≤ k) : Rb (dints cs) (k * 42 + 3) := by
  have b : Rb (dints cs) ((cs.map PyData.int).length * 40 + 2 * (cs.map PyData.int).length + 3) := Rb.list fun d hd => by
    obtain ⟨x, hx, rfl⟩ := List.mem_map.mp hd
    have := h x hx
    exact Rb.int (by omega)
  rw [List.length_map] at b
  exact b.mono (by omega)
theorem repr_row {row : List Int} (ro : RowOk row) : (dints row).showable = true ∧ (dints row).hasDict = false ∧ (dints row).depth ≤ 60 ∧ (dints row).shown.length ≤ sizeLine := by
  have rl := ro.len
  have f := fit_lay 2 (dints row) (fit_dints 0 (by omega))
  have b := rb_dints (k := 200) ro.rng rl
  exact ⟨b.sh, PyData.hasDict_of_canLay _ f.1, by have := f.2; omega, by rw [size_line]; exact Nat.le_trans b.len (by decide)⟩
theorem eqv_nat (a b : Nat) : PyData.eqv (natD a) (natD b) = decide (a = b) := by
  refine (eqv_int _ _).trans (decide_eq_decide.mpr ?_)
  omega
theorem covB_list {way : Int} {row : List Int} {d : PyData} (h : covB way row d = true) : ∃ ps, d = .list ps := by
  cases d with
  | list ps => exact ⟨ps, rfl⟩
  | _ => cases h
theorem mlen__law_is_right : ∀ qs xs Q, m__law_is_right qs xs Q → xs.length + 1 = ps__law_is_right.length := fun _ _ _ ⟨_, _, _, _, _, ⟨e, _⟩, _⟩ => by rw [e]; rfl
theorem math__law_is_right : ∀ qs xs Q, m__law_is_right qs xs Q → bd__law_is_right { nx := fun ρ => pur0 ρ (Q .none), rt := fun _ d ρ => pur0 ρ (Q d) } (startP nm__law_is_right qs xs) := fun qs xs Q ⟨n, ns, way, row, e1, ⟨e2, ro, wo⟩, pu, hn, h⟩ => by
  subst e1 e2
  have rl := ro.len
  have hl := dints_len row
  have ml := most_le way row
  have ml2 := most_le (-way) row
  have ll := lv_len way row
  have rp := repr_row ro
  have fe := firstL_len way row
  have e6 : PyData.int (((firstL way row (most way row)).map natD).length : Int) = natD (most way row) := by
    rw [List.length_map, fe]
    rfl
  have nw : (0 : Int) - way = -way := Int.zero_sub way
  have hM : ∀ d, [dints row, PyData.int way, PyData.int (((firstL way row (most way row)).map natD).length : Int), d] = [dints row, PyData.int way, natD (most way row), d] := fun d => by rw [e6]
  generalize eM : PyData.int (((firstL way row (most way row)).map natD).length : Int) = M at e6 hM
  refine ⟨way, row, ⟨rfl, ro, wo⟩, way, row, ⟨rfl, ro, wo⟩, rp.1, rp.2.1, rp.2.2.1, rp.2.2.2, ?_⟩
  refine ⟨way, row, ⟨rfl, ro, wo⟩, rfl, rfl, way, row, ⟨rfl, ro, wo⟩, way, row, ⟨rfl, ro, wo⟩, (by decide : 3 ≤ 100000), ?_⟩
  have f3 : fitD 8 (.list [natD (most way row), natsD (lv way row), natsD (firstL way row (most way row))]) = true := by
    refine fit_list (n := 7) (by decide : 3 ≤ 100000) fun d hd => ?_
    rcases List.mem_cons.mp hd with rfl | hd
    · exact fit_int 6 _
    · rcases List.mem_cons.mp hd with rfl | hd
      · exact fit_nats 5 (by omega)
      · rw [List.mem_singleton.mp hd]
        exact fit_nats 5 (by omega)
  refine ⟨(by decide : 3 ≤ 100000), .list [natD (most way row), natsD (lv way row), natsD (firstL way row (most way row))], ?_, f3, ?_⟩
  · show [PyData.list [natD (most way row), natsD (lv way row), natsD (firstL way row (most way row))], .list [PyData.int (((firstL way row (most way row)).map natD).length : Int), natsD (lv way row), natsD (firstL way row (most way row))]] = _
    rw [eM, e6]
  refine ⟨(by decide : 1 ≤ 100000), by rw [List.length_map]; show 1 + _ ≤ 100000; omega, (0 : Int) :: (lv way row).map (fun (i : Nat) => (i : Int)), by rw [natD_int]; rfl, by rw [List.length_cons]; omega, fun z h1 h2 => ?_⟩
  rw [max_nat h1 h2, lv_most way wo]
  refine ⟨⟨rfl, rfl⟩, ?_⟩
  have q6 : (!PyData.eqv (PyData.int (((firstL way row (most way row)).map natD).length : Int)) (.int ((most way row : Nat) : Int))) = false := by
    rw [eM, e6]
    show (!PyData.eqv (natD (most way row)) (natD (most way row))) = false
    rw [eqv_nat, decide_eq_true rfl]
    rfl
  rw [q6]
  refine ⟨fun i ρ acc => ρ = [.pur (ns.map .int), .val (dints row), .val (.int way), .val (natsD (lv way row)), .val (natsD (firstL way row (most way row))), .val (.str (dints row).shown), .val M, .val (.list [natD (most way row), natsD (lv way row), natsD (firstL way row (most way row))]), .no, .no, .no, .no, .no, .no, .no, .no] ∧ acc = ((row.take i).map fun x => 0 - x).map PyData.int, ⟨by rw [← eM]; rfl, rfl⟩, ?_, ?_⟩
  · rintro i x ρ acc hi ⟨rfl, rfl⟩
    obtain ⟨y, hy, rfl⟩ := map_at hi
    have il := (List.getElem?_eq_some_iff.mp hy).1
    refine ⟨by rw [List.length_map, List.length_map, List.length_take]; omega, rfl, ?_⟩
    rw [take_at hy, List.map_append, List.map_append]
    rfl
  rintro ρ acc ⟨rfl, rfl⟩
  rw [hl, List.take_length]
  refine ⟨-way, row.map fun x => 0 - x, ⟨?_, ro.negm, neg_ok wo⟩, ?_⟩
  · show [PyData.list ((row.map fun x => 0 - x).map PyData.int), .int (0 - way)] = _
    rw [nw]
    rfl
  rw [lv_negm]
  refine ⟨-way, row.reverse, ⟨?_, ro.rev, neg_ok wo⟩, ?_⟩
  · show [PyData.list (row.map PyData.int).reverse, .int (0 - way)] = _
    rw [← List.map_reverse, nw]
    rfl
  rw [most_rev way wo]
  have f2 : fitD 8 (.list [natsD (lv way row), natD (most way row)]) = true := by
    refine fit_list (n := 7) (by decide : 2 ≤ 100000) fun d hd => ?_
    rcases List.mem_cons.mp hd with rfl | hd
    · exact fit_nats 5 (by omega)
    · rw [List.mem_singleton.mp hd]
      exact fit_int 6 _
  refine ⟨(by decide : 2 ≤ 100000), (by decide : 2 ≤ 100000), .list [natsD (lv way row), natD (most way row)], ?_, f2, ?_⟩
  · show [PyData.list [natsD (lv way row), natD (most way row)], .list [natsD (lv way row), M]] = _
    rw [e6]
  obtain ⟨cc, cp, es⟩ := cover_cov ro wo
  refine ⟨way, row, ⟨rfl, ro, wo⟩, n, ns, way, row, rfl, ⟨rfl, ro, wo⟩, pu, by omega, fun dd ms cd pd pu1 => ?_⟩
  obtain ⟨ps, rfl⟩ := covB_list cd
  refine ⟨(by decide : 2 ≤ 100000), ?_⟩
  have fd4 : ∀ {d}, plD 1000 4 d = true → fitD 8 d = true := fun h => pl_fit (by decide) _ _ (pl_up h 4)
  refine ⟨way, row, coverD way row, ⟨hM _, ro, wo⟩, fd4 cp, ?_⟩
  rw [cc]
  refine ⟨way, row, .list ps, ⟨hM _, ro, wo⟩, fd4 pd, ?_⟩
  rw [cd]
  have pl4 := pl_list.mp pd
  have en : (((row.map PyData.int).length : Int)).toNat = row.length := by omega
  refine ⟨by omega, by omega, fun i ρ acc => ρ = [.pur (ms.map .int), .val (dints row), .val (.int way), .val (natsD (lv way row)), .val (natsD (firstL way row (most way row))), .val (.str (dints row).shown), .val M, .val (.list [natD (most way row), natsD (lv way row), natsD (firstL way row (most way row))]), .val (dints (row.map fun x => 0 - x)), .val (coverD way row), .val (.list ps), .no, .no, .no, .no, .no] ∧ acc = (List.range i).map fun k => natsD [k], ⟨rfl, rfl⟩, ?_, ?_⟩
  · rintro i x ρ acc hi ⟨rfl, rfl⟩
    obtain ⟨hi1, rfl⟩ := rngD_at hi
    rw [Int.zero_add]
    refine ⟨(by decide : 1 ≤ 100000), by rw [List.length_map, List.length_range]; omega, rfl, ?_⟩
    rw [List.range_succ, List.map_append]
    rfl
  rintro ρ acc ⟨rfl, rfl⟩
  rw [rngD_len, en]
  refine ⟨_, rfl, by omega, by omega, (by decide : 1 ≤ 100000), by decide, (by decide : 7 ≤ 100000), ?_⟩
  refine ⟨by decide, by decide, fun i ρ acc => ∃ ms : List Int, ρ = [.pur (ms.map .int), .val (dints row), .val (.int way), .val (natsD (lv way row)), .val (natsD (firstL way row (most way row))), .val (.str (dints row).shown), .val M, .val (.list [natD (most way row), natsD (lv way row), natsD (firstL way row (most way row))]), .val (dints (row.map fun x => 0 - x)), .val (coverD way row), .val (.list ps), .no, .no, .no, .no, .no] ∧ acc.length = i ∧ (∀ d ∈ acc, plD 50001 5 d = true) ∧ PuOk (n + 90000 + 5000 * i) ms, ⟨ms, rfl, rfl, fun _ z => (nomatch z), pu1⟩, ?_, ?_⟩
  · rintro i x ρ acc hi ⟨ms, rfl, al, ap, pu2⟩
    obtain ⟨hi1, rfl⟩ := rngD_at hi
    have hi2 : i < 10 := hi1
    refine ⟨n + 90000 + 5000 * i, ms, .list ps, rfl, rfl, pl_mono (by decide) 5 _ (pl_succ 4 _ pd), pu2, by omega, fun e ms pe pu3 => ?_⟩
    refine ⟨by omega, ms, rfl, by rw [List.length_append, al]; rfl, fun d hd => ?_, pu_mono pu3 (by omega)⟩
    rcases List.mem_append.mp hd with hd | hd
    · exact ap d hd
    · rw [List.mem_singleton.mp hd]
      exact pe
  rintro ρ acc ⟨ms, rfl, al, ap, pu2⟩
  have al10 : acc.length = 10 := al
  rw [rngD_len] at pu2
  have pu2 : PuOk (n + 140000) ms := pu_mono pu2 (by show n + 90000 + 5000 * 10 ≤ _; omega)
  refine ⟨by rw [al10]; show 7 + 10 ≤ 100000; decide, ?_⟩
  have fv : ∀ d ∈ [coverD way row, PyData.list ps, .list ps.reverse, .list ((List.range row.length).map fun k => natsD [k]), .list [.list (rngD 0 ((row.map PyData.int).length : Int).toNat)], .list [], .none] ++ acc, fitD 8 d = true := fun d hd => by
    rcases List.mem_append.mp hd with hd | hd
    · rcases List.mem_cons.mp hd with rfl | hd
      · exact fd4 cp
      · rcases List.mem_cons.mp hd with rfl | hd
        · exact fd4 pd
        · rcases List.mem_cons.mp hd with rfl | hd
          · exact fd4 (pl_list.mpr ⟨by rw [List.length_reverse]; exact pl4.1, fun d hd => pl4.2 d (List.mem_reverse.mp hd)⟩)
          · rcases List.mem_cons.mp hd with rfl | hd
            · refine fd4 (pl_list.mpr ⟨by rw [List.length_map, List.length_range]; omega, fun d hd => ?_⟩)
              obtain ⟨k, _, rfl⟩ := List.mem_map.mp hd
              exact pl_nats 1 (by decide : 1 ≤ 1000)
            · rcases List.mem_cons.mp hd with rfl | hd
              · refine fit_list (n := 7) (by decide : 1 ≤ 100000) fun d hd => ?_
                rw [List.mem_singleton.mp hd, rng_ints]
                exact fit_dints 5 (by rw [List.length_map, List.length_range, en]; omega)
              · rcases List.mem_cons.mp hd with rfl | hd
                · exact fit_list (n := 7) (by decide : 0 ≤ 100000) fun _ z => (nomatch z)
                · rw [List.mem_singleton.mp hd]
                  unfold fitD
                  rfl
    · exact pl_fit (by decide) _ _ (pl_up (ap d hd) 3)
  have fb : ∀ b, fitD 8 (.bool b) = true := fun b => by unfold fitD; rfl
  generalize eV : [coverD way row, PyData.list ps, .list ps.reverse, .list ((List.range row.length).map fun k => natsD [k]), .list [.list (rngD 0 ((row.map PyData.int).length : Int).toNat)], .list [], .none] ++ acc = VS at fv
  refine ⟨fun i ρ => ∃ s12, ρ = [.pur (ms.map .int), .val (dints row), .val (.int way), .val (natsD (lv way row)), .val (natsD (firstL way row (most way row))), .val (.str (dints row).shown), .val M, .val (.list [natD (most way row), natsD (lv way row), natsD (firstL way row (most way row))]), .val (dints (row.map fun x => 0 - x)), .val (coverD way row), .val (.list ps), .val (.list VS), s12, .no, .no, .no], ⟨.no, by rw [← eV]; rfl⟩, ?_, ?_⟩
  · rintro i x ρ hi ⟨s12, rfl⟩
    have hx : VS[i]? = some x := hi
    have fx := fv x (List.mem_of_getElem? hx)
    refine ⟨rfl, rfl, way, row, x, ⟨rfl, ro, wo⟩, fx, ?_⟩
    refine ⟨way, row, x, ⟨hM _, ro, wo⟩, fx, ?_⟩
    exact ⟨.bool (covB way row x), rfl, fb _, .val x, rfl⟩
  rintro ρ ⟨s12, rfl⟩
  have sb := (rb_dints (k := 200) ro.rng rl).shaped
  have em : PyData.int (((most way row : Nat) : Int)) = M := e6.symm
  rw [← em]
  refine ⟨-way, row, ⟨congrArg (fun z => [dints row, PyData.int z]) nw, ro, neg_ok wo⟩, ⟨sz_abs (by omega), sz_abs (by omega)⟩, ?_⟩
  have ge : decide (((row.map PyData.int).length : Int) ≤ ((most way row : Nat) : Int) * ((most (-way) row : Nat) : Int)) = true := by
    refine decide_eq_true ?_
    rw [hl, ← Int.natCast_mul]
    exact Int.ofNat_le.mpr es
  show (match PyData.bool (decide (((row.map PyData.int).length : Int) ≤ ((most way row : Nat) : Int) * ((most (-way) row : Nat) : Int))) with | .bool true => _ | .bool false => _ | _ => False)
  rw [ge]
  refine ⟨rp.1, rp.2.1, rp.2.2.1, rp.2.2.2, ⟨sb, sb⟩, ?_⟩
  have es2 : PyData.eqv (.str (dints row).shown) (.str (dints row).shown) = true := by simp [PyData.eqv]
  show Q (.bool (PyData.eqv (.str (dints row).shown) (.str (dints row).shown))) (ms.map .int)
  rw [es2]
  exact h ms (pu_mono pu2 (by omega))
end K22

set_option Elab.async false
set_option linter.all false
set_option maxRecDepth 100000
set_option maxHeartbeats 1000000
set_option exponentiation.threshold 5000
namespace K22
open PySem L2 Evl PyProof.Rows RZ DL
theorem math_law {K : PySem.W.Frag} : ∀ ns : List Int, ns.length ≤ 63 → (∀ z ∈ ns, Builtin.Int.intBits z ≤ 1048576) → sd_law K (startS K nm_law ns []) fun d _ => dLaw 4 1 (bd_law K) d := fun ns hl _ => by
  refine ⟨rfl, hl, 3, rfl, ⟨by decide, by decide⟩, fun pss hp lp => ?_⟩
  refine ⟨fun t ns => PuOk (t * 4000000) ns, pss, rfl, fun ms hms => pu_mono (hp ms hms) (Nat.zero_le _), fun t ms h => ⟨?_, pu_mono h (by omega)⟩, fun t ms ht h => ?_⟩
  · obtain ⟨a, b, c, d, rfl, _⟩ := h
    exact fun z => nomatch z
  · have h : PuOk (t * 4000000) ms := h
    refine ⟨t * 4000000, ms, rfl, rfl, h, by omega, fun row ms2 ro pu2 => ?_⟩
    refine ⟨(by decide : 2 ≤ 100000), ?_⟩
    refine ⟨fun i ρ => ∃ ms x, ρ = [.no, .pur (ms.map .int), .val (dints row), x] ∧ PuOk (t * 4000000 + 900000 + i * 900000) ms, ⟨ms2, .no, rfl, pu_mono pu2 (Nat.le_add_right _ _)⟩, ?_, ?_⟩
    · rintro i x ρ hi ⟨ms, s3, rfl, pu⟩
      obtain ⟨way, hw, rfl⟩ := map_at (show ([1, 0 - 1].map PyData.int)[i]? = some x from hi)
      have il := (List.getElem?_eq_some_iff.mp hw).1
      have hi2 : i < 2 := il
      have wo : WayOk way := by
        have := List.mem_of_getElem? hw
        simp only [List.mem_cons, List.not_mem_nil, or_false] at this
        rcases this with rfl | rfl
        · exact .inl rfl
        · exact .inr rfl
      refine ⟨t * 4000000 + 900000 + i * 900000, ms, way, row, rfl, ⟨rfl, ro, wo⟩, pu, by omega, fun ms3 pu3 => ?_⟩
      exact ⟨ms3, .val (.int way), rfl, pu_mono pu3 (by omega)⟩
    · rintro ρ ⟨ms, s3, rfl, pu⟩
      exact ⟨rfl, ms, rfl, pu_mono pu (by show t * 4000000 + 900000 + 2 * 900000 ≤ _; omega)⟩
end K22

set_option Elab.async false
set_option linter.all false
set_option maxRecDepth 100000
set_option maxHeartbeats 1000000
namespace K22
open PySem L2 Evl PyProof.Rows RZ DL
def topS (i : Nat) : Stmt := PySem.Challenge.pw_boundtobe_k22_whole_rows_of_forty.main.body.getD i (.Pass ⟨0, 0, 0, 0⟩)
abbrev s_is_whole : Stmt := topS 1
theorem sc_is_whole : FnScope nm_is_whole ps_is_whole (defScope s_is_whole) := ⟨rfl, rfl, rfl, by decide +kernel, rfl, by decide +kernel, by decide +kernel⟩
abbrev s_is_count : Stmt := topS 2
theorem sc_is_count : FnScope nm_is_count ps_is_count (defScope s_is_count) := ⟨rfl, rfl, rfl, by decide +kernel, rfl, by decide +kernel, by decide +kernel⟩
abbrev s_is_row : Stmt := topS 9
theorem sc_is_row : FnScope nm_is_row ps_is_row (defScope s_is_row) := ⟨rfl, rfl, rfl, by decide +kernel, rfl, by decide +kernel, by decide +kernel⟩
abbrev s_check_row : Stmt := topS 10
theorem sc_check_row : FnScope nm_check_row ps_check_row (defScope s_check_row) := ⟨rfl, rfl, rfl, by decide +kernel, rfl, by decide +kernel, by decide +kernel⟩
abbrev s_check_way : Stmt := topS 11
theorem sc_check_way : FnScope nm_check_way ps_check_way (defScope s_check_way) := ⟨rfl, rfl, rfl, by decide +kernel, rfl, by decide +kernel, by decide +kernel⟩
abbrev s_check_row_way : Stmt := topS 12
theorem sc_check_row_way : FnScope nm_check_row_way ps_check_row_way (defScope s_check_row_way) := ⟨rfl, rfl, rfl, by decide +kernel, rfl, by decide +kernel, by decide +kernel⟩
abbrev s_goes_on : Stmt := topS 13
theorem sc_goes_on : FnScope nm_goes_on ps_goes_on (defScope s_goes_on) := ⟨rfl, rfl, rfl, by decide +kernel, rfl, by decide +kernel, by decide +kernel⟩
abbrev s_levels_there : Stmt := topS 14
theorem sc_levels_there : FnScope nm_levels_there ps_levels_there (defScope s_levels_there) := ⟨rfl, rfl, rfl, by decide +kernel, rfl, by decide +kernel, by decide +kernel⟩
abbrev s_most_there : Stmt := topS 15
theorem sc_most_there : FnScope nm_most_there ps_most_there (defScope s_most_there) := ⟨rfl, rfl, rfl, by decide +kernel, rfl, by decide +kernel, by decide +kernel⟩
abbrev s_most_places : Stmt := topS 16
theorem sc_most_places : FnScope nm_most_places ps_most_places (defScope s_most_places) := ⟨rfl, rfl, rfl, by decide +kernel, rfl, by decide +kernel, by decide +kernel⟩
abbrev s_levels_of : Stmt := topS 17
theorem sc_levels_of : FnScope nm_levels_of ps_levels_of (defScope s_levels_of) := ⟨rfl, rfl, rfl, by decide +kernel, rfl, by decide +kernel, by decide +kernel⟩
abbrev s_tails_there : Stmt := topS 18
theorem sc_tails_there : FnScope nm_tails_there ps_tails_there (defScope s_tails_there) := ⟨rfl, rfl, rfl, by decide +kernel, rfl, by decide +kernel, by decide +kernel⟩
abbrev s_first_longest : Stmt := topS 19
theorem sc_first_longest : FnScope nm_first_longest ps_first_longest (defScope s_first_longest) := ⟨rfl, rfl, rfl, by decide +kernel, rfl, by decide +kernel, by decide +kernel⟩
abbrev s_covering : Stmt := topS 20
theorem sc_covering : FnScope nm_covering ps_covering (defScope s_covering) := ⟨rfl, rfl, rfl, by decide +kernel, rfl, by decide +kernel, by decide +kernel⟩
abbrev s_goes : Stmt := topS 21
theorem sc_goes : FnScope nm_goes ps_goes (defScope s_goes) := ⟨rfl, rfl, rfl, by decide +kernel, rfl, by decide +kernel, by decide +kernel⟩
abbrev s_is_covering : Stmt := topS 22
theorem sc_is_covering : FnScope nm_is_covering ps_is_covering (defScope s_is_covering) := ⟨rfl, rfl, rfl, by decide +kernel, rfl, by decide +kernel, by decide +kernel⟩
abbrev s__law_purse : Stmt := topS 24
theorem sc__law_purse : FnScope nm__law_purse ps__law_purse (defScope s__law_purse) := ⟨rfl, rfl, rfl, by decide +kernel, rfl, by decide +kernel, by decide +kernel⟩
abbrev s__law_mixed : Stmt := topS 25
theorem sc__law_mixed : FnScope nm__law_mixed ps__law_mixed (defScope s__law_mixed) := ⟨rfl, rfl, rfl, by decide +kernel, rfl, by decide +kernel, by decide +kernel⟩
abbrev s__law_draw : Stmt := topS 26
theorem sc__law_draw : FnScope nm__law_draw ps__law_draw (defScope s__law_draw) := ⟨rfl, rfl, rfl, by decide +kernel, rfl, by decide +kernel, by decide +kernel⟩
abbrev s__law_one_of : Stmt := topS 27
theorem sc__law_one_of : FnScope nm__law_one_of ps__law_one_of (defScope s__law_one_of) := ⟨rfl, rfl, rfl, by decide +kernel, rfl, by decide +kernel, by decide +kernel⟩
abbrev s__law_purses : Stmt := topS 28
theorem sc__law_purses : FnScope nm__law_purses ps__law_purses (defScope s__law_purses) := ⟨rfl, rfl, rfl, by decide +kernel, rfl, by decide +kernel, by decide +kernel⟩
abbrev s__law_shuffled : Stmt := topS 29
theorem sc__law_shuffled : FnScope nm__law_shuffled ps__law_shuffled (defScope s__law_shuffled) := ⟨rfl, rfl, rfl, by decide +kernel, rfl, by decide +kernel, by decide +kernel⟩
abbrev s__law_same : Stmt := topS 30
theorem sc__law_same : FnScope nm__law_same ps__law_same (defScope s__law_same) := ⟨rfl, rfl, rfl, by decide +kernel, rfl, by decide +kernel, by decide +kernel⟩
abbrev s__law_chain : Stmt := topS 31
theorem sc__law_chain : FnScope nm__law_chain ps__law_chain (defScope s__law_chain) := ⟨rfl, rfl, rfl, by decide +kernel, rfl, by decide +kernel, by decide +kernel⟩
abbrev s__law_bend : Stmt := topS 32
theorem sc__law_bend : FnScope nm__law_bend ps__law_bend (defScope s__law_bend) := ⟨rfl, rfl, rfl, by decide +kernel, rfl, by decide +kernel, by decide +kernel⟩
abbrev s__law_row : Stmt := topS 33
theorem sc__law_row : FnScope nm__law_row ps__law_row (defScope s__law_row) := ⟨rfl, rfl, rfl, by decide +kernel, rfl, by decide +kernel, by decide +kernel⟩
abbrev s__law_levels : Stmt := topS 34
theorem sc__law_levels : FnScope nm__law_levels ps__law_levels (defScope s__law_levels) := ⟨rfl, rfl, rfl, by decide +kernel, rfl, by decide +kernel, by decide +kernel⟩
abbrev s__law_goes_on : Stmt := topS 35
theorem sc__law_goes_on : FnScope nm__law_goes_on ps__law_goes_on (defScope s__law_goes_on) := ⟨rfl, rfl, rfl, by decide +kernel, rfl, by decide +kernel, by decide +kernel⟩
abbrev s__law_first : Stmt := topS 36
theorem sc__law_first : FnScope nm__law_first ps__law_first (defScope s__law_first) := ⟨rfl, rfl, rfl, by decide +kernel, rfl, by decide +kernel, by decide +kernel⟩
abbrev s__law_is_covering : Stmt := topS 37
theorem sc__law_is_covering : FnScope nm__law_is_covering ps__law_is_covering (defScope s__law_is_covering) := ⟨rfl, rfl, rfl, by decide +kernel, rfl, by decide +kernel, by decide +kernel⟩
abbrev s__law_own_covering : Stmt := topS 38
theorem sc__law_own_covering : FnScope nm__law_own_covering ps__law_own_covering (defScope s__law_own_covering) := ⟨rfl, rfl, rfl, by decide +kernel, rfl, by decide +kernel, by decide +kernel⟩
abbrev s__law_is_right : Stmt := topS 39
theorem sc__law_is_right : FnScope nm__law_is_right ps__law_is_right (defScope s__law_is_right) := ⟨rfl, rfl, rfl, by decide +kernel, rfl, by decide +kernel, by decide +kernel⟩
abbrev s_law : Stmt := topS 40
theorem sc_law : FnScope nm_law ps_law (defScope s_law) := ⟨rfl, rfl, rfl, by decide +kernel, rfl, by decide +kernel, by decide +kernel⟩
/-- what the top has left: the defs at A, their objects D; the names that are still built in -/
structure Txt (K : PySem.W.Frag) (mg : Str → Option Value) (A : Nat → Addr) (D : Nat → FuncData) : Prop where
  fun_1 : FunD K "is_whole" "is_whole" (defArgs s_is_whole) (defBody s_is_whole) (defScope s_is_whole) [] [] (A 1) (D 1)
  g_1 : mg "is_whole" = some (.ref (A 1))
  fun_2 : FunD K "is_count" "is_count" (defArgs s_is_count) (defBody s_is_count) (defScope s_is_count) [V.int 0] [] (A 2) (D 2)
  g_2 : mg "is_count" = some (.ref (A 2))
  fun_9 : FunD K "is_row" "is_row" (defArgs s_is_row) (defBody s_is_row) (defScope s_is_row) [] [] (A 9) (D 9)
  g_9 : mg "is_row" = some (.ref (A 9))
  fun_10 : FunD K "check_row" "check_row" (defArgs s_check_row) (defBody s_check_row) (defScope s_check_row) [] [] (A 10) (D 10)
  g_10 : mg "check_row" = some (.ref (A 10))
  fun_11 : FunD K "check_way" "check_way" (defArgs s_check_way) (defBody s_check_way) (defScope s_check_way) [] [] (A 11) (D 11)
  g_11 : mg "check_way" = some (.ref (A 11))
  fun_12 : FunD K "check_row_way" "check_row_way" (defArgs s_check_row_way) (defBody s_check_row_way) (defScope s_check_row_way) [] [] (A 12) (D 12)
  g_12 : mg "check_row_way" = some (.ref (A 12))
  fun_13 : FunD K "goes_on" "goes_on" (defArgs s_goes_on) (defBody s_goes_on) (defScope s_goes_on) [] [] (A 13) (D 13)
  g_13 : mg "goes_on" = some (.ref (A 13))
  fun_14 : FunD K "levels_there" "levels_there" (defArgs s_levels_there) (defBody s_levels_there) (defScope s_levels_there) [] [] (A 14) (D 14)
  g_14 : mg "levels_there" = some (.ref (A 14))
  fun_15 : FunD K "most_there" "most_there" (defArgs s_most_there) (defBody s_most_there) (defScope s_most_there) [] [] (A 15) (D 15)
  g_15 : mg "most_there" = some (.ref (A 15))
  fun_16 : FunD K "most_places" "most_places" (defArgs s_most_places) (defBody s_most_places) (defScope s_most_places) [] [] (A 16) (D 16)
  g_16 : mg "most_places" = some (.ref (A 16))
  fun_17 : FunD K "levels_of" "levels_of" (defArgs s_levels_of) (defBody s_levels_of) (defScope s_levels_of) [] [] (A 17) (D 17)
  g_17 : mg "levels_of" = some (.ref (A 17))
  fun_18 : FunD K "tails_there" "tails_there" (defArgs s_tails_there) (defBody s_tails_there) (defScope s_tails_there) [] [] (A 18) (D 18)
  g_18 : mg "tails_there" = some (.ref (A 18))
  fun_19 : FunD K "first_longest" "first_longest" (defArgs s_first_longest) (defBody s_first_longest) (defScope s_first_longest) [] [] (A 19) (D 19)
  g_19 : mg "first_longest" = some (.ref (A 19))
  fun_20 : FunD K "covering" "covering" (defArgs s_covering) (defBody s_covering) (defScope s_covering) [] [] (A 20) (D 20)
  g_20 : mg "covering" = some (.ref (A 20))
  fun_21 : FunD K "goes" "goes" (defArgs s_goes) (defBody s_goes) (defScope s_goes) [] [] (A 21) (D 21)
  g_21 : mg "goes" = some (.ref (A 21))
  fun_22 : FunD K "is_covering" "is_covering" (defArgs s_is_covering) (defBody s_is_covering) (defScope s_is_covering) [] [] (A 22) (D 22)
  g_22 : mg "is_covering" = some (.ref (A 22))
  fun_24 : FunD K "_law_purse" "_law_purse" (defArgs s__law_purse) (defBody s__law_purse) (defScope s__law_purse) [] [] (A 24) (D 24)
  g_24 : mg "_law_purse" = some (.ref (A 24))
  fun_25 : FunD K "_law_mixed" "_law_mixed" (defArgs s__law_mixed) (defBody s__law_mixed) (defScope s__law_mixed) [] [] (A 25) (D 25)
  g_25 : mg "_law_mixed" = some (.ref (A 25))
  fun_26 : FunD K "_law_draw" "_law_draw" (defArgs s__law_draw) (defBody s__law_draw) (defScope s__law_draw) [] [] (A 26) (D 26)
  g_26 : mg "_law_draw" = some (.ref (A 26))
  fun_27 : FunD K "_law_one_of" "_law_one_of" (defArgs s__law_one_of) (defBody s__law_one_of) (defScope s__law_one_of) [] [] (A 27) (D 27)
  g_27 : mg "_law_one_of" = some (.ref (A 27))
  fun_28 : FunD K "_law_purses" "_law_purses" (defArgs s__law_purses) (defBody s__law_purses) (defScope s__law_purses) [] [] (A 28) (D 28)
  g_28 : mg "_law_purses" = some (.ref (A 28))
  fun_29 : FunD K "_law_shuffled" "_law_shuffled" (defArgs s__law_shuffled) (defBody s__law_shuffled) (defScope s__law_shuffled) [] [] (A 29) (D 29)
  g_29 : mg "_law_shuffled" = some (.ref (A 29))
  fun_30 : FunD K "_law_same" "_law_same" (defArgs s__law_same) (defBody s__law_same) (defScope s__law_same) [] [] (A 30) (D 30)
  g_30 : mg "_law_same" = some (.ref (A 30))
  fun_32 : FunD K "_law_bend" "_law_bend" (defArgs s__law_bend) (defBody s__law_bend) (defScope s__law_bend) [] [] (A 32) (D 32)
  g_32 : mg "_law_bend" = some (.ref (A 32))
  fun_33 : FunD K "_law_row" "_law_row" (defArgs s__law_row) (defBody s__law_row) (defScope s__law_row) [] [] (A 33) (D 33)
  g_33 : mg "_law_row" = some (.ref (A 33))
  fun_34 : FunD K "_law_levels" "_law_levels" (defArgs s__law_levels) (defBody s__law_levels) (defScope s__law_levels) [] [] (A 34) (D 34)
  g_34 : mg "_law_levels" = some (.ref (A 34))
  fun_35 : FunD K "_law_goes_on" "_law_goes_on" (defArgs s__law_goes_on) (defBody s__law_goes_on) (defScope s__law_goes_on) [] [] (A 35) (D 35)
  g_35 : mg "_law_goes_on" = some (.ref (A 35))
  fun_36 : FunD K "_law_first" "_law_first" (defArgs s__law_first) (defBody s__law_first) (defScope s__law_first) [] [] (A 36) (D 36)
  g_36 : mg "_law_first" = some (.ref (A 36))
  fun_37 : FunD K "_law_is_covering" "_law_is_covering" (defArgs s__law_is_covering) (defBody s__law_is_covering) (defScope s__law_is_covering) [] [] (A 37) (D 37)
  g_37 : mg "_law_is_covering" = some (.ref (A 37))
  fun_38 : FunD K "_law_own_covering" "_law_own_covering" (defArgs s__law_own_covering) (defBody s__law_own_covering) (defScope s__law_own_covering) [] [] (A 38) (D 38)
  g_38 : mg "_law_own_covering" = some (.ref (A 38))
  fun_39 : FunD K "_law_is_right" "_law_is_right" (defArgs s__law_is_right) (defBody s__law_is_right) (defScope s__law_is_right) [] [] (A 39) (D 39)
  g_39 : mg "_law_is_right" = some (.ref (A 39))
  fun_40 : FunD K "law" "law" (defArgs s_law) (defBody s_law) (defScope s_law) [] [] (A 40) (D 40)
  g_40 : mg "law" = some (.ref (A 40))
  nb_abs : mg "abs" = none
  nb_all : mg "all" = none
  nb_bool : mg "bool" = none
  nb_dict : mg "dict" = none
  nb_enumerate : mg "enumerate" = none
  nb_int : mg "int" = none
  nb_isinstance : mg "isinstance" = none
  nb_len : mg "len" = none
  nb_list : mg "list" = none
  nb_max : mg "max" = none
  nb_min : mg "min" = none
  nb_range : mg "range" = none
  nb_repr : mg "repr" = none
  nb_set : mg "set" = none
  nb_sorted : mg "sorted" = none
  nb_str : mg "str" = none
  nb_sum : mg "sum" = none
  nb_tuple : mg "tuple" = none
  nb_zip : mg "zip" = none
section
variable {P : Program} {w : World} {K : PySem.W.Frag} {mg : Str → Option Value} {A : Nat → Addr} {D : Nat → FuncData} {base : Heap}
theorem bi_is_whole (T : Txt K mg A D) : Binds K (D 1) ps_is_whole [] := T.fun_1.bindsN fun _ _ _ _ _ _ us hl => match us, hl with | [_], _ => rfl
theorem bi_is_row (T : Txt K mg A D) : Binds K (D 9) ps_is_row [] := T.fun_9.bindsN fun _ _ _ _ _ _ us hl => match us, hl with | [_], _ => rfl
theorem bi_check_row (T : Txt K mg A D) : Binds K (D 10) ps_check_row [] := T.fun_10.bindsN fun _ _ _ _ _ _ us hl => match us, hl with | [_], _ => rfl
theorem bi_check_way (T : Txt K mg A D) : Binds K (D 11) ps_check_way [] := T.fun_11.bindsN fun _ _ _ _ _ _ us hl => match us, hl with | [_], _ => rfl
theorem bi_check_row_way (T : Txt K mg A D) : Binds K (D 12) ps_check_row_way [] := T.fun_12.bindsN fun _ _ _ _ _ _ us hl => match us, hl with | [_, _], _ => rfl
theorem bi_goes_on (T : Txt K mg A D) : Binds K (D 13) ps_goes_on [] := T.fun_13.bindsN fun _ _ _ _ _ _ us hl => match us, hl with | [_, _, _, _], _ => rfl
theorem bi_levels_there (T : Txt K mg A D) : Binds K (D 14) ps_levels_there [] := T.fun_14.bindsN fun _ _ _ _ _ _ us hl => match us, hl with | [_, _], _ => rfl
theorem bi_most_there (T : Txt K mg A D) : Binds K (D 15) ps_most_there [] := T.fun_15.bindsN fun _ _ _ _ _ _ us hl => match us, hl with | [_, _], _ => rfl
theorem bi_most_places (T : Txt K mg A D) : Binds K (D 16) ps_most_places [] := T.fun_16.bindsN fun _ _ _ _ _ _ us hl => match us, hl with | [_, _], _ => rfl
theorem bi_levels_of (T : Txt K mg A D) : Binds K (D 17) ps_levels_of [] := T.fun_17.bindsN fun _ _ _ _ _ _ us hl => match us, hl with | [_, _], _ => rfl
theorem bi_tails_there (T : Txt K mg A D) : Binds K (D 18) ps_tails_there [] := T.fun_18.bindsN fun _ _ _ _ _ _ us hl => match us, hl with | [_, _], _ => rfl
theorem bi_first_longest (T : Txt K mg A D) : Binds K (D 19) ps_first_longest [] := T.fun_19.bindsN fun _ _ _ _ _ _ us hl => match us, hl with | [_, _], _ => rfl
theorem bi_covering (T : Txt K mg A D) : Binds K (D 20) ps_covering [] := T.fun_20.bindsN fun _ _ _ _ _ _ us hl => match us, hl with | [_, _], _ => rfl
theorem bi_goes (T : Txt K mg A D) : Binds K (D 21) ps_goes [] := T.fun_21.bindsN fun _ _ _ _ _ _ us hl => match us, hl with | [_, _, _], _ => rfl
theorem bi_is_covering (T : Txt K mg A D) : Binds K (D 22) ps_is_covering [] := T.fun_22.bindsN fun _ _ _ _ _ _ us hl => match us, hl with | [_, _, _], _ => rfl
theorem bi__law_purse (T : Txt K mg A D) : Binds K (D 24) ps__law_purse [] := T.fun_24.bindsN fun _ _ _ _ _ _ us hl => match us, hl with | [_, _], _ => rfl
theorem bi__law_mixed (T : Txt K mg A D) : Binds K (D 25) ps__law_mixed [] := T.fun_25.bindsN fun _ _ _ _ _ _ us hl => match us, hl with | [_, _, _], _ => rfl
theorem bi__law_draw (T : Txt K mg A D) : Binds K (D 26) ps__law_draw [] := T.fun_26.bindsN fun _ _ _ _ _ _ us hl => match us, hl with | [_, _], _ => rfl
theorem bi__law_one_of (T : Txt K mg A D) : Binds K (D 27) ps__law_one_of [] := T.fun_27.bindsN fun _ _ _ _ _ _ us hl => match us, hl with | [_, _], _ => rfl
theorem bi__law_purses (T : Txt K mg A D) : Binds K (D 28) ps__law_purses [] := T.fun_28.bindsN fun _ _ _ _ _ _ us hl => match us, hl with | [_, _], _ => rfl
theorem bi__law_shuffled (T : Txt K mg A D) : Binds K (D 29) ps__law_shuffled [] := T.fun_29.bindsN fun _ _ _ _ _ _ us hl => match us, hl with | [_, _], _ => rfl
theorem bi__law_same (T : Txt K mg A D) : Binds K (D 30) ps__law_same [] := T.fun_30.bindsN fun _ _ _ _ _ _ us hl => match us, hl with | [_, _], _ => rfl
theorem bi__law_bend (T : Txt K mg A D) : Binds K (D 32) ps__law_bend [] := T.fun_32.bindsN fun _ _ _ _ _ _ us hl => match us, hl with | [_, _], _ => rfl
theorem bi__law_row (T : Txt K mg A D) : Binds K (D 33) ps__law_row [] := T.fun_33.bindsN fun _ _ _ _ _ _ us hl => match us, hl with | [_, _], _ => rfl
theorem bi__law_levels (T : Txt K mg A D) : Binds K (D 34) ps__law_levels [] := T.fun_34.bindsN fun _ _ _ _ _ _ us hl => match us, hl with | [_, _], _ => rfl
theorem bi__law_goes_on (T : Txt K mg A D) : Binds K (D 35) ps__law_goes_on [] := T.fun_35.bindsN fun _ _ _ _ _ _ us hl => match us, hl with | [_, _, _, _], _ => rfl
theorem bi__law_first (T : Txt K mg A D) : Binds K (D 36) ps__law_first [] := T.fun_36.bindsN fun _ _ _ _ _ _ us hl => match us, hl with | [_, _], _ => rfl
theorem bi__law_is_covering (T : Txt K mg A D) : Binds K (D 37) ps__law_is_covering [] := T.fun_37.bindsN fun _ _ _ _ _ _ us hl => match us, hl with | [_, _, _, _], _ => rfl
theorem bi__law_own_covering (T : Txt K mg A D) : Binds K (D 38) ps__law_own_covering [] := T.fun_38.bindsN fun _ _ _ _ _ _ us hl => match us, hl with | [_, _, _], _ => rfl
theorem bi__law_is_right (T : Txt K mg A D) : Binds K (D 39) ps__law_is_right [] := T.fun_39.bindsN fun _ _ _ _ _ _ us hl => match us, hl with | [_, _, _], _ => rfl
theorem bi_law (T : Txt K mg A D) : Binds K (D 40) ps_law [] := T.fun_40.bindsN fun _ _ _ _ _ _ us hl => match us, hl with | [_], _ => rfl
theorem bi_is_count_1 (T : Txt K mg A D) : ∃ ds, Vals [V.int 0] ds ∧ Binds K (D 2) ps_is_count ds := T.fun_2.binds1 1 0 (by simp) (by decide) fun _ _ _ _ _ _ _ us its hl hi => match us, its, hl, hi with | [_], [_], _, _ => ⟨_, rfl, rfl⟩
theorem kb_is_covering_2_value (T : Txt K mg A D) : KPick K (D 22) ps_is_covering ["value"] 2 [0, 1, 2] := kp_of T.fun_22 (by simp) fun _ _ _ _ _ _ us ws hl hw => match us, ws, hl, hw with | [_, _], [_], _, _ => rfl
theorem kb_levels_of_1_way (T : Txt K mg A D) : KPick K (D 17) ps_levels_of ["way"] 1 [0, 1] := kp_of T.fun_17 (by simp) fun _ _ _ _ _ _ us ws hl hw => match us, ws, hl, hw with | [_], [_], _, _ => rfl
end
section
variable {P : Program} {w : World} {K : PySem.W.Frag} {mg : Str → Option Value} {A : Nat → Addr} {D : Nat → FuncData} {base : Heap}
set_option maxHeartbeats 2000000 in
theorem ok_is_whole (T : Txt K mg A D) : FnOk P w K mg base CX0 1 (A 1) (D 1) ps_is_whole (spD m_is_whole) := by
  exact fn_D (bd := bd_is_whole) T.fun_1 sc_is_whole mlen_is_whole (fun cdv A' outer s H E hr =>
    (pssd_one (psd_ret (pd_and (pd_is1 T.nb_isinstance T.nb_int (pr_var 0)) (pd_one (pd_not (pd_is1 T.nb_isinstance T.nb_bool (pr_var 0)))))))) math_is_whole
set_option maxHeartbeats 2000000 in
theorem ok_goes_on (T : Txt K mg A D) : FnOk P w K mg base CX0 1 (A 13) (D 13) ps_goes_on (spD m_goes_on) := by
  exact fn_D (bd := bd_goes_on) T.fun_13 sc_goes_on mlen_goes_on (fun cdv A' outer s H E hr =>
    (pssd_one (psd_ret (pd_cmp op_gt ro_gt (pd_op op_mulU ro_mul (pd_op op_sub ro_sub (pd_ixV 0 ix_seq ro_ix (pr_var 3)) (pd_r (pd_ixV 0 ix_seq ro_ix (pr_var 2)))) (pr_var 1)) (pd_r pd_int))))) math_goes_on
set_option maxHeartbeats 2000000 in
theorem ok__law_purse (T : Txt K mg A D) : FnOk P w K mg base CX0 1 (A 24) (D 24) ps__law_purse (spS K m__law_purse) := by
  exact fn_S K (bd := bd__law_purse K) T.fun_24 sc__law_purse mlen__law_purse (fun cdv A' outer s H E hr =>
    (pssd_cons (psd_set 2 sc__law_purse.nd (pd_cb1 (cr_sum rfl) rc_sum T.nb_sum (pd_r (pn_d (pn_slS 0 (pod_some (pd_var 1)) (pod_some (pd_opV 1 op_addU ro_add (pd_r pd_int))))))))
    (pssd_one (psd_ret (pn_d (pn_lst (pad_cons (pd_op op_mod ro_mod (pd_ct1 call_int1 rc_int T.nb_int (pd_r (pd_cb2 (call_max2 rfl) rc_max2 T.nb_max (pd_opV 2 op_sub ro_sub (pd_r (pd_op op_powB ro_pow pd_int (pd_r pd_int)))) (pd_r pd_int)))) (pd_r (pd_op op_powB ro_pow (pd_op op_powB ro_pow pd_int (pd_r pd_int)) (pd_r pd_int)))) (pad_cons (pd_op op_mod ro_mod (pd_ct1 call_int1 rc_int T.nb_int (pr_var 2)) (pd_r pd_int)) (pad_cons pd_int (pad_cons (pd_var 1) pad_nil)))))))))) math__law_purse
set_option maxHeartbeats 2000000 in
theorem ok__law_mixed (T : Txt K mg A D) : FnOk P w K mg base CX0 1 (A 25) (D 25) ps__law_mixed (spD m__law_mixed) := by
  exact fn_D (bd := bd__law_mixed) T.fun_25 sc__law_mixed mlen__law_mixed (fun cdv A' outer s H E hr =>
    (pssd_cons (psd_set 3 sc__law_mixed.nd (pd_op op_addU ro_add (pd_opV 0 op_mulU ro_mul (pd_r pd_int)) (pd_r (pd_op op_mulU ro_mul (pd_op op_mulU ro_mul pd_int (pr_var 1)) (pr_var 1)))))
    (pssd_cons (psd_set 3 sc__law_mixed.nd (pd_op op_mod ro_mod (pd_ct1 call_int1 rc_int T.nb_int (pd_r (pd_op op_addU ro_add (pd_opV 3 op_addU ro_add (pd_r (pd_op op_mulU ro_mul pd_int (pr_var 2)))) (pr_var 1)))) (pd_r pd_int)))
    (pssd_cons (psd_set 3 sc__law_mixed.nd (pd_op op_mod ro_mod (pd_ct1 call_int1 rc_int T.nb_int (pd_r (pd_op op_addU ro_add (pd_opV 3 op_mulU ro_mul (pr_var 3)) (pd_r pd_int)))) (pd_r pd_int)))
    (pssd_one (psd_ret (pd_op op_mod ro_mod (pd_ct1 call_int1 rc_int T.nb_int (pd_r (pd_opV 3 op_mulU ro_mul (pd_r pd_int)))) (pd_r pd_int)))))))) math__law_mixed
set_option maxHeartbeats 2000000 in
theorem ok__law_levels (T : Txt K mg A D) : FnOk P w K mg base CX0 1 (A 34) (D 34) ps__law_levels (spD m__law_levels) := by
  exact fn_D (bd := bd__law_levels) T.fun_34 sc__law_levels mlen__law_levels (fun cdv A' outer s H E hr =>
    (pssd_cons (psd_parNN 2 3 rfl sc__law_levels.nd (pn_lst pad_nil) (pn_lst pad_nil))
    (pssd_cons (psd_for PassesOwn.never rfl (pid_var 0) (pgd_name 4 sc__law_levels.nd)
    (pssd_cons (psd_set 5 sc__law_levels.nd (pd_opV 4 op_mulU ro_mul (pr_var 1)))
    (pssd_cons (psd_set 6 sc__law_levels.nd (pd_cb1 call_len_seq rc_len T.nb_len (pd_r (pn_d (pn_lcO rfl sc__law_levels.nd (pio_var 2) (blkOk_by (own := [("tail", 7)]) (by first | decide +kernel | kernel_rfl)) (fun _ _ _ _ _ => (pgd_name 7 sc__law_levels.nd)) (fun _ _ _ _ _ => (ptsd_one (ptd_cmpV 7 op_lt ro_lt (pr_var 5)))) (fun _ _ _ _ _ => (pd_var 7)))))))
    (pssd_cons (psd_if (ptd_cmpV 6 (op_eqD hr.units) ro_eq (pd_r (pd_cb1 call_len_seq rc_len T.nb_len (pr_var 2))))
    (pssd_one (psd_app 2 (pd_var 5) (hp := pe_bm PySem.F.plainAttrs_list PySem.F.slot_list_append PySem.F.type_list_append mt_append (pv 2) (pa_cons (pd_var 5) pa_nil))))
    (pssd_one (psd_setIx 2 (pd_var 5) (pd_var 6))))
    (pssd_one (psd_app 3 (pd_opV 6 op_addU ro_add (pd_r pd_int)) (hp := pe_bm PySem.F.plainAttrs_list PySem.F.slot_list_append PySem.F.type_list_append mt_append (pv 3) (pa_cons (pd_opV 6 op_addU ro_add (pd_r pd_int)) pa_nil))))))))
    (pssd_one (psd_ret (pd_var 3)))))) math__law_levels
set_option maxHeartbeats 2000000 in
theorem ok__law_goes_on (T : Txt K mg A D) : FnOk P w K mg base CX0 1 (A 35) (D 35) ps__law_goes_on (spD m__law_goes_on) := by
  exact fn_D (bd := bd__law_goes_on) T.fun_35 sc__law_goes_on mlen__law_goes_on (fun cdv A' outer s H E hr =>
    (pssd_one (psd_ret (pd_and (pd_cmpV 2 op_lt ro_lt (pr_var 3)) (pd_one (pd_cmp op_gt ro_gt (pd_op op_mulU ro_mul (pd_op op_sub ro_sub (pd_ixV 0 ix_seq ro_ix (pr_var 3)) (pd_r (pd_ixV 0 ix_seq ro_ix (pr_var 2)))) (pr_var 1)) (pd_r pd_int))))))) math__law_goes_on
set_option maxHeartbeats 2000000 in
theorem ok_is_count (T : Txt K mg A D) : FnOk P w K mg base CX0 2 (A 2) (D 2) ps_is_count (spD m_is_count) := by
  exact fn_D (bd := bd_is_count) T.fun_2 sc_is_count mlen_is_count (fun cdv A' outer s H E hr =>
    (pssd_one (psd_ret (pd_and (pd_call ((ok_is_whole T).mono (by decide)) hr T.g_1 T.fun_1.kp (bi_is_whole T) .nil (fun _ => .nil) (pad_cons (pd_var 0) pad_nil)) (pd_one (pd_cmpV 0 op_ge ro_ge (pd_r (pd_cb2 (call_max2 rfl) rc_max2 T.nb_max (pd_var 1) (pd_r pd_int))))))))) math_is_count
set_option maxHeartbeats 2000000 in
theorem ok_is_row (T : Txt K mg A D) : FnOk P w K mg base CX0 2 (A 9) (D 9) ps_is_row (spD m_is_row) := by
  exact fn_D (bd := bd_is_row) T.fun_9 sc_is_row mlen_is_row (fun cdv A' outer s H E hr =>
    (pssd_cons (psd_if (ptd_w (pwd_or (ptd_not (ptd_val (pd_is1 T.nb_isinstance T.nb_list (pr_var 0)))) (pwd_or1 (ptd_not (ptd_val (pd_cb1 (cr_all rfl) rc_all T.nb_all (pd_r (pn_d (pn_lc rfl sc_is_row.nd (pid_var 0) (blkOk_by (own := [("number", 2)]) (by first | decide +kernel | kernel_rfl)) (fun _ _ _ _ _ => (pgd_name 2 sc_is_row.nd)) (fun _ _ _ _ _ => ptsd_nil) (fun _ _ _ _ _ => (pd_call ((ok_is_whole T).mono (by decide)) hr T.g_1 T.fun_1.kp (bi_is_whole T) .nil (fun _ => .nil) (pad_cons (pd_var 2) pad_nil))))))))))))
    (pssd_one (psd_ret pd_bl))
    pssd_nil)
    (pssd_one (psd_ret (pd_cb1 (cr_all rfl) rc_all T.nb_all (pd_r (pn_d (pn_lc rfl sc_is_row.nd (pid_enum T.nb_enumerate (pd_var 0)) (blkOk_by (own := [("at", 1), ("number", 2)]) (by first | decide +kernel | kernel_rfl)) (fun _ _ _ _ _ => (pgd_tup rfl (pgsd_cons (pgd_name 1 sc_is_row.nd) (pgsd_cons (pgd_name 2 sc_is_row.nd) pgsd_nil)) (len_cons any_name (len_cons any_name len_nil)))) (fun _ _ _ _ _ => ptsd_nil) (fun _ _ _ _ _ => (pd_cmpV 2 op_notIn_seq ro_in (pd_r (pn_d (pn_slV 0 pod_none (pod_some (pd_var 1))))))))))))))) math_is_row
set_option maxHeartbeats 2000000 in
theorem ok_check_way (T : Txt K mg A D) : FnOk P w K mg base CX0 2 (A 11) (D 11) ps_check_way (spD m_check_way) := by
  exact fn_D (bd := bd_check_way) T.fun_11 sc_check_way mlen_check_way (fun cdv A' outer s H E hr =>
    (pssd_one (psd_if (ptd_w (pwd_or (ptd_not (ptd_val (pd_call ((ok_is_whole T).mono (by decide)) hr T.g_1 T.fun_1.kp (bi_is_whole T) .nil (fun _ => .nil) (pad_cons (pd_var 0) pad_nil)))) (pwd_or1 (ptd_cmpV 0 op_notIn_seq ro_in (pd_r (pd_tup (pad_cons pd_int (pad_cons (pd_neg pd_int) pad_nil))))))))
    (pssd_one psd_never)
    pssd_nil))) math_check_way
set_option maxHeartbeats 2000000 in
theorem ok_levels_there (T : Txt K mg A D) : FnOk P w K mg base CX0 2 (A 14) (D 14) ps_levels_there (spD m_levels_there) := by
  exact fn_D (bd := bd_levels_there) T.fun_14 sc_levels_there mlen_levels_there (fun cdv A' outer s H E hr =>
    (pssd_cons (psd_setN 2 sc_levels_there.nd (pn_lst pad_nil))
    (pssd_cons (psd_for PassesOwn.never rfl (pid_range1 T.nb_range (pd_cb1 call_len_seq rc_len T.nb_len (pr_var 0))) (pgd_name 3 sc_levels_there.nd)
    (pssd_one (psd_app 2 (pd_op op_addU ro_add pd_int (pd_r (pd_cb1 (cr_max rfl) rc_max1 T.nb_max (pd_r (pd_op op_addU ro_add (pn_d (pn_lst (pad_cons pd_int pad_nil))) (pd_r (pn_d (pn_lc rfl sc_levels_there.nd (pid_range1 T.nb_range (pd_var 3)) (blkOk_by (own := [("one", 4)]) (by first | decide +kernel | kernel_rfl)) (fun _ _ _ _ _ => (pgd_name 4 sc_levels_there.nd)) (fun _ _ _ _ _ => (ptsd_one (ptd_val (pd_call ((ok_goes_on T).mono (by decide)) hr T.g_13 T.fun_13.kp (bi_goes_on T) .nil (fun _ => .nil) (pad_cons (pd_var 0) (pad_cons (pd_var 1) (pad_cons (pd_var 4) (pad_cons (pd_var 3) pad_nil)))))))) (fun _ _ _ _ _ => (pd_ixV 2 ix_seq ro_ix (pr_var 4))))))))))) (hp := pe_bm PySem.F.plainAttrs_list PySem.F.slot_list_append PySem.F.type_list_append mt_append (pv 2) (pa_cons (pd_op op_addU ro_add pd_int (pd_r (pd_cb1 (cr_max rfl) rc_max1 T.nb_max (pd_r (pd_op op_addU ro_add (pn_d (pn_lst (pad_cons pd_int pad_nil))) (pd_r (pn_d (pn_lc rfl sc_levels_there.nd (pid_range1 T.nb_range (pd_var 3)) (blkOk_by (own := [("one", 4)]) (by first | decide +kernel | kernel_rfl)) (fun _ _ _ _ _ => (pgd_name 4 sc_levels_there.nd)) (fun _ _ _ _ _ => (ptsd_one (ptd_val (pd_call ((ok_goes_on T).mono (by decide)) hr T.g_13 T.fun_13.kp (bi_goes_on T) .nil (fun _ => .nil) (pad_cons (pd_var 0) (pad_cons (pd_var 1) (pad_cons (pd_var 4) (pad_cons (pd_var 3) pad_nil)))))))) (fun _ _ _ _ _ => (pd_ixV 2 ix_seq ro_ix (pr_var 4))))))))))) pa_nil)))))
    (pssd_one (psd_ret (pd_var 2)))))) math_levels_there
set_option maxHeartbeats 2000000 in
theorem ok__law_draw (T : Txt K mg A D) : FnOk P w K mg base CX0 2 (A 26) (D 26) ps__law_draw (spP m__law_draw) := by
  exact fn_P (bd := bd__law_draw) T.fun_26 sc__law_draw mlen__law_draw (fun cdv A' outer s H E hr =>
    (pssd_cons (psd_if (ptd_cmp op_gt ro_gt (pd_ixV 0 ix_seq ro_ix (pd_r pd_int)) (pd_r pd_int))
    (pssd_cons (psd_set 2 sc__law_draw.nd (pd_op op_mod ro_mod (pd_ct1 call_int1 rc_int T.nb_int (pd_r (pd_ixV 0 ix_seq ro_ix (pd_r pd_int)))) (pr_var 1)))
    (pssd_cons (psd_setIx 0 (pd_op op_fdivW ro_div (pd_ixV 0 ix_seq ro_ix (pd_r pd_int)) (pr_var 1)) pd_int)
    (pssd_one (psd_ret (pd_var 2)))))
    pssd_nil)
    (pssd_cons (psd_set 3 sc__law_draw.nd pd_int)
    (pssd_cons (psd_for PassesOwn.never rfl (pid_range1 T.nb_range (pd_op op_addU ro_add pd_int (pd_r (pd_op op_fdivW ro_div (pd_bits (pd_var 1)) (pd_r pd_int))))) (pgd_name 4 sc__law_draw.nd)
    (pssd_cons (psd_setIx 0 (pd_op op_addU ro_add (pd_ixV 0 ix_seq ro_ix (pd_r pd_int)) (pd_r pd_int)) pd_int)
    (pssd_one (psd_set 3 sc__law_draw.nd (pd_op op_addU ro_add (pd_opV 3 op_mulU ro_mul (pd_r pd_int)) (pd_r (pd_call ((ok__law_mixed T).mono (by decide)) hr T.g_25 T.fun_25.kp (bi__law_mixed T) .nil (fun _ => .nil) (pad_cons (pd_ixV 0 ix_seq ro_ix (pd_r pd_int)) (pad_cons (pd_ixV 0 ix_seq ro_ix (pd_r pd_int)) (pad_cons (pd_ixV 0 ix_seq ro_ix (pd_r pd_int)) pad_nil))))))))))
    (pssd_one (psd_ret (pd_op op_mod ro_mod (pd_ct1 call_int1 rc_int T.nb_int (pr_var 3)) (pr_var 1)))))))) math__law_draw
set_option maxHeartbeats 2000000 in
theorem ok__law_purses (T : Txt K mg A D) : FnOk P w K mg base CX0 2 (A 28) (D 28) ps__law_purses (spS K m__law_purses) := by
  exact fn_S K (bd := bd__law_purses K) T.fun_28 sc__law_purses mlen__law_purses (fun cdv A' outer s H E hr =>
    (pssd_one (psd_ret (pn_d (pn_lc rfl sc__law_purses.nd (pid_range1 T.nb_range (pd_cb2 (call_max2 rfl) rc_max2 T.nb_max pd_int (pd_r (pd_cb2 (call_min2 rfl) rc_min2 T.nb_min (pd_var 1) (pd_r (pd_lenS 0 T.nb_len)))))) (blkOk_by (own := [("at", 2)]) (by first | decide +kernel | kernel_rfl)) (fun _ _ _ _ _ => (pgd_name 2 sc__law_purses.nd)) (fun _ _ _ _ _ => ptsd_nil) (fun _ _ _ _ _ => (pd_callS 0 ((ok__law_purse T).mono (by decide)) hr T.g_24 T.fun_24.kp (bi__law_purse T) .nil (fun _ => .nil) (pad_cons (pd_var 2) pad_nil)))))))) math__law_purses
set_option maxHeartbeats 2000000 in
theorem ok__law_first (T : Txt K mg A D) : FnOk P w K mg base CX0 2 (A 36) (D 36) ps__law_first (spD m__law_first) := by
  exact fn_D (bd := bd__law_first) T.fun_36 sc__law_first mlen__law_first (fun cdv A' outer s H E hr =>
    (pssd_cons (psd_setN 2 sc__law_first.nd (pn_rep (pn_d (pn_lst (pad_cons pd_int pad_nil))) (pd_r (pd_cb1 call_len_seq rc_len T.nb_len (pr_var 0)))))
    (pssd_cons (psd_for PassesOwn.never rfl (pid_range3 T.nb_range (pd_op op_sub ro_sub (pd_cb1 call_len_seq rc_len T.nb_len (pr_var 0)) (pd_r pd_int)) (pd_op op_sub ro_sub pd_int (pd_r pd_int)) (pd_op op_sub ro_sub pd_int (pd_r pd_int))) (pgd_name 3 sc__law_first.nd)
    (pssd_one (psd_setIx 2 (pd_op op_addU ro_add pd_int (pd_r (pd_cb1 (cr_max rfl) rc_max1 T.nb_max (pd_r (pd_op op_addU ro_add (pn_d (pn_lst (pad_cons pd_int pad_nil))) (pd_r (pn_d (pn_lc rfl sc__law_first.nd (pid_range2 T.nb_range (pd_opV 3 op_addU ro_add (pd_r pd_int)) (pd_cb1 call_len_seq rc_len T.nb_len (pr_var 0))) (blkOk_by (own := [("late", 8)]) (by first | decide +kernel | kernel_rfl)) (fun _ _ _ _ _ => (pgd_name 8 sc__law_first.nd)) (fun _ _ _ _ _ => (ptsd_one (ptd_val (pd_call ((ok__law_goes_on T).mono (by decide)) hr T.g_35 T.fun_35.kp (bi__law_goes_on T) .nil (fun _ => .nil) (pad_cons (pd_var 0) (pad_cons (pd_var 1) (pad_cons (pd_var 3) (pad_cons (pd_var 8) pad_nil)))))))) (fun _ _ _ _ _ => (pd_ixV 2 ix_seq ro_ix (pr_var 8))))))))))) (pd_var 3))))
    (pssd_cons (psd_unpN 4 5 rfl sc__law_first.nd (pn_lst pad_nil) (pd_cb1 (cr_max rfl) rc_max1 T.nb_max (pd_r (pd_op op_addU ro_add (pn_d (pn_lst (pad_cons pd_int pad_nil))) (pr_var 2)))))
    (pssd_cons (psd_for PassesOwn.never rfl (pid_range1 T.nb_range (pd_var 5)) (pgd_name 6 sc__law_first.nd)
    (pssd_cons (psd_setLc 7 rfl sc__law_first.nd (pid_range1 T.nb_range (pd_cb1 call_len_seq rc_len T.nb_len (pr_var 0))) (blkOk_by (own := [("at", 3)]) (by first | decide +kernel | kernel_rfl)) (fun _ _ _ _ _ => (pgd_name 3 sc__law_first.nd)) (fun _ _ _ _ _ => (ptsd_one (ptd_w (pwd_and (ptd_cmp (op_eqD hr.units) ro_eq (pd_ixV 2 ix_seq ro_ix (pr_var 3)) (pd_r (pd_opV 5 op_sub ro_sub (pr_var 6)))) (pwd_and1 (ptd_w (pwd_or (ptd_cmpV 4 (op_eqD hr.units) ro_eq (pd_r (pn_d (pn_lst pad_nil)))) (pwd_or1 (ptd_val (pd_call ((ok__law_goes_on T).mono (by decide)) hr T.g_35 T.fun_35.kp (bi__law_goes_on T) .nil (fun _ => .nil) (pad_cons (pd_var 0) (pad_cons (pd_var 1) (pad_cons (pd_ixV 4 ix_seq ro_ix (pd_r (pd_op op_sub ro_sub (pd_cb1 call_len_seq rc_len T.nb_len (pr_var 4)) (pd_r pd_int)))) (pad_cons (pd_var 3) pad_nil)))))))))))))) (fun _ _ _ _ _ => (pd_var 3)))
    (pssd_one (psd_app 4 (pd_cb1 (cr_min rfl) rc_min1 T.nb_min (pr_var 7)) (hp := pe_bm PySem.F.plainAttrs_list PySem.F.slot_list_append PySem.F.type_list_append mt_append (pv 4) (pa_cons (pd_cb1 (cr_min rfl) rc_min1 T.nb_min (pr_var 7)) pa_nil))))))
    (pssd_one (psd_ret (pd_var 4)))))))) math__law_first
set_option maxHeartbeats 2000000 in
theorem ok__law_is_covering (T : Txt K mg A D) : FnOk P w K mg base CX0 2 (A 37) (D 37) ps__law_is_covering (spD m__law_is_covering) := by
  exact fn_D (bd := bd__law_is_covering) T.fun_37 sc__law_is_covering mlen__law_is_covering (fun cdv A' outer s H E hr =>
    (pssd_cons (psd_if (ptd_w (pwd_or (ptd_not (ptd_val (pd_is1 T.nb_isinstance T.nb_list (pr_var 3)))) (pwd_or (ptd_cmp (op_neD hr.units) ro_ne (pd_cb1 call_len_seq rc_len T.nb_len (pr_var 3)) (pr_var 2)) (pwd_or1 (ptd_not (ptd_val (pd_cb1 (cr_all rfl) rc_all T.nb_all (pd_r (pn_d (pn_lc rfl sc__law_is_covering.nd (pid_var 3) (blkOk_by (own := [("places", 5)]) (by first | decide +kernel | kernel_rfl)) (fun _ _ _ _ _ => (pgd_name 5 sc__law_is_covering.nd)) (fun _ _ _ _ _ => ptsd_nil) (fun _ _ _ _ _ => (pd_and (pd_is1 T.nb_isinstance T.nb_list (pr_var 5)) (pd_one (pd_cmpV 5 (op_neD hr.units) ro_ne (pd_r (pn_d (pn_lst pad_nil)))))))))))))))))
    (pssd_one (psd_ret pd_bl))
    pssd_nil)
    (pssd_cons (psd_set 4 sc__law_is_covering.nd (pn_d (pn_lst pad_nil)))
    (pssd_cons (psd_for PassesOwn.never rfl (pid_var 3) (pgd_name 5 sc__law_is_covering.nd)
    (pssd_cons (psd_if (ptd_not (ptd_val (pd_cb1 (cr_all rfl) rc_all T.nb_all (pd_r (pn_d (pn_lc rfl sc__law_is_covering.nd (pid_var 5) (blkOk_by (own := [("at", 6)]) (by first | decide +kernel | kernel_rfl)) (fun _ _ _ _ _ => (pgd_name 6 sc__law_is_covering.nd)) (fun _ _ _ _ _ => ptsd_nil) (fun _ _ _ _ _ => (pd_and (pd_is1 T.nb_isinstance T.nb_int (pr_var 6)) (pd_and (pd_not (pd_is1 T.nb_isinstance T.nb_bool (pr_var 6))) (pd_one (pd_chain op_le op_lt ro_le ro_lt pd_int (pd_var 6) (pd_r (pd_cb1 call_len_seq rc_len T.nb_len (pr_var 0))))))))))))))
    (pssd_one (psd_ret pd_bl))
    pssd_nil)
    (pssd_cons (psd_if (ptd_not (ptd_val (pd_cb1 (cr_all rfl) rc_all T.nb_all (pd_r (pn_d (pn_lc rfl sc__law_is_covering.nd (pid_range2 T.nb_range pd_int (pd_cb1 call_len_seq rc_len T.nb_len (pr_var 5))) (blkOk_by (own := [("at", 6)]) (by first | decide +kernel | kernel_rfl)) (fun _ _ _ _ _ => (pgd_name 6 sc__law_is_covering.nd)) (fun _ _ _ _ _ => ptsd_nil) (fun _ _ _ _ _ => (pd_call ((ok__law_goes_on T).mono (by decide)) hr T.g_35 T.fun_35.kp (bi__law_goes_on T) .nil (fun _ => .nil) (pad_cons (pd_var 0) (pad_cons (pd_op op_sub ro_sub pd_int (pr_var 1)) (pad_cons (pd_ixV 5 ix_seq ro_ix (pd_r (pd_opV 6 op_sub ro_sub (pd_r pd_int)))) (pad_cons (pd_ixV 5 ix_seq ro_ix (pr_var 6)) pad_nil))))))))))))
    (pssd_one (psd_ret pd_bl))
    pssd_nil)
    (pssd_one (psd_set 4 sc__law_is_covering.nd (pd_opV 4 op_addU ro_add (pr_var 5)))))))
    (pssd_one (psd_ret (pd_cmp (op_eqD hr.units) ro_eq (pd_cb1 cr_sortedI rc_sortI T.nb_sorted (pr_var 4)) (pd_r (pn_d (pn_listRg1 rfl T.nb_range T.nb_list (pd_cb1 call_len_seq rc_len T.nb_len (pr_var 0)))))))))))) math__law_is_covering
set_option maxHeartbeats 2000000 in
theorem ok_check_row (T : Txt K mg A D) : FnOk P w K mg base CX0 3 (A 10) (D 10) ps_check_row (spD m_check_row) := by
  exact fn_D (bd := bd_check_row) T.fun_10 sc_check_row mlen_check_row (fun cdv A' outer s H E hr =>
    (pssd_one (psd_if (ptd_not (ptd_val (pd_call ((ok_is_row T).mono (by decide)) hr T.g_9 T.fun_9.kp (bi_is_row T) .nil (fun _ => .nil) (pad_cons (pd_var 0) pad_nil))))
    (pssd_one psd_never)
    pssd_nil))) math_check_row
set_option maxHeartbeats 2000000 in
theorem ok_most_there (T : Txt K mg A D) : FnOk P w K mg base CX0 3 (A 15) (D 15) ps_most_there (spD m_most_there) := by
  exact fn_D (bd := bd_most_there) T.fun_15 sc_most_there mlen_most_there (fun cdv A' outer s H E hr =>
    (pssd_one (psd_ret (pd_cb1 (cr_max rfl) rc_max1 T.nb_max (pd_r (pd_op op_addU ro_add (pn_d (pn_lst (pad_cons pd_int pad_nil))) (pd_r (pd_call ((ok_levels_there T).mono (by decide)) hr T.g_14 T.fun_14.kp (bi_levels_there T) .nil (fun _ => .nil) (pad_cons (pd_var 0) (pad_cons (pd_var 1) pad_nil)))))))))) math_most_there
set_option maxHeartbeats 2000000 in
theorem ok_tails_there (T : Txt K mg A D) : FnOk P w K mg base CX0 3 (A 18) (D 18) ps_tails_there (spD m_tails_there) := by
  exact fn_D (bd := bd_tails_there) T.fun_18 sc_tails_there mlen_tails_there (fun cdv A' outer s H E hr =>
    (pssd_one (psd_ret (pn_d (pn_rev (pd_call ((ok_levels_there T).mono (by decide)) hr T.g_14 T.fun_14.kp (bi_levels_there T) .nil (fun _ => .nil) (pad_cons (pn_d (pn_revV 0 po_n1)) (pad_cons (pd_op op_sub ro_sub pd_int (pr_var 1)) pad_nil))) po_n1))))) math_tails_there
set_option maxHeartbeats 2000000 in
theorem ok_goes (T : Txt K mg A D) : FnOk P w K mg base CX0 3 (A 21) (D 21) ps_goes (spD m_goes) := by
  obtain ⟨ds_is_count_1, v_is_count_1, b_is_count_1⟩ := bi_is_count_1 T
  exact fn_D (bd := bd_goes) T.fun_21 sc_goes mlen_goes (fun cdv A' outer s H E hr =>
    (pssd_cons (psd_if (ptd_w (pwd_or (ptd_not (ptd_val (pd_is1 T.nb_isinstance T.nb_list (pr_var 2)))) (pwd_or1 (ptd_not (ptd_val (pd_cb1 (cr_all rfl) rc_all T.nb_all (pd_r (pn_d (pn_lc rfl sc_goes.nd (pid_var 2) (blkOk_by (own := [("at", 5)]) (by first | decide +kernel | kernel_rfl)) (fun _ _ _ _ _ => (pgd_name 5 sc_goes.nd)) (fun _ _ _ _ _ => ptsd_nil) (fun _ _ _ _ _ => (pd_and (pd_call ((ok_is_count T).mono (by decide)) hr T.g_2 T.fun_2.kp b_is_count_1 v_is_count_1 (fun _ => (.cons (.int 0) .nil)) (pad_cons (pd_var 5) pad_nil)) (pd_one (pd_cmpV 5 op_lt ro_lt (pd_r (pd_cb1 call_len_seq rc_len T.nb_len (pr_var 0))))))))))))))))
    (pssd_one (psd_ret pd_bl))
    pssd_nil)
    (pssd_one (psd_ret (pd_cb1 (cr_all rfl) rc_all T.nb_all (pd_r (pn_d (pn_lc rfl sc_goes.nd (pid_zip T.nb_zip (pd_var 2) (pn_d (pn_slV 2 (pod_some pd_int) pod_none))) (blkOk_by (own := [("one", 3), ("late", 4)]) (by first | decide +kernel | kernel_rfl)) (fun _ _ _ _ _ => (pgd_tup rfl (pgsd_cons (pgd_name 3 sc_goes.nd) (pgsd_cons (pgd_name 4 sc_goes.nd) pgsd_nil)) (len_cons any_name (len_cons any_name len_nil)))) (fun _ _ _ _ _ => ptsd_nil) (fun _ _ _ _ _ => (pd_and (pd_cmpV 3 op_lt ro_lt (pr_var 4)) (pd_one (pd_call ((ok_goes_on T).mono (by decide)) hr T.g_13 T.fun_13.kp (bi_goes_on T) .nil (fun _ => .nil) (pad_cons (pd_var 0) (pad_cons (pd_var 1) (pad_cons (pd_var 3) (pad_cons (pd_var 4) pad_nil)))))))))))))))) math_goes
set_option maxHeartbeats 2000000 in
theorem ok__law_one_of (T : Txt K mg A D) : FnOk P w K mg base CX0 3 (A 27) (D 27) ps__law_one_of (spP m__law_one_of) := by
  exact fn_P (bd := bd__law_one_of) T.fun_27 sc__law_one_of mlen__law_one_of (fun cdv A' outer s H E hr =>
    (pssd_one (psd_ret (pd_ixV 1 ix_seq ro_ix (pd_r (pd_callP 0 ((ok__law_draw T).mono (by decide)) hr T.g_26 T.fun_26.kp (bi__law_draw T) .nil (fun _ => .nil) (pad_cons (pd_cb1 call_len_seq rc_len T.nb_len (pr_var 1)) pad_nil))))))) math__law_one_of
set_option maxHeartbeats 2000000 in
theorem ok__law_shuffled (T : Txt K mg A D) : FnOk P w K mg base CX0 3 (A 29) (D 29) ps__law_shuffled (spP m__law_shuffled) := by
  exact fn_P (bd := bd__law_shuffled) T.fun_29 sc__law_shuffled mlen__law_shuffled (fun cdv A' outer s H E hr =>
    (pssd_cons (psd_setN 2 sc__law_shuffled.nd (pn_lst pad_nil))
    (pssd_cons (psd_for PassesOwn.never rfl (pid_var 1) (pgd_name 3 sc__law_shuffled.nd)
    (pssd_one (psd_ins 2 (pe_bm PySem.F.plainAttrs_list PySem.F.slot_list_insert PySem.F.type_list_insert mt_insert (pv 2) (pa_cons (pd_callP 0 ((ok__law_draw T).mono (by decide)) hr T.g_26 T.fun_26.kp (bi__law_draw T) .nil (fun _ => .nil) (pad_cons (pd_op op_addU ro_add (pd_cb1 call_len_seq rc_len T.nb_len (pr_var 2)) (pd_r pd_int)) pad_nil)) (pa_cons (pd_var 3) pa_nil))))))
    (pssd_one (psd_ret (pd_var 2)))))) math__law_shuffled
set_option maxHeartbeats 2000000 in
theorem ok_check_row_way (T : Txt K mg A D) : FnOk P w K mg base CX0 4 (A 12) (D 12) ps_check_row_way (spD m_check_row_way) := by
  exact fn_D (bd := bd_check_row_way) T.fun_12 sc_check_row_way mlen_check_row_way (fun cdv A' outer s H E hr =>
    (pssd_cons (psd_drop (pd_call ((ok_check_row T).mono (by decide)) hr T.g_10 T.fun_10.kp (bi_check_row T) .nil (fun _ => .nil) (pad_cons (pd_var 0) pad_nil)))
    (pssd_one (psd_drop (pd_call ((ok_check_way T).mono (by decide)) hr T.g_11 T.fun_11.kp (bi_check_way T) .nil (fun _ => .nil) (pad_cons (pd_var 1) pad_nil)))))) math_check_row_way
set_option maxHeartbeats 2000000 in
theorem ok__law_row (T : Txt K mg A D) : FnOk P w K mg base CX0 4 (A 33) (D 33) ps__law_row (spP m__law_row) := by
  exact fn_P (bd := bd__law_row) T.fun_33 sc__law_row mlen__law_row (fun cdv A' outer s H E hr =>
    (pssd_cons (psd_par 2 3 rfl sc__law_row.nd (pd_callP 0 ((ok__law_draw T).mono (by decide)) hr T.g_26 T.fun_26.kp (bi__law_draw T) .nil (fun _ => .nil) (pad_cons (pd_opV 1 op_addU ro_add (pd_r pd_int)) pad_nil)) (pd_callP 0 ((ok__law_draw T).mono (by decide)) hr T.g_26 T.fun_26.kp (bi__law_draw T) .nil (fun _ => .nil) (pad_cons pd_int pad_nil)))
    (pssd_cons (psd_set 4 sc__law_row.nd (pd_callP 0 ((ok__law_one_of T).mono (by decide)) hr T.g_27 T.fun_27.kp (bi__law_one_of T) .nil (fun _ => .nil) (pad_cons (pn_d (pn_lst (pad_cons pd_int (pad_cons (pd_op op_powB ro_pow pd_int (pd_r pd_int)) (pad_cons (pd_op op_powB ro_pow pd_int (pd_r pd_int)) pad_nil))))) pad_nil)))
    (pssd_cons (psd_parN 5 6 rfl sc__law_row.nd (pn_lst pad_nil) (pd_op op_addU ro_add (pd_op op_sub ro_sub (pd_callP 0 ((ok__law_draw T).mono (by decide)) hr T.g_26 T.fun_26.kp (bi__law_draw T) .nil (fun _ => .nil) (pad_cons (pd_op op_sub ro_sub (pd_op op_mulU ro_mul pd_int (pr_var 4)) (pd_r pd_int)) pad_nil)) (pr_var 4)) (pd_r pd_int)))
    (pssd_cons (psd_for PassesOwn.never rfl (pid_range1 T.nb_range (pd_var 2)) (pgd_name 7 sc__law_row.nd)
    (pssd_one (psd_app 5 (pd_if (ptd_cmpV 3 (op_eqD hr.units) ro_eq (pd_r pd_int)) (pd_opV 6 op_addU ro_add (pr_var 7)) (pd_if (ptd_cmpV 4 (op_eqD hr.units) ro_eq (pd_r pd_int)) (pd_op op_sub ro_sub (pd_opV 7 op_mulU ro_mul (pd_r pd_int)) (pd_r pd_int)) (pd_op op_addU ro_add (pd_op op_sub ro_sub (pd_callP 0 ((ok__law_draw T).mono (by decide)) hr T.g_26 T.fun_26.kp (bi__law_draw T) .nil (fun _ => .nil) (pad_cons (pd_op op_sub ro_sub (pd_op op_mulU ro_mul pd_int (pr_var 4)) (pd_r pd_int)) pad_nil)) (pr_var 4)) (pd_r pd_int)))) (hp := pe_bm PySem.F.plainAttrs_list PySem.F.slot_list_append PySem.F.type_list_append mt_append (pv 5) (pa_cons (pd_if (ptd_cmpV 3 (op_eqD hr.units) ro_eq (pd_r pd_int)) (pd_opV 6 op_addU ro_add (pr_var 7)) (pd_if (ptd_cmpV 4 (op_eqD hr.units) ro_eq (pd_r pd_int)) (pd_op op_sub ro_sub (pd_opV 7 op_mulU ro_mul (pd_r pd_int)) (pd_r pd_int)) (pd_op op_addU ro_add (pd_op op_sub ro_sub (pd_callP 0 ((ok__law_draw T).mono (by decide)) hr T.g_26 T.fun_26.kp (bi__law_draw T) .nil (fun _ => .nil) (pad_cons (pd_op op_sub ro_sub (pd_op op_mulU ro_mul pd_int (pr_var 4)) (pd_r pd_int)) pad_nil)) (pr_var 4)) (pd_r pd_int)))) pa_nil)))))
    (pssd_cons (psd_setN 8 sc__law_row.nd (pn_lst pad_nil))
    (pssd_cons (psd_for PassesOwn.never rfl (pid_list (pd_sortSet rfl T.nb_sorted T.nb_set (pd_var 5))) (pgd_name 9 sc__law_row.nd)
    (pssd_one (psd_app 8 (pd_var 9) (hp := pe_bm PySem.F.plainAttrs_list PySem.F.slot_list_append PySem.F.type_list_append mt_append (pv 8) (pa_cons (pd_var 9) pa_nil)))))
    (pssd_cons (psd_if (ptd_cmpV 3 op_lt ro_lt (pd_r pd_int))
    (pssd_one (psd_ret (pd_callP 0 ((ok__law_shuffled T).mono (by decide)) hr T.g_29 T.fun_29.kp (bi__law_shuffled T) .nil (fun _ => .nil) (pad_cons (pd_var 8) pad_nil))))
    pssd_nil)
    (pssd_cons (psd_if (ptd_cmpV 3 (op_eqD hr.units) ro_eq (pd_r pd_int))
    (pssd_cons (psd_for PassesOwn.never rfl (pid_range1 T.nb_range (pd_callP 0 ((ok__law_draw T).mono (by decide)) hr T.g_26 T.fun_26.kp (bi__law_draw T) .nil (fun _ => .nil) (pad_cons pd_int pad_nil))) (pgd_name 7 sc__law_row.nd)
    (pssd_one (psd_if (ptd_cmp op_gt ro_gt (pd_cb1 call_len_seq rc_len T.nb_len (pr_var 8)) (pd_r pd_int))
    (pssd_cons (psd_set 10 sc__law_row.nd (pd_callP 0 ((ok__law_draw T).mono (by decide)) hr T.g_26 T.fun_26.kp (bi__law_draw T) .nil (fun _ => .nil) (pad_cons (pd_op op_sub ro_sub (pd_cb1 call_len_seq rc_len T.nb_len (pr_var 8)) (pd_r pd_int)) pad_nil)))
    (pssd_one (psd_set 8 sc__law_row.nd (pd_op op_addU ro_add (pd_op op_addU ro_add (pn_d (pn_slV 8 pod_none (pod_some (pd_var 10)))) (pd_r (pn_d (pn_lst (pad_cons (pd_ixV 8 ix_seq ro_ix (pd_r (pd_opV 10 op_addU ro_add (pd_r pd_int)))) (pad_cons (pd_ixV 8 ix_seq ro_ix (pr_var 10)) pad_nil)))))) (pd_r (pn_d (pn_slV 8 (pod_some (pd_opV 10 op_addU ro_add (pd_r pd_int))) pod_none)))))))
    pssd_nil)))
    (pssd_one (psd_ret (pd_if (ptd_cmp (op_eqD hr.units) ro_eq (pd_callP 0 ((ok__law_draw T).mono (by decide)) hr T.g_26 T.fun_26.kp (bi__law_draw T) .nil (fun _ => .nil) (pad_cons pd_int pad_nil)) (pd_r pd_int)) (pd_var 8) (pn_d (pn_revV 8 po_m1))))))
    pssd_nil)
    (pssd_cons (psd_par 11 12 rfl sc__law_row.nd (pd_op op_addU ro_add pd_int (pd_r (pd_callP 0 ((ok__law_draw T).mono (by decide)) hr T.g_26 T.fun_26.kp (bi__law_draw T) .nil (fun _ => .nil) (pad_cons pd_int pad_nil)))) (pn_d (pn_lst pad_nil)))
    (pssd_cons (psd_for PassesOwn.never rfl (pid_range1 T.nb_range (pd_var 11)) (pgd_name 10 sc__law_row.nd)
    (pssd_one (psd_set 12 sc__law_row.nd (pd_opV 12 op_addU ro_add (pd_r (pn_d (pn_rev (pn_d (pn_pick (pd_var 8) (pod_some (pd_var 10)) pod_none (pod_some (pd_var 11)))) po_m1)))))))
    (pssd_one (psd_ret (pd_var 12)))))))))))))) math__law_row
set_option maxHeartbeats 2000000 in
theorem ok__law_own_covering (T : Txt K mg A D) : FnOk P w K mg base CX0 4 (A 38) (D 38) ps__law_own_covering (spP m__law_own_covering) := by
  exact fn_P (bd := bd__law_own_covering) T.fun_38 sc__law_own_covering mlen__law_own_covering (fun cdv A' outer s H E hr =>
    (pssd_cons (psd_unpNN 3 4 rfl sc__law_own_covering.nd (pn_lst pad_nil) (pn_lst pad_nil))
    (pssd_cons (psd_for PassesOwn.never rfl (pid_range1 T.nb_range (pd_cb1 call_len_seq rc_len T.nb_len (pr_var 1))) (pgd_name 5 sc__law_own_covering.nd)
    (pssd_cons (psd_setLcO 6 rfl sc__law_own_covering.nd (pio_enum 3 T.nb_enumerate) (blkOk_by (own := [("spot", 8), ("end", 9)]) (by first | decide +kernel | kernel_rfl)) (fun _ _ _ _ _ => (pgd_tup rfl (pgsd_cons (pgd_name 8 sc__law_own_covering.nd) (pgsd_cons (pgd_name 9 sc__law_own_covering.nd) pgsd_nil)) (len_cons any_name (len_cons any_name len_nil)))) (fun _ _ _ _ _ => (ptsd_one (ptd_cmp op_lt ro_lt (pd_op op_mulU ro_mul (pd_op op_sub ro_sub (pd_ixV 1 ix_seq ro_ix (pr_var 5)) (pd_r (pd_ixV 1 ix_seq ro_ix (pr_var 9)))) (pr_var 2)) (pd_r pd_int)))) (fun _ _ _ _ _ => (pd_var 8)))
    (pssd_one (psd_if (ptd_cmpV 6 (op_eqD hr.units) ro_eq (pd_r (pn_d (pn_lst pad_nil))))
    (pssd_one (psd_unpNN 3 4 rfl sc__law_own_covering.nd (pn_catV 3 (pn_d (pn_lst (pad_cons (pd_var 5) pad_nil)))) (pn_catV 4 (pn_d (pn_lst (pad_cons (pn_d (pn_lst (pad_cons (pd_var 5) pad_nil))) pad_nil))))))
    (pssd_cons (psd_set 7 sc__law_own_covering.nd (pd_ix ix_seq ro_ix (pd_cb1 (cr_minDt rfl (u65 hr)) rc_minD T.nb_min (pd_r (pn_d (pn_lc rfl sc__law_own_covering.nd (pid_var 6) (blkOk_by (own := [("spot", 8)]) (by first | decide +kernel | kernel_rfl)) (fun _ _ _ _ _ => (pgd_name 8 sc__law_own_covering.nd)) (fun _ _ _ _ _ => ptsd_nil) (fun _ _ _ _ _ => (pd_tup (pad_cons (pd_cb1 call_abs rc_abs T.nb_abs (pd_r (pd_op op_sub ro_sub (pd_ixV 1 ix_seq ro_ix (pd_r (pd_ixV 3 ix_seq ro_ix (pr_var 8)))) (pd_r (pd_ixV 1 ix_seq ro_ix (pr_var 5)))))) (pad_cons (pd_var 8) pad_nil)))))))) (pd_r pd_int)))
    (pssd_cons (psd_setIx 3 (pd_var 5) (pd_var 7))
    (pssd_one (psd_setIx 4 (pd_op op_addU ro_add (pd_ixV 4 ix_seq ro_ix (pr_var 7)) (pd_r (pn_d (pn_lst (pad_cons (pd_var 5) pad_nil))))) (pd_var 7)))))))))
    (pssd_one (psd_ret (pd_callP 0 ((ok__law_shuffled T).mono (by decide)) hr T.g_29 T.fun_29.kp (bi__law_shuffled T) .nil (fun _ => .nil) (pad_cons (pd_var 4) pad_nil))))))) math__law_own_covering
set_option maxHeartbeats 2000000 in
theorem ok_most_places (T : Txt K mg A D) : FnOk P w K mg base CX0 5 (A 16) (D 16) ps_most_places (spD m_most_places) := by
  exact fn_D (bd := bd_most_places) T.fun_16 sc_most_places mlen_most_places (fun cdv A' outer s H E hr =>
    (pssd_cons (psd_drop (pd_call ((ok_check_row_way T).mono (by decide)) hr T.g_12 T.fun_12.kp (bi_check_row_way T) .nil (fun _ => .nil) (pad_cons (pd_var 0) (pad_cons (pd_var 1) pad_nil))))
    (pssd_one (psd_ret (pd_call ((ok_most_there T).mono (by decide)) hr T.g_15 T.fun_15.kp (bi_most_there T) .nil (fun _ => .nil) (pad_cons (pd_var 0) (pad_cons (pd_var 1) pad_nil))))))) math_most_places
set_option maxHeartbeats 2000000 in
theorem ok_levels_of (T : Txt K mg A D) : FnOk P w K mg base CX0 5 (A 17) (D 17) ps_levels_of (spD m_levels_of) := by
  exact fn_D (bd := bd_levels_of) T.fun_17 sc_levels_of mlen_levels_of (fun cdv A' outer s H E hr =>
    (pssd_cons (psd_drop (pd_call ((ok_check_row_way T).mono (by decide)) hr T.g_12 T.fun_12.kp (bi_check_row_way T) .nil (fun _ => .nil) (pad_cons (pd_var 0) (pad_cons (pd_var 1) pad_nil))))
    (pssd_one (psd_ret (pd_call ((ok_levels_there T).mono (by decide)) hr T.g_14 T.fun_14.kp (bi_levels_there T) .nil (fun _ => .nil) (pad_cons (pd_var 0) (pad_cons (pd_var 1) pad_nil))))))) math_levels_of
set_option maxHeartbeats 2000000 in
theorem ok_first_longest (T : Txt K mg A D) : FnOk P w K mg base CX0 5 (A 19) (D 19) ps_first_longest (spD m_first_longest) := by
  exact fn_D (bd := bd_first_longest) T.fun_19 sc_first_longest mlen_first_longest (fun cdv A' outer s H E hr =>
    (pssd_cons (psd_drop (pd_call ((ok_check_row_way T).mono (by decide)) hr T.g_12 T.fun_12.kp (bi_check_row_way T) .nil (fun _ => .nil) (pad_cons (pd_var 0) (pad_cons (pd_var 1) pad_nil))))
    (pssd_cons (psd_unpVN 2 3 rfl sc_first_longest.nd (pd_call ((ok_tails_there T).mono (by decide)) hr T.g_18 T.fun_18.kp (bi_tails_there T) .nil (fun _ => .nil) (pad_cons (pd_var 0) (pad_cons (pd_var 1) pad_nil))) (pn_lst pad_nil))
    (pssd_cons (psd_for PassesOwn.never rfl (pid_range3 T.nb_range (pd_call ((ok_most_there T).mono (by decide)) hr T.g_15 T.fun_15.kp (bi_most_there T) .nil (fun _ => .nil) (pad_cons (pd_var 0) (pad_cons (pd_var 1) pad_nil))) pd_int (pd_neg pd_int)) (pgd_name 4 sc_first_longest.nd)
    (pssd_cons (psd_setLc 5 rfl sc_first_longest.nd (pid_range1 T.nb_range (pd_cb1 call_len_seq rc_len T.nb_len (pr_var 0))) (blkOk_by (own := [("at", 6)]) (by first | decide +kernel | kernel_rfl)) (fun _ _ _ _ _ => (pgd_name 6 sc_first_longest.nd)) (fun _ _ _ _ _ => (ptsd_one (ptd_w (pwd_or (ptd_cmpV 3 (op_eqD hr.units) ro_eq (pd_r (pn_d (pn_lst pad_nil)))) (pwd_or1 (ptd_w (pwd_and (ptd_cmpV 6 op_gt ro_gt (pd_r (pd_ixV 3 ix_seq ro_ix (pd_r (pd_neg pd_int))))) (pwd_and1 (ptd_val (pd_call ((ok_goes_on T).mono (by decide)) hr T.g_13 T.fun_13.kp (bi_goes_on T) .nil (fun _ => .nil) (pad_cons (pd_var 0) (pad_cons (pd_var 1) (pad_cons (pd_ixV 3 ix_seq ro_ix (pd_r (pd_neg pd_int))) (pad_cons (pd_var 6) pad_nil)))))))))))))) (fun _ _ _ _ _ => (pd_var 6)))
    (pssd_one (psd_app 3 (pd_ix ix_seq ro_ix (pn_d (pn_lc rfl sc_first_longest.nd (pid_var 5) (blkOk_by (own := [("at", 6)]) (by first | decide +kernel | kernel_rfl)) (fun _ _ _ _ _ => (pgd_name 6 sc_first_longest.nd)) (fun _ _ _ _ _ => (ptsd_one (ptd_cmp (op_eqD hr.units) ro_eq (pd_ixV 2 ix_seq ro_ix (pr_var 6)) (pr_var 4)))) (fun _ _ _ _ _ => (pd_var 6)))) (pd_r pd_int)) (hp := pe_bm PySem.F.plainAttrs_list PySem.F.slot_list_append PySem.F.type_list_append mt_append (pv 3) (pa_cons (pd_ix ix_seq ro_ix (pn_d (pn_lc rfl sc_first_longest.nd (pid_var 5) (blkOk_by (own := [("at", 6)]) (by first | decide +kernel | kernel_rfl)) (fun _ _ _ _ _ => (pgd_name 6 sc_first_longest.nd)) (fun _ _ _ _ _ => (ptsd_one (ptd_cmp (op_eqD hr.units) ro_eq (pd_ixV 2 ix_seq ro_ix (pr_var 6)) (pr_var 4)))) (fun _ _ _ _ _ => (pd_var 6)))) (pd_r pd_int)) pa_nil))))))
    (pssd_one (psd_ret (pd_var 3))))))) math_first_longest
set_option maxHeartbeats 2000000 in
theorem ok_covering (T : Txt K mg A D) : FnOk P w K mg base CX0 5 (A 20) (D 20) ps_covering (spD m_covering) := by
  exact fn_D (bd := bd_covering) T.fun_20 sc_covering mlen_covering (fun cdv A' outer s H E hr =>
    (pssd_cons (psd_drop (pd_call ((ok_check_row_way T).mono (by decide)) hr T.g_12 T.fun_12.kp (bi_check_row_way T) .nil (fun _ => .nil) (pad_cons (pd_var 0) (pad_cons (pd_var 1) pad_nil))))
    (pssd_cons (psd_set 2 sc_covering.nd (pd_call ((ok_levels_there T).mono (by decide)) hr T.g_14 T.fun_14.kp (bi_levels_there T) .nil (fun _ => .nil) (pad_cons (pd_var 0) (pad_cons (pd_var 1) pad_nil))))
    (pssd_one (psd_ret (pn_d (pn_lc rfl sc_covering.nd (pid_range2 T.nb_range pd_int (pd_op op_addU ro_add (pd_call ((ok_most_there T).mono (by decide)) hr T.g_15 T.fun_15.kp (bi_most_there T) .nil (fun _ => .nil) (pad_cons (pd_var 0) (pad_cons (pd_var 1) pad_nil))) (pd_r pd_int))) (blkOk_by (own := [("level", 3)]) (by first | decide +kernel | kernel_rfl)) (fun _ _ _ _ _ => (pgd_name 3 sc_covering.nd)) (fun _ _ _ _ _ => ptsd_nil) (fun _ _ _ _ _ => (pn_d (pn_lc rfl sc_covering.nd (pid_range1 T.nb_range (pd_cb1 call_len_seq rc_len T.nb_len (pr_var 0))) (blkOk_by (own := [("at", 4)]) (by first | decide +kernel | kernel_rfl)) (fun _ _ _ _ _ => (pgd_name 4 sc_covering.nd)) (fun _ _ _ _ _ => (ptsd_one (ptd_cmp (op_eqD hr.units) ro_eq (pd_ixV 2 ix_seq ro_ix (pr_var 4)) (pr_var 3)))) (fun _ _ _ _ _ => (pd_var 4)))))))))))) math_covering
set_option maxHeartbeats 2000000 in
theorem ok_is_covering (T : Txt K mg A D) : FnOk P w K mg base CX0 5 (A 22) (D 22) ps_is_covering (spD m_is_covering) := by
  exact fn_D (bd := bd_is_covering) T.fun_22 sc_is_covering mlen_is_covering (fun cdv A' outer s H E hr =>
    (pssd_cons (psd_drop (pd_call ((ok_check_row_way T).mono (by decide)) hr T.g_12 T.fun_12.kp (bi_check_row_way T) .nil (fun _ => .nil) (pad_cons (pd_var 0) (pad_cons (pd_var 1) pad_nil))))
    (pssd_cons (psd_if (ptd_w (pwd_or (ptd_not (ptd_val (pd_is1 T.nb_isinstance T.nb_list (pr_var 2)))) (pwd_or1 (ptd_cmp (op_neD hr.units) ro_ne (pd_cb1 call_len_seq rc_len T.nb_len (pr_var 2)) (pd_r (pd_call ((ok_most_there T).mono (by decide)) hr T.g_15 T.fun_15.kp (bi_most_there T) .nil (fun _ => .nil) (pad_cons (pd_var 0) (pad_cons (pd_var 1) pad_nil))))))))
    (pssd_one (psd_ret pd_bl))
    pssd_nil)
    (pssd_cons (psd_if (ptd_not (ptd_val (pd_cb1 (cr_all rfl) rc_all T.nb_all (pd_r (pn_d (pn_lc rfl sc_is_covering.nd (pid_var 2) (blkOk_by (own := [("places", 3)]) (by first | decide +kernel | kernel_rfl)) (fun _ _ _ _ _ => (pgd_name 3 sc_is_covering.nd)) (fun _ _ _ _ _ => ptsd_nil) (fun _ _ _ _ _ => (pd_and (pd_call ((ok_goes T).mono (by decide)) hr T.g_21 T.fun_21.kp (bi_goes T) .nil (fun _ => .nil) (pad_cons (pd_var 0) (pad_cons (pd_op op_sub ro_sub pd_int (pr_var 1)) (pad_cons (pd_var 3) pad_nil)))) (pd_one (pd_cmpV 3 (op_neD hr.units) ro_ne (pd_r (pn_d (pn_lst pad_nil)))))))))))))
    (pssd_one (psd_ret pd_bl))
    pssd_nil)
    (pssd_one (psd_ret (pd_cmp (op_eqD hr.units) ro_eq (pd_cb1 cr_sortedI rc_sortI T.nb_sorted (pd_r (pn_d (pn_lc2 (vs1 := [4]) rfl sc_is_covering.nd (pid_var 2) (blkOk_by (own := [("places", 3), ("at", 4)]) (by first | decide +kernel | kernel_rfl)) (fun _ _ _ _ _ => (pgd_name 3 sc_is_covering.nd)) (fun _ _ _ _ _ => ptsd_nil) (fun _ _ _ _ _ => (pid_var 3)) (fun _ _ _ _ _ => (pgd_name 4 sc_is_covering.nd)) (fun _ _ _ _ _ => ptsd_nil) (fun _ _ _ _ _ => (pd_var 4)))))) (pd_r (pn_d (pn_listRg1 rfl T.nb_range T.nb_list (pd_cb1 call_len_seq rc_len T.nb_len (pr_var 0)))))))))))) math_is_covering
set_option maxHeartbeats 2000000 in
theorem st__law_same {m m' : M1} {k : Nat} (IH : FnOk P w K mg base CX0 k (A 30) (D 30) ps__law_same (spD m)) (T : Txt K mg A D) (ml : ∀ xs Q, m' xs Q → xs.length = ps__law_same.length) (mm : ∀ xs Q, m' xs Q → bd__law_same m { nx := fun _ => Q .none, rt := fun _ d _ => Q d } (startR nm__law_same xs)) : FnOk P w K mg base CX0 (k + 1) (A 30) (D 30) ps__law_same (spD m') := by
  exact fn_D (bd := bd__law_same m) T.fun_30 sc__law_same ml (fun cdv A' outer s H E hr =>
    (pssd_cons (psd_if (ptd_val (pd_isTs T.nb_isinstance (pr_var 1) (.cons (nm_ty T.nb_list) rfl (.cons (nm_ty T.nb_tuple) rfl .nil))))
    (pssd_cons (psd_set 2 sc__law_same.nd (pd_and (pd_cmp (op_eqD hr.units) ro_eq (pd_is1 T.nb_isinstance T.nb_list (pr_var 0)) (pd_r (pd_is1 T.nb_isinstance T.nb_list (pr_var 1)))) (pd_one (pd_cmp (op_eqD hr.units) ro_eq (pd_is1 T.nb_isinstance T.nb_tuple (pr_var 0)) (pd_r (pd_is1 T.nb_isinstance T.nb_tuple (pr_var 1)))))))
    (pssd_one (psd_ret (pd_and (pd_var 2) (pd_and (pd_cmp (op_eqD hr.units) ro_eq (pd_cb1 call_len_seq rc_len T.nb_len (pr_var 0)) (pd_r (pd_cb1 call_len_seq rc_len T.nb_len (pr_var 1)))) (pd_one (pd_cb1 (cr_all rfl) rc_all T.nb_all (pd_r (pn_d (pn_lc rfl sc__law_same.nd (pid_zip T.nb_zip (pd_var 0) (pd_var 1)) (blkOk_by (own := [("one", 3), ("other", 4)]) (by first | decide +kernel | kernel_rfl)) (fun _ _ _ _ _ => (pgd_tup rfl (pgsd_cons (pgd_name 3 sc__law_same.nd) (pgsd_cons (pgd_name 4 sc__law_same.nd) pgsd_nil)) (len_cons any_name (len_cons any_name len_nil)))) (fun _ _ _ _ _ => ptsd_nil) (fun _ _ _ _ _ => (pd_call IH hr T.g_30 T.fun_30.kp (bi__law_same T) .nil (fun _ => .nil) (pad_cons (pd_var 3) (pad_cons (pd_var 4) pad_nil))))))))))))))
    pssd_nil)
    (pssd_cons (psd_set 2 sc__law_same.nd (pd_and (pd_not (pd_isTs T.nb_isinstance (pr_var 0) (.cons (nm_ty T.nb_list) rfl (.cons (nm_ty T.nb_tuple) rfl (.cons (nm_ty T.nb_dict) rfl .nil))))) (pd_and (pd_cmp (op_eqD hr.units) ro_eq (pd_is1 T.nb_isinstance T.nb_int (pr_var 0)) (pd_r (pd_is1 T.nb_isinstance T.nb_int (pr_var 1)))) (pd_one (pd_cmp (op_eqD hr.units) ro_eq (pd_is1 T.nb_isinstance T.nb_str (pr_var 0)) (pd_r (pd_is1 T.nb_isinstance T.nb_str (pr_var 1))))))))
    (pssd_one (psd_ret (pd_and (pd_var 2) (pd_and (pd_cmp (op_eqD hr.units) ro_eq (pd_cmpV 0 op_isN ro_is (pd_r pd_non)) (pd_r (pd_cmpV 1 op_isN ro_is (pd_r pd_non)))) (pd_and (pd_cmp (op_eqD hr.units) ro_eq (pd_is1 T.nb_isinstance T.nb_bool (pr_var 0)) (pd_r (pd_is1 T.nb_isinstance T.nb_bool (pr_var 1)))) (pd_one (pd_cmpV 0 (op_eqD hr.units) ro_eq (pr_var 1))))))))))) mm
theorem ok_same (T : Txt K mg A D) : ∀ n : Nat, FnOk P w K mg base CX0 (n + 1) (A 30) (D 30) ps__law_same (spD (mSame n))
  | 0 => st__law_same ⟨fun _ _ _ _ ⟨_, _, _, _, _, h, _⟩ => h.elim, fun _ _ _ _ _ _ _ _ _ _ _ _ _ ⟨_, _, _, _, _, h, _⟩ => h.elim⟩ T (m := fun _ _ => False) mlen_same math_same0
  | n + 1 => st__law_same (ok_same T n) T mlen_same math_same1
theorem ok__law_same (T : Txt K mg A D) : FnOk P w K mg base CX0 9 (A 30) (D 30) ps__law_same (spD m__law_same) := ok_same T 8
set_option maxHeartbeats 2000000 in
theorem st__law_bend {m m' : MP} {k : Nat} (IH : FnOk P w K mg base CX0 (k + 2) (A 32) (D 32) ps__law_bend (spP m)) (T : Txt K mg A D) (ml : ∀ qs xs Q, m' qs xs Q → xs.length + 1 = ps__law_bend.length) (mm : ∀ qs xs Q, m' qs xs Q → bd__law_bend m { nx := fun ρ => pur0 ρ (Q .none), rt := fun _ d ρ => pur0 ρ (Q d) } (startP nm__law_bend qs xs)) : FnOk P w K mg base CX0 (k + 3) (A 32) (D 32) ps__law_bend (spP m') := by
  exact fn_P (bd := bd__law_bend m) T.fun_32 sc__law_bend ml (fun cdv A' outer s H E hr =>
    (pssd_cons (psd_set 2 sc__law_bend.nd (pd_callP 0 ((ok__law_draw T).mono (by omega)) hr T.g_26 T.fun_26.kp (bi__law_draw T) .nil (fun _ => .nil) (pad_cons pd_int pad_nil)))
    (pssd_cons (psd_if (ptd_w (pwd_and (ptd_val (pd_isTs T.nb_isinstance (pr_var 1) (.cons (nm_ty T.nb_list) rfl (.cons (nm_ty T.nb_tuple) rfl .nil)))) (pwd_and (ptd_cmp op_gt ro_gt (pd_cb1 call_len_seq rc_len T.nb_len (pr_var 1)) (pd_r pd_int)) (pwd_and1 (ptd_cmp op_gt ro_gt (pd_callP 0 ((ok__law_draw T).mono (by omega)) hr T.g_26 T.fun_26.kp (bi__law_draw T) .nil (fun _ => .nil) (pad_cons pd_int pad_nil)) (pd_r pd_int))))))
    (pssd_cons (psd_set 3 sc__law_bend.nd (pd_callP 0 ((ok__law_draw T).mono (by omega)) hr T.g_26 T.fun_26.kp (bi__law_draw T) .nil (fun _ => .nil) (pad_cons (pd_cb1 call_len_seq rc_len T.nb_len (pr_var 1)) pad_nil)))
    (pssd_cons (psd_set 4 sc__law_bend.nd (pd_op op_addA ro_addA (pd_op op_addA ro_addA (pd_ct1 call_list_of rc_list T.nb_list (pd_r (pd_slA 1 pod_none (pod_some (pd_var 3))))) (pd_r (pn_d (pn_lst (pad_cons (pd_callP 0 IH hr T.g_32 T.fun_32.kp (bi__law_bend T) .nil (fun _ => .nil) (pad_cons (pd_ixV 1 ix_seq ro_ix (pr_var 3)) pad_nil)) pad_nil))))) (pd_r (pd_ct1 call_list_of rc_list T.nb_list (pd_r (pd_slA 1 (pod_some (pd_opV 3 op_addA ro_addA (pd_r pd_int))) pod_none))))))
    (pssd_one (psd_ret (pd_if (ptd_val (pd_is1 T.nb_isinstance T.nb_list (pr_var 1))) (pd_var 4) (pd_ct1 call_tuple_of rc_tuple T.nb_tuple (pr_var 4)))))))
    pssd_nil)
    (pssd_cons (psd_if (ptd_val (pd_is1 T.nb_isinstance T.nb_list (pr_var 1)))
    (pssd_one (psd_ret (pd_ix ix_seq ro_ix (pn_d (pn_lst (pad_cons (pd_ct1 call_tuple_of rc_tuple T.nb_tuple (pr_var 1)) (pad_cons (pd_slA 1 (pod_some pd_int) pod_none) (pad_cons (pd_opV 1 op_addA ro_addA (pd_r (pd_slA 1 (pod_some (pd_op op_sub ro_sub pd_int (pd_r pd_int))) pod_none))) (pad_cons (pd_slA 1 pod_none (pod_some (pd_op op_sub ro_sub pd_int (pd_r pd_int)))) pad_nil)))))) (pr_var 2))))
    pssd_nil)
    (pssd_cons (psd_if (ptd_val (pd_is1 T.nb_isinstance T.nb_tuple (pr_var 1)))
    (pssd_one (psd_ret (pd_ix ix_seq ro_ix (pn_d (pn_lst (pad_cons (pd_ct1 call_list_of rc_list T.nb_list (pr_var 1)) (pad_cons (pd_slA 1 pod_none (pod_some (pd_op op_sub ro_sub pd_int (pd_r pd_int)))) (pad_cons (pd_opV 1 op_addA ro_addA (pd_r (pd_slA 1 (pod_some (pd_op op_sub ro_sub pd_int (pd_r pd_int))) pod_none))) (pad_cons pd_non pad_nil)))))) (pr_var 2))))
    pssd_nil)
    (pssd_cons (psd_if (ptd_val (pd_is1 T.nb_isinstance T.nb_bool (pr_var 1)))
    (pssd_one (psd_ret (pd_ix ix_seq ro_ix (pn_d (pn_lst (pad_cons (pd_not (pd_var 1)) (pad_cons (pd_ct1 call_int1 rc_int T.nb_int (pr_var 1)) (pad_cons pd_non (pad_cons (pd_not (pd_var 1)) pad_nil)))))) (pr_var 2))))
    pssd_nil)
    (pssd_cons (psd_if (ptd_val (pd_is1 T.nb_isinstance T.nb_int (pr_var 1)))
    (pssd_one (psd_ret (pd_ix ix_seq ro_ix (pn_d (pn_lst (pad_cons (pd_opV 1 op_addA ro_addA (pd_r pd_int)) (pad_cons (pd_opV 1 op_sub ro_sub (pd_r pd_int)) (pad_cons (pd_opV 1 op_addA ro_addA (pd_r pd_int)) (pad_cons (pd_cmpV 1 (op_eqD hr.units) ro_eq (pd_r pd_int)) pad_nil)))))) (pr_var 2))))
    pssd_nil)
    (pssd_one (psd_ret (pd_if (ptd_val (pd_is1 T.nb_isinstance T.nb_str (pr_var 1))) (pd_ix ix_seq ro_ix (pn_d (pn_lst (pad_cons (pd_opV 1 op_addA ro_addA (pd_r pd_str)) (pad_cons pd_non (pad_cons pd_str (pad_cons pd_int pad_nil)))))) (pr_var 2)) (pd_ix ix_seq ro_ix (pn_d (pn_lst (pad_cons pd_int (pad_cons (pd_tup pad_nil) (pad_cons (pn_d (pn_lst pad_nil)) (pad_cons pd_bl pad_nil)))))) (pr_var 2)))))))))))) mm
theorem ok_bend (T : Txt K mg A D) : ∀ n : Nat, FnOk P w K mg base CX0 (n + 3) (A 32) (D 32) ps__law_bend (spP (mBend n))
  | 0 => st__law_bend (k := 0) (m := fun _ _ _ => False) ⟨fun _ _ _ _ ⟨_, _, _, _, _, _, _, _, _, _, _, _, _, h, _⟩ => h.elim, fun _ _ _ _ _ _ _ _ _ _ _ _ _ ⟨_, _, _, _, _, _, _, _, _, _, _, _, _, h, _⟩ => h.elim⟩ T mlen_bend math_bend0
  | n + 1 => st__law_bend (k := n + 1) (ok_bend T n) T mlen_bend math_bend1
theorem ok__law_bend (T : Txt K mg A D) : FnOk P w K mg base CX0 11 (A 32) (D 32) ps__law_bend (spP m__law_bend) := (ok_bend T 5).mono (by decide)
set_option maxHeartbeats 2000000 in
theorem ok__law_is_right (T : Txt K mg A D) : FnG P w K mg base 12 (A 39) (D 39) ps__law_is_right (spP m__law_is_right) := by
  exact fnG_P (bd := bd__law_is_right) T.fun_39 sc__law_is_right mlen__law_is_right (fun cdv A' outer s H E hg hr =>
    (pssd_cons (psd_par3 3 4 5 rfl sc__law_is_right.nd (pd_call ((ok__law_levels T).mono (by decide)) hr T.g_34 T.fun_34.kp (bi__law_levels T) .nil (fun _ => .nil) (pad_cons (pd_var 1) (pad_cons (pd_var 2) pad_nil))) (pd_call ((ok__law_first T).mono (by decide)) hr T.g_36 T.fun_36.kp (bi__law_first T) .nil (fun _ => .nil) (pad_cons (pd_var 1) (pad_cons (pd_var 2) pad_nil))) (pd_cb1 (call_reprD hg (u65 hr)) rc_reprT T.nb_repr (pr_var 1)))
    (pssd_cons (psd_set 6 sc__law_is_right.nd (pd_cb1 call_len_seq rc_len T.nb_len (pr_var 4)))
    (pssd_cons (psd_set 7 sc__law_is_right.nd (pn_d (pn_lst (pad_cons (pd_call ((ok_most_places T).mono (by decide)) hr T.g_16 T.fun_16.kp (bi_most_places T) .nil (fun _ => .nil) (pad_cons (pd_var 1) (pad_cons (pd_var 2) pad_nil))) (pad_cons (pd_callK (n := 1) (ix := [0, 1]) ((ok_levels_of T).mono (by decide)) hr T.g_17 T.fun_17.kp (kb_levels_of_1_way T) (pad_cons (pd_var 1) pad_nil) (pkd_cons (pd_var 2) pkd_nil)) (pad_cons (pd_call ((ok_first_longest T).mono (by decide)) hr T.g_19 T.fun_19.kp (bi_first_longest T) .nil (fun _ => .nil) (pad_cons (pd_var 1) (pad_cons (pd_var 2) pad_nil))) pad_nil))))))
    (pssd_cons (psd_if (ptd_w (pwd_or (ptd_not (ptd_val (pd_call ((ok__law_same T).mono (by decide)) hr T.g_30 T.fun_30.kp (bi__law_same T) .nil (fun _ => .nil) (pad_cons (pd_var 7) (pad_cons (pn_d (pn_lst (pad_cons (pd_var 6) (pad_cons (pd_var 3) (pad_cons (pd_var 4) pad_nil))))) pad_nil))))) (pwd_or1 (ptd_cmpV 6 (op_neD hr.units) ro_ne (pd_r (pd_cb1 (cr_max rfl) rc_max1 T.nb_max (pd_r (pd_op op_addU ro_add (pn_d (pn_lst (pad_cons pd_int pad_nil))) (pr_var 3)))))))))
    (pssd_one (psd_ret pd_bl))
    pssd_nil)
    (pssd_cons (psd_setLc 8 rfl sc__law_is_right.nd (pid_var 1) (blkOk_by (own := [("number", 13)]) (by first | decide +kernel | kernel_rfl)) (fun _ _ _ _ _ => (pgd_name 13 sc__law_is_right.nd)) (fun _ _ _ _ _ => ptsd_nil) (fun _ _ _ _ _ => (pd_op op_sub ro_sub pd_int (pr_var 13))))
    (pssd_cons (psd_if (ptd_not (ptd_val (pd_call ((ok__law_same T).mono (by decide)) hr T.g_30 T.fun_30.kp (bi__law_same T) .nil (fun _ => .nil) (pad_cons (pn_d (pn_lst (pad_cons (pd_call ((ok_levels_of T).mono (by decide)) hr T.g_17 T.fun_17.kp (bi_levels_of T) .nil (fun _ => .nil) (pad_cons (pd_var 8) (pad_cons (pd_op op_sub ro_sub pd_int (pr_var 2)) pad_nil))) (pad_cons (pd_call ((ok_most_places T).mono (by decide)) hr T.g_16 T.fun_16.kp (bi_most_places T) .nil (fun _ => .nil) (pad_cons (pn_d (pn_revV 1 po_m1)) (pad_cons (pd_op op_sub ro_sub pd_int (pr_var 2)) pad_nil))) pad_nil)))) (pad_cons (pn_d (pn_lst (pad_cons (pd_var 3) (pad_cons (pd_var 6) pad_nil)))) pad_nil)))))
    (pssd_one (psd_ret pd_bl))
    pssd_nil)
    (pssd_cons (psd_unp (pd_tup (pad_cons (pd_call ((ok_covering T).mono (by decide)) hr T.g_20 T.fun_20.kp (bi_covering T) .nil (fun _ => .nil) (pad_cons (pd_var 1) (pad_cons (pd_var 2) pad_nil))) (pad_cons (pd_callP 0 ((ok__law_own_covering T).mono (by decide)) hr T.g_38 T.fun_38.kp (bi__law_own_covering T) .nil (fun _ => .nil) (pad_cons (pd_var 1) (pad_cons (pd_var 2) pad_nil))) pad_nil))) (pgd_tup rfl (pgsd_cons (pgd_name 9 sc__law_is_right.nd) (pgsd_cons (pgd_name 10 sc__law_is_right.nd) pgsd_nil)) (len_cons any_name (len_cons any_name len_nil))))
    (pssd_cons (psd_if (ptd_w (pwd_or (ptd_not (ptd_val (pd_call ((ok__law_is_covering T).mono (by decide)) hr T.g_37 T.fun_37.kp (bi__law_is_covering T) .nil (fun _ => .nil) (pad_cons (pd_var 1) (pad_cons (pd_var 2) (pad_cons (pd_var 6) (pad_cons (pd_var 9) pad_nil))))))) (pwd_or1 (ptd_not (ptd_val (pd_call ((ok__law_is_covering T).mono (by decide)) hr T.g_37 T.fun_37.kp (bi__law_is_covering T) .nil (fun _ => .nil) (pad_cons (pd_var 1) (pad_cons (pd_var 2) (pad_cons (pd_var 6) (pad_cons (pd_var 10) pad_nil))))))))))
    (pssd_one (psd_ret pd_bl))
    pssd_nil)
    (pssd_cons (psd_set 11 sc__law_is_right.nd (pd_op op_addU ro_add (pn_d (pn_lst (pad_cons (pd_var 9) (pad_cons (pd_var 10) (pad_cons (pn_d (pn_revV 10 po_m1)) (pad_cons (pn_d (pn_lc rfl sc__law_is_right.nd (pid_range1 T.nb_range (pd_cb1 call_len_seq rc_len T.nb_len (pr_var 1))) (blkOk_by (own := [("at", 15)]) (by first | decide +kernel | kernel_rfl)) (fun _ _ _ _ _ => (pgd_name 15 sc__law_is_right.nd)) (fun _ _ _ _ _ => ptsd_nil) (fun _ _ _ _ _ => (pn_d (pn_lst (pad_cons (pd_var 15) pad_nil)))))) (pad_cons (pn_d (pn_lst (pad_cons (pn_d (pn_listRg1 rfl T.nb_range T.nb_list (pd_cb1 call_len_seq rc_len T.nb_len (pr_var 1)))) pad_nil))) (pad_cons (pn_d (pn_lst pad_nil)) (pad_cons pd_non pad_nil))))))))) (pd_r (pn_d (pn_lc rfl sc__law_is_right.nd (pid_range1 T.nb_range pd_int) (blkOk_by (own := [("spin", 14)]) (by first | decide +kernel | kernel_rfl)) (fun _ _ _ _ _ => (pgd_name 14 sc__law_is_right.nd)) (fun _ _ _ _ _ => ptsd_nil) (fun _ _ _ _ _ => (pd_callP 0 ((ok__law_bend T).mono (by decide)) hr T.g_32 T.fun_32.kp (bi__law_bend T) .nil (fun _ => .nil) (pad_cons (pd_var 10) pad_nil))))))))
    (pssd_cons (psd_for PassesOwn.never rfl (pid_var 11) (pgd_name 12 sc__law_is_right.nd)
    (pssd_one (psd_if (ptd_not (ptd_val (pd_call ((ok__law_same T).mono (by decide)) hr T.g_30 T.fun_30.kp (bi__law_same T) .nil (fun _ => .nil) (pad_cons (pd_callK (n := 2) (ix := [0, 1, 2]) ((ok_is_covering T).mono (by decide)) hr T.g_22 T.fun_22.kp (kb_is_covering_2_value T) (pad_cons (pd_var 1) (pad_cons (pd_var 2) pad_nil)) (pkd_cons (pd_var 12) pkd_nil)) (pad_cons (pd_call ((ok__law_is_covering T).mono (by decide)) hr T.g_37 T.fun_37.kp (bi__law_is_covering T) .nil (fun _ => .nil) (pad_cons (pd_var 1) (pad_cons (pd_var 2) (pad_cons (pd_var 6) (pad_cons (pd_var 12) pad_nil))))) pad_nil)))))
    (pssd_one (psd_ret pd_bl))
    pssd_nil)))
    (pssd_one (psd_ret (pd_and (pd_cmp op_ge ro_ge (pd_opV 6 op_mulU ro_mul (pd_r (pd_call ((ok_most_places T).mono (by decide)) hr T.g_16 T.fun_16.kp (bi_most_places T) .nil (fun _ => .nil) (pad_cons (pd_var 1) (pad_cons (pd_op op_sub ro_sub pd_int (pr_var 2)) pad_nil))))) (pd_r (pd_cb1 call_len_seq rc_len T.nb_len (pr_var 1)))) (pd_one (pd_cmp (op_eqD hr.units) ro_eq (pd_cb1 (call_reprD hg (u65 hr)) rc_reprT T.nb_repr (pr_var 1)) (pr_var 5))))))))))))))))) math__law_is_right
set_option maxHeartbeats 2000000 in
theorem ok_law (T : Txt K mg A D) : FnG P w K mg base 13 (A 40) (D 40) ps_law (spL K 63) := by
  exact law_D (de := sd_law K) (db := bd_law K) T.fun_40 sc_law rfl (fun cdv A' outer s H E hg hr =>
    (pss_law 1 4 PassesOwn.never rfl sc_law.nd (pd_callS 0 ((ok__law_purses T).mono (by decide)) hr T.g_28 T.fun_28.kp (bi__law_purses T) .nil (fun _ => .nil) (pad_cons pd_int pad_nil))
    (pssd_cons (psd_set 2 sc_law.nd (pd_callP 1 ((ok__law_row T).mono (by decide)) hr T.g_33 T.fun_33.kp (bi__law_row T) .nil (fun _ => .nil) (pad_cons pd_int pad_nil)))
    (pssd_one (psd_for PassesOwn.never rfl (pid_list (pn_d (pn_lst (pad_cons pd_int (pad_cons (pd_op op_sub ro_sub pd_int (pd_r pd_int)) pad_nil))))) (pgd_name 3 sc_law.nd)
    (pssd_one (psd_if (ptd_not (ptd_val (pd_callPG 1 ((ok__law_is_right T).mono (by decide)) hg hr T.g_39 T.fun_39.kp (bi__law_is_right T) .nil (fun _ => .nil) (pad_cons (pd_var 2) (pad_cons (pd_var 3) pad_nil)))))
    (pssd_one (psd_ret pd_bl))
    pssd_nil))))))) math_law
end
end K22

set_option Elab.async false
set_option linter.all false
set_option maxRecDepth 100000
set_option maxHeartbeats 1000000
namespace K22
open PySem L2 Evl PyProof.Rows RZ DL
section
theorem mk0 {K : PySem.W.Frag} {x qual : Str} {params : Arguments} {body : List Stmt} {scope : Scope} {f : Addr} {oc : Value} {od an : Option Addr} {osl : Array (Option Value)} {kV doc pm cdv ct : Value} (l : K.lookup f = some ⟨oc, od, .func (PySem.W.fnOf x qual params body scope .none kV doc pm an cdv ct), osl⟩) (c : PySem.W.codeIn K cdv qual = true) (k : PySem.W.keepIn K (.ref f) = true) :
    FunD K x qual params body scope [] [] f (PySem.W.fnOf x qual params body scope .none kV doc pm an cdv ct) := ⟨⟨oc, od, .none, kV, doc, pm, an, cdv, ct, osl, rfl, l, c, .inl ⟨rfl, rfl⟩, .inl rfl⟩, k⟩
theorem mkD {K : PySem.W.Frag} {x qual : Str} {params : Arguments} {body : List Stmt} {scope : Scope} {f T : Addr} {oc : Value} {od an : Option Addr} {osl : Array (Option Value)} {kV doc pm cdv ct : Value} {ob : Obj} {n : Nat} {v : V} {vs : List V} {its : List Value} (l : K.lookup f = some ⟨oc, od, .func (PySem.W.fnOf x qual params body scope (.ref T) kV doc pm an cdv ct), osl⟩) (c : PySem.W.codeIn K cdv qual = true) (k : PySem.W.keepIn K (.ref f) = true)
    (t : K.lookup T = some ob) (s : ob.data = .seq its.toArray n) (r : Vals (v :: vs) its) : FunD K x qual params body scope (v :: vs) [] f (PySem.W.fnOf x qual params body scope (.ref T) kV doc pm an cdv ct) :=
  ⟨⟨oc, od, .ref T, kV, doc, pm, an, cdv, ct, osl, rfl, l, c, .inr ⟨fun z => (nomatch z), T, ob, its, n, rfl, t, s, r⟩, .inl rfl⟩, k⟩
theorem mk_any {K : PySem.W.Frag} {x qual : Str} {params : Arguments} {body : List Stmt} {scope : Scope} {dvs : List V} {kws : List (Str × V)} {f g : Addr} {fd : FuncData} (h : FunD K x qual params body scope dvs kws f fd) : ∃ fd, FunD K x qual params body scope dvs kws f fd := ⟨fd, h⟩
theorem all_mk {l : PySem.W.OpenLaw} {w : World} {K : PySem.W.Frag} {h : Heap} {mg : Str → Option Value} {fa : Addr} (X : K.In h) (G : h.Ns mainGlobals mg) (hfa : mg "law" = some (.ref fa))
    {f1 : Addr} {od1 an1 : Option Addr} {sl1 : Array (Option Value)} {oc1 kV1 dc1 pm1 cd1 ct1 : Value}
    {f2 : Addr} {od2 an2 : Option Addr} {sl2 : Array (Option Value)} {oc2 kV2 dc2 pm2 cd2 ct2 : Value}
    {T2 : Addr} {ob2 : Obj} {n2 : Nat} {its2 : List Value}
    {f9 : Addr} {od9 an9 : Option Addr} {sl9 : Array (Option Value)} {oc9 kV9 dc9 pm9 cd9 ct9 : Value}
    {f10 : Addr} {od10 an10 : Option Addr} {sl10 : Array (Option Value)} {oc10 kV10 dc10 pm10 cd10 ct10 : Value}
    {f11 : Addr} {od11 an11 : Option Addr} {sl11 : Array (Option Value)} {oc11 kV11 dc11 pm11 cd11 ct11 : Value}
    {f12 : Addr} {od12 an12 : Option Addr} {sl12 : Array (Option Value)} {oc12 kV12 dc12 pm12 cd12 ct12 : Value}
    {f13 : Addr} {od13 an13 : Option Addr} {sl13 : Array (Option Value)} {oc13 kV13 dc13 pm13 cd13 ct13 : Value}
    {f14 : Addr} {od14 an14 : Option Addr} {sl14 : Array (Option Value)} {oc14 kV14 dc14 pm14 cd14 ct14 : Value}
    {f15 : Addr} {od15 an15 : Option Addr} {sl15 : Array (Option Value)} {oc15 kV15 dc15 pm15 cd15 ct15 : Value}
    {f16 : Addr} {od16 an16 : Option Addr} {sl16 : Array (Option Value)} {oc16 kV16 dc16 pm16 cd16 ct16 : Value}
    {f17 : Addr} {od17 an17 : Option Addr} {sl17 : Array (Option Value)} {oc17 kV17 dc17 pm17 cd17 ct17 : Value}
    {f18 : Addr} {od18 an18 : Option Addr} {sl18 : Array (Option Value)} {oc18 kV18 dc18 pm18 cd18 ct18 : Value}
    {f19 : Addr} {od19 an19 : Option Addr} {sl19 : Array (Option Value)} {oc19 kV19 dc19 pm19 cd19 ct19 : Value}
    {f20 : Addr} {od20 an20 : Option Addr} {sl20 : Array (Option Value)} {oc20 kV20 dc20 pm20 cd20 ct20 : Value}
    {f21 : Addr} {od21 an21 : Option Addr} {sl21 : Array (Option Value)} {oc21 kV21 dc21 pm21 cd21 ct21 : Value}
    {f22 : Addr} {od22 an22 : Option Addr} {sl22 : Array (Option Value)} {oc22 kV22 dc22 pm22 cd22 ct22 : Value}
    {f24 : Addr} {od24 an24 : Option Addr} {sl24 : Array (Option Value)} {oc24 kV24 dc24 pm24 cd24 ct24 : Value}
    {f25 : Addr} {od25 an25 : Option Addr} {sl25 : Array (Option Value)} {oc25 kV25 dc25 pm25 cd25 ct25 : Value}
    {f26 : Addr} {od26 an26 : Option Addr} {sl26 : Array (Option Value)} {oc26 kV26 dc26 pm26 cd26 ct26 : Value}
    {f27 : Addr} {od27 an27 : Option Addr} {sl27 : Array (Option Value)} {oc27 kV27 dc27 pm27 cd27 ct27 : Value}
    {f28 : Addr} {od28 an28 : Option Addr} {sl28 : Array (Option Value)} {oc28 kV28 dc28 pm28 cd28 ct28 : Value}
    {f29 : Addr} {od29 an29 : Option Addr} {sl29 : Array (Option Value)} {oc29 kV29 dc29 pm29 cd29 ct29 : Value}
    {f30 : Addr} {od30 an30 : Option Addr} {sl30 : Array (Option Value)} {oc30 kV30 dc30 pm30 cd30 ct30 : Value}
    {f32 : Addr} {od32 an32 : Option Addr} {sl32 : Array (Option Value)} {oc32 kV32 dc32 pm32 cd32 ct32 : Value}
    {f33 : Addr} {od33 an33 : Option Addr} {sl33 : Array (Option Value)} {oc33 kV33 dc33 pm33 cd33 ct33 : Value}
    {f34 : Addr} {od34 an34 : Option Addr} {sl34 : Array (Option Value)} {oc34 kV34 dc34 pm34 cd34 ct34 : Value}
    {f35 : Addr} {od35 an35 : Option Addr} {sl35 : Array (Option Value)} {oc35 kV35 dc35 pm35 cd35 ct35 : Value}
    {f36 : Addr} {od36 an36 : Option Addr} {sl36 : Array (Option Value)} {oc36 kV36 dc36 pm36 cd36 ct36 : Value}
    {f37 : Addr} {od37 an37 : Option Addr} {sl37 : Array (Option Value)} {oc37 kV37 dc37 pm37 cd37 ct37 : Value}
    {f38 : Addr} {od38 an38 : Option Addr} {sl38 : Array (Option Value)} {oc38 kV38 dc38 pm38 cd38 ct38 : Value}
    {f39 : Addr} {od39 an39 : Option Addr} {sl39 : Array (Option Value)} {oc39 kV39 dc39 pm39 cd39 ct39 : Value}
    {f40 : Addr} {od40 an40 : Option Addr} {sl40 : Array (Option Value)} {oc40 kV40 dc40 pm40 cd40 ct40 : Value}
    (a1 : PySem.W.nsIn K mainGlobals "is_whole" = some (some (.ref f1))) (l1 : K.lookup f1 = some ⟨oc1, od1, .func (PySem.W.fnOf "is_whole" "is_whole" (defArgs s_is_whole) (defBody s_is_whole) (defScope s_is_whole) .none kV1 dc1 pm1 an1 cd1 ct1), sl1⟩) (c1 : PySem.W.codeIn K cd1 "is_whole" = true) (k1 : PySem.W.keepIn K (.ref f1) = true)
    (a2 : PySem.W.nsIn K mainGlobals "is_count" = some (some (.ref f2))) (l2 : K.lookup f2 = some ⟨oc2, od2, .func (PySem.W.fnOf "is_count" "is_count" (defArgs s_is_count) (defBody s_is_count) (defScope s_is_count) (.ref T2) kV2 dc2 pm2 an2 cd2 ct2), sl2⟩) (c2 : PySem.W.codeIn K cd2 "is_count" = true) (k2 : PySem.W.keepIn K (.ref f2) = true)
    (t2 : K.lookup T2 = some ob2) (s2 : ob2.data = .seq its2.toArray n2) (r2 : Vals [V.int 0] its2)
    (a9 : PySem.W.nsIn K mainGlobals "is_row" = some (some (.ref f9))) (l9 : K.lookup f9 = some ⟨oc9, od9, .func (PySem.W.fnOf "is_row" "is_row" (defArgs s_is_row) (defBody s_is_row) (defScope s_is_row) .none kV9 dc9 pm9 an9 cd9 ct9), sl9⟩) (c9 : PySem.W.codeIn K cd9 "is_row" = true) (k9 : PySem.W.keepIn K (.ref f9) = true)
    (a10 : PySem.W.nsIn K mainGlobals "check_row" = some (some (.ref f10))) (l10 : K.lookup f10 = some ⟨oc10, od10, .func (PySem.W.fnOf "check_row" "check_row" (defArgs s_check_row) (defBody s_check_row) (defScope s_check_row) .none kV10 dc10 pm10 an10 cd10 ct10), sl10⟩) (c10 : PySem.W.codeIn K cd10 "check_row" = true) (k10 : PySem.W.keepIn K (.ref f10) = true)
    (a11 : PySem.W.nsIn K mainGlobals "check_way" = some (some (.ref f11))) (l11 : K.lookup f11 = some ⟨oc11, od11, .func (PySem.W.fnOf "check_way" "check_way" (defArgs s_check_way) (defBody s_check_way) (defScope s_check_way) .none kV11 dc11 pm11 an11 cd11 ct11), sl11⟩) (c11 : PySem.W.codeIn K cd11 "check_way" = true) (k11 : PySem.W.keepIn K (.ref f11) = true)
    (a12 : PySem.W.nsIn K mainGlobals "check_row_way" = some (some (.ref f12))) (l12 : K.lookup f12 = some ⟨oc12, od12, .func (PySem.W.fnOf "check_row_way" "check_row_way" (defArgs s_check_row_way) (defBody s_check_row_way) (defScope s_check_row_way) .none kV12 dc12 pm12 an12 cd12 ct12), sl12⟩) (c12 : PySem.W.codeIn K cd12 "check_row_way" = true) (k12 : PySem.W.keepIn K (.ref f12) = true)
    (a13 : PySem.W.nsIn K mainGlobals "goes_on" = some (some (.ref f13))) (l13 : K.lookup f13 = some ⟨oc13, od13, .func (PySem.W.fnOf "goes_on" "goes_on" (defArgs s_goes_on) (defBody s_goes_on) (defScope s_goes_on) .none kV13 dc13 pm13 an13 cd13 ct13), sl13⟩) (c13 : PySem.W.codeIn K cd13 "goes_on" = true) (k13 : PySem.W.keepIn K (.ref f13) = true)
    (a14 : PySem.W.nsIn K mainGlobals "levels_there" = some (some (.ref f14))) (l14 : K.lookup f14 = some ⟨oc14, od14, .func (PySem.W.fnOf "levels_there" "levels_there" (defArgs s_levels_there) (defBody s_levels_there) (defScope s_levels_there) .none kV14 dc14 pm14 an14 cd14 ct14), sl14⟩) (c14 : PySem.W.codeIn K cd14 "levels_there" = true) (k14 : PySem.W.keepIn K (.ref f14) = true)
    (a15 : PySem.W.nsIn K mainGlobals "most_there" = some (some (.ref f15))) (l15 : K.lookup f15 = some ⟨oc15, od15, .func (PySem.W.fnOf "most_there" "most_there" (defArgs s_most_there) (defBody s_most_there) (defScope s_most_there) .none kV15 dc15 pm15 an15 cd15 ct15), sl15⟩) (c15 : PySem.W.codeIn K cd15 "most_there" = true) (k15 : PySem.W.keepIn K (.ref f15) = true)
    (a16 : PySem.W.nsIn K mainGlobals "most_places" = some (some (.ref f16))) (l16 : K.lookup f16 = some ⟨oc16, od16, .func (PySem.W.fnOf "most_places" "most_places" (defArgs s_most_places) (defBody s_most_places) (defScope s_most_places) .none kV16 dc16 pm16 an16 cd16 ct16), sl16⟩) (c16 : PySem.W.codeIn K cd16 "most_places" = true) (k16 : PySem.W.keepIn K (.ref f16) = true)
    (a17 : PySem.W.nsIn K mainGlobals "levels_of" = some (some (.ref f17))) (l17 : K.lookup f17 = some ⟨oc17, od17, .func (PySem.W.fnOf "levels_of" "levels_of" (defArgs s_levels_of) (defBody s_levels_of) (defScope s_levels_of) .none kV17 dc17 pm17 an17 cd17 ct17), sl17⟩) (c17 : PySem.W.codeIn K cd17 "levels_of" = true) (k17 : PySem.W.keepIn K (.ref f17) = true)
    (a18 : PySem.W.nsIn K mainGlobals "tails_there" = some (some (.ref f18))) (l18 : K.lookup f18 = some ⟨oc18, od18, .func (PySem.W.fnOf "tails_there" "tails_there" (defArgs s_tails_there) (defBody s_tails_there) (defScope s_tails_there) .none kV18 dc18 pm18 an18 cd18 ct18), sl18⟩) (c18 : PySem.W.codeIn K cd18 "tails_there" = true) (k18 : PySem.W.keepIn K (.ref f18) = true)
    (a19 : PySem.W.nsIn K mainGlobals "first_longest" = some (some (.ref f19))) (l19 : K.lookup f19 = some ⟨oc19, od19, .func (PySem.W.fnOf "first_longest" "first_longest" (defArgs s_first_longest) (defBody s_first_longest) (defScope s_first_longest) .none kV19 dc19 pm19 an19 cd19 ct19), sl19⟩) (c19 : PySem.W.codeIn K cd19 "first_longest" = true) (k19 : PySem.W.keepIn K (.ref f19) = true)
    (a20 : PySem.W.nsIn K mainGlobals "covering" = some (some (.ref f20))) (l20 : K.lookup f20 = some ⟨oc20, od20, .func (PySem.W.fnOf "covering" "covering" (defArgs s_covering) (defBody s_covering) (defScope s_covering) .none kV20 dc20 pm20 an20 cd20 ct20), sl20⟩) (c20 : PySem.W.codeIn K cd20 "covering" = true) (k20 : PySem.W.keepIn K (.ref f20) = true)
    (a21 : PySem.W.nsIn K mainGlobals "goes" = some (some (.ref f21))) (l21 : K.lookup f21 = some ⟨oc21, od21, .func (PySem.W.fnOf "goes" "goes" (defArgs s_goes) (defBody s_goes) (defScope s_goes) .none kV21 dc21 pm21 an21 cd21 ct21), sl21⟩) (c21 : PySem.W.codeIn K cd21 "goes" = true) (k21 : PySem.W.keepIn K (.ref f21) = true)
    (a22 : PySem.W.nsIn K mainGlobals "is_covering" = some (some (.ref f22))) (l22 : K.lookup f22 = some ⟨oc22, od22, .func (PySem.W.fnOf "is_covering" "is_covering" (defArgs s_is_covering) (defBody s_is_covering) (defScope s_is_covering) .none kV22 dc22 pm22 an22 cd22 ct22), sl22⟩) (c22 : PySem.W.codeIn K cd22 "is_covering" = true) (k22 : PySem.W.keepIn K (.ref f22) = true)
    (a24 : PySem.W.nsIn K mainGlobals "_law_purse" = some (some (.ref f24))) (l24 : K.lookup f24 = some ⟨oc24, od24, .func (PySem.W.fnOf "_law_purse" "_law_purse" (defArgs s__law_purse) (defBody s__law_purse) (defScope s__law_purse) .none kV24 dc24 pm24 an24 cd24 ct24), sl24⟩) (c24 : PySem.W.codeIn K cd24 "_law_purse" = true) (k24 : PySem.W.keepIn K (.ref f24) = true)
    (a25 : PySem.W.nsIn K mainGlobals "_law_mixed" = some (some (.ref f25))) (l25 : K.lookup f25 = some ⟨oc25, od25, .func (PySem.W.fnOf "_law_mixed" "_law_mixed" (defArgs s__law_mixed) (defBody s__law_mixed) (defScope s__law_mixed) .none kV25 dc25 pm25 an25 cd25 ct25), sl25⟩) (c25 : PySem.W.codeIn K cd25 "_law_mixed" = true) (k25 : PySem.W.keepIn K (.ref f25) = true)
    (a26 : PySem.W.nsIn K mainGlobals "_law_draw" = some (some (.ref f26))) (l26 : K.lookup f26 = some ⟨oc26, od26, .func (PySem.W.fnOf "_law_draw" "_law_draw" (defArgs s__law_draw) (defBody s__law_draw) (defScope s__law_draw) .none kV26 dc26 pm26 an26 cd26 ct26), sl26⟩) (c26 : PySem.W.codeIn K cd26 "_law_draw" = true) (k26 : PySem.W.keepIn K (.ref f26) = true)
    (a27 : PySem.W.nsIn K mainGlobals "_law_one_of" = some (some (.ref f27))) (l27 : K.lookup f27 = some ⟨oc27, od27, .func (PySem.W.fnOf "_law_one_of" "_law_one_of" (defArgs s__law_one_of) (defBody s__law_one_of) (defScope s__law_one_of) .none kV27 dc27 pm27 an27 cd27 ct27), sl27⟩) (c27 : PySem.W.codeIn K cd27 "_law_one_of" = true) (k27 : PySem.W.keepIn K (.ref f27) = true)
    (a28 : PySem.W.nsIn K mainGlobals "_law_purses" = some (some (.ref f28))) (l28 : K.lookup f28 = some ⟨oc28, od28, .func (PySem.W.fnOf "_law_purses" "_law_purses" (defArgs s__law_purses) (defBody s__law_purses) (defScope s__law_purses) .none kV28 dc28 pm28 an28 cd28 ct28), sl28⟩) (c28 : PySem.W.codeIn K cd28 "_law_purses" = true) (k28 : PySem.W.keepIn K (.ref f28) = true)
    (a29 : PySem.W.nsIn K mainGlobals "_law_shuffled" = some (some (.ref f29))) (l29 : K.lookup f29 = some ⟨oc29, od29, .func (PySem.W.fnOf "_law_shuffled" "_law_shuffled" (defArgs s__law_shuffled) (defBody s__law_shuffled) (defScope s__law_shuffled) .none kV29 dc29 pm29 an29 cd29 ct29), sl29⟩) (c29 : PySem.W.codeIn K cd29 "_law_shuffled" = true) (k29 : PySem.W.keepIn K (.ref f29) = true)
    (a30 : PySem.W.nsIn K mainGlobals "_law_same" = some (some (.ref f30))) (l30 : K.lookup f30 = some ⟨oc30, od30, .func (PySem.W.fnOf "_law_same" "_law_same" (defArgs s__law_same) (defBody s__law_same) (defScope s__law_same) .none kV30 dc30 pm30 an30 cd30 ct30), sl30⟩) (c30 : PySem.W.codeIn K cd30 "_law_same" = true) (k30 : PySem.W.keepIn K (.ref f30) = true)
    (a32 : PySem.W.nsIn K mainGlobals "_law_bend" = some (some (.ref f32))) (l32 : K.lookup f32 = some ⟨oc32, od32, .func (PySem.W.fnOf "_law_bend" "_law_bend" (defArgs s__law_bend) (defBody s__law_bend) (defScope s__law_bend) .none kV32 dc32 pm32 an32 cd32 ct32), sl32⟩) (c32 : PySem.W.codeIn K cd32 "_law_bend" = true) (k32 : PySem.W.keepIn K (.ref f32) = true)
    (a33 : PySem.W.nsIn K mainGlobals "_law_row" = some (some (.ref f33))) (l33 : K.lookup f33 = some ⟨oc33, od33, .func (PySem.W.fnOf "_law_row" "_law_row" (defArgs s__law_row) (defBody s__law_row) (defScope s__law_row) .none kV33 dc33 pm33 an33 cd33 ct33), sl33⟩) (c33 : PySem.W.codeIn K cd33 "_law_row" = true) (k33 : PySem.W.keepIn K (.ref f33) = true)
    (a34 : PySem.W.nsIn K mainGlobals "_law_levels" = some (some (.ref f34))) (l34 : K.lookup f34 = some ⟨oc34, od34, .func (PySem.W.fnOf "_law_levels" "_law_levels" (defArgs s__law_levels) (defBody s__law_levels) (defScope s__law_levels) .none kV34 dc34 pm34 an34 cd34 ct34), sl34⟩) (c34 : PySem.W.codeIn K cd34 "_law_levels" = true) (k34 : PySem.W.keepIn K (.ref f34) = true)
    (a35 : PySem.W.nsIn K mainGlobals "_law_goes_on" = some (some (.ref f35))) (l35 : K.lookup f35 = some ⟨oc35, od35, .func (PySem.W.fnOf "_law_goes_on" "_law_goes_on" (defArgs s__law_goes_on) (defBody s__law_goes_on) (defScope s__law_goes_on) .none kV35 dc35 pm35 an35 cd35 ct35), sl35⟩) (c35 : PySem.W.codeIn K cd35 "_law_goes_on" = true) (k35 : PySem.W.keepIn K (.ref f35) = true)
    (a36 : PySem.W.nsIn K mainGlobals "_law_first" = some (some (.ref f36))) (l36 : K.lookup f36 = some ⟨oc36, od36, .func (PySem.W.fnOf "_law_first" "_law_first" (defArgs s__law_first) (defBody s__law_first) (defScope s__law_first) .none kV36 dc36 pm36 an36 cd36 ct36), sl36⟩) (c36 : PySem.W.codeIn K cd36 "_law_first" = true) (k36 : PySem.W.keepIn K (.ref f36) = true)
    (a37 : PySem.W.nsIn K mainGlobals "_law_is_covering" = some (some (.ref f37))) (l37 : K.lookup f37 = some ⟨oc37, od37, .func (PySem.W.fnOf "_law_is_covering" "_law_is_covering" (defArgs s__law_is_covering) (defBody s__law_is_covering) (defScope s__law_is_covering) .none kV37 dc37 pm37 an37 cd37 ct37), sl37⟩) (c37 : PySem.W.codeIn K cd37 "_law_is_covering" = true) (k37 : PySem.W.keepIn K (.ref f37) = true)
    (a38 : PySem.W.nsIn K mainGlobals "_law_own_covering" = some (some (.ref f38))) (l38 : K.lookup f38 = some ⟨oc38, od38, .func (PySem.W.fnOf "_law_own_covering" "_law_own_covering" (defArgs s__law_own_covering) (defBody s__law_own_covering) (defScope s__law_own_covering) .none kV38 dc38 pm38 an38 cd38 ct38), sl38⟩) (c38 : PySem.W.codeIn K cd38 "_law_own_covering" = true) (k38 : PySem.W.keepIn K (.ref f38) = true)
    (a39 : PySem.W.nsIn K mainGlobals "_law_is_right" = some (some (.ref f39))) (l39 : K.lookup f39 = some ⟨oc39, od39, .func (PySem.W.fnOf "_law_is_right" "_law_is_right" (defArgs s__law_is_right) (defBody s__law_is_right) (defScope s__law_is_right) .none kV39 dc39 pm39 an39 cd39 ct39), sl39⟩) (c39 : PySem.W.codeIn K cd39 "_law_is_right" = true) (k39 : PySem.W.keepIn K (.ref f39) = true)
    (a40 : PySem.W.nsIn K mainGlobals "law" = some (some (.ref f40))) (l40 : K.lookup f40 = some ⟨oc40, od40, .func (PySem.W.fnOf "law" "law" (defArgs s_law) (defBody s_law) (defScope s_law) .none kV40 dc40 pm40 an40 cd40 ct40), sl40⟩) (c40 : PySem.W.codeIn K cd40 "law" = true) (k40 : PySem.W.keepIn K (.ref f40) = true)
    (z_abs : PySem.W.nsIn K mainGlobals "abs" = some none)
    (z_all : PySem.W.nsIn K mainGlobals "all" = some none)
    (z_bool : PySem.W.nsIn K mainGlobals "bool" = some none)
    (z_dict : PySem.W.nsIn K mainGlobals "dict" = some none)
    (z_enumerate : PySem.W.nsIn K mainGlobals "enumerate" = some none)
    (z_int : PySem.W.nsIn K mainGlobals "int" = some none)
    (z_isinstance : PySem.W.nsIn K mainGlobals "isinstance" = some none)
    (z_len : PySem.W.nsIn K mainGlobals "len" = some none)
    (z_list : PySem.W.nsIn K mainGlobals "list" = some none)
    (z_max : PySem.W.nsIn K mainGlobals "max" = some none)
    (z_min : PySem.W.nsIn K mainGlobals "min" = some none)
    (z_range : PySem.W.nsIn K mainGlobals "range" = some none)
    (z_repr : PySem.W.nsIn K mainGlobals "repr" = some none)
    (z_set : PySem.W.nsIn K mainGlobals "set" = some none)
    (z_sorted : PySem.W.nsIn K mainGlobals "sorted" = some none)
    (z_str : PySem.W.nsIn K mainGlobals "str" = some none)
    (z_sum : PySem.W.nsIn K mainGlobals "sum" = some none)
    (z_tuple : PySem.W.nsIn K mainGlobals "tuple" = some none)
    (z_zip : PySem.W.nsIn K mainGlobals "zip" = some none) :
    ∃ fd : FuncData, (∀ (s : Shared) (v : Value), BindsTo s fd ⟨[v], []⟩ [("script", v)]) ∧ ∀ base : Heap, K.In base → base.Ns mainGlobals mg → FnG l.prog w K mg base 13 fa fd ["script"] (spL K 63) := by
  have e := hfa.symm.trans (PySem.W.mg_of X G a40)
  cases e
  let A : Nat → Addr := fun i => match i with | 1 => f1 | 2 => f2 | 9 => f9 | 10 => f10 | 11 => f11 | 12 => f12 | 13 => f13 | 14 => f14 | 15 => f15 | 16 => f16 | 17 => f17 | 18 => f18 | 19 => f19 | 20 => f20 | 21 => f21 | 22 => f22 | 24 => f24 | 25 => f25 | 26 => f26 | 27 => f27 | 28 => f28 | 29 => f29 | 30 => f30 | 32 => f32 | 33 => f33 | 34 => f34 | 35 => f35 | 36 => f36 | 37 => f37 | 38 => f38 | 39 => f39 | 40 => fa | _ => f1
  let D : Nat → FuncData := fun i => match i with | 1 => PySem.W.fnOf "is_whole" "is_whole" (defArgs s_is_whole) (defBody s_is_whole) (defScope s_is_whole) .none kV1 dc1 pm1 an1 cd1 ct1 | 2 => PySem.W.fnOf "is_count" "is_count" (defArgs s_is_count) (defBody s_is_count) (defScope s_is_count) (.ref T2) kV2 dc2 pm2 an2 cd2 ct2 | 9 => PySem.W.fnOf "is_row" "is_row" (defArgs s_is_row) (defBody s_is_row) (defScope s_is_row) .none kV9 dc9 pm9 an9 cd9 ct9 | 10 => PySem.W.fnOf "check_row" "check_row" (defArgs s_check_row) (defBody s_check_row) (defScope s_check_row) .none kV10 dc10 pm10 an10 cd10 ct10 | 11 => PySem.W.fnOf "check_way" "check_way" (defArgs s_check_way) (defBody s_check_way) (defScope s_check_way) .none kV11 dc11 pm11 an11 cd11 ct11 | 12 => PySem.W.fnOf "check_row_way" "check_row_way" (defArgs s_check_row_way) (defBody s_check_row_way) (defScope s_check_row_way) .none kV12 dc12 pm12 an12 cd12 ct12 | 13 => PySem.W.fnOf "goes_on" "goes_on" (defArgs s_goes_on) (defBody s_goes_on) (defScope s_goes_on) .none kV13 dc13 pm13 an13 cd13 ct13 | 14 => PySem.W.fnOf "levels_there" "levels_there" (defArgs s_levels_there) (defBody s_levels_there) (defScope s_levels_there) .none kV14 dc14 pm14 an14 cd14 ct14 | 15 => PySem.W.fnOf "most_there" "most_there" (defArgs s_most_there) (defBody s_most_there) (defScope s_most_there) .none kV15 dc15 pm15 an15 cd15 ct15 | 16 => PySem.W.fnOf "most_places" "most_places" (defArgs s_most_places) (defBody s_most_places) (defScope s_most_places) .none kV16 dc16 pm16 an16 cd16 ct16 | 17 => PySem.W.fnOf "levels_of" "levels_of" (defArgs s_levels_of) (defBody s_levels_of) (defScope s_levels_of) .none kV17 dc17 pm17 an17 cd17 ct17 | 18 => PySem.W.fnOf "tails_there" "tails_there" (defArgs s_tails_there) (defBody s_tails_there) (defScope s_tails_there) .none kV18 dc18 pm18 an18 cd18 ct18 | 19 => PySem.W.fnOf "first_longest" "first_longest" (defArgs s_first_longest) (defBody s_first_longest) (defScope s_first_longest) .none kV19 dc19 pm19 an19 cd19 ct19 | 20 => PySem.W.fnOf "covering" "covering" (defArgs s_covering) (defBody s_covering) (defScope s_covering) .none kV20 dc20 pm20 an20 cd20 ct20 | 21 => PySem.W.fnOf "goes" "goes" (defArgs s_goes) (defBody s_goes) (defScope s_goes) .none kV21 dc21 pm21 an21 cd21 ct21 | 22 => PySem.W.fnOf "is_covering" "is_covering" (defArgs s_is_covering) (defBody s_is_covering) (defScope s_is_covering) .none kV22 dc22 pm22 an22 cd22 ct22 | 24 => PySem.W.fnOf "_law_purse" "_law_purse" (defArgs s__law_purse) (defBody s__law_purse) (defScope s__law_purse) .none kV24 dc24 pm24 an24 cd24 ct24 | 25 => PySem.W.fnOf "_law_mixed" "_law_mixed" (defArgs s__law_mixed) (defBody s__law_mixed) (defScope s__law_mixed) .none kV25 dc25 pm25 an25 cd25 ct25 | 26 => PySem.W.fnOf "_law_draw" "_law_draw" (defArgs s__law_draw) (defBody s__law_draw) (defScope s__law_draw) .none kV26 dc26 pm26 an26 cd26 ct26 | 27 => PySem.W.fnOf "_law_one_of" "_law_one_of" (defArgs s__law_one_of) (defBody s__law_one_of) (defScope s__law_one_of) .none kV27 dc27 pm27 an27 cd27 ct27 | 28 => PySem.W.fnOf "_law_purses" "_law_purses" (defArgs s__law_purses) (defBody s__law_purses) (defScope s__law_purses) .none kV28 dc28 pm28 an28 cd28 ct28 | 29 => PySem.W.fnOf "_law_shuffled" "_law_shuffled" (defArgs s__law_shuffled) (defBody s__law_shuffled) (defScope s__law_shuffled) .none kV29 dc29 pm29 an29 cd29 ct29 | 30 => PySem.W.fnOf "_law_same" "_law_same" (defArgs s__law_same) (defBody s__law_same) (defScope s__law_same) .none kV30 dc30 pm30 an30 cd30 ct30 | 32 => PySem.W.fnOf "_law_bend" "_law_bend" (defArgs s__law_bend) (defBody s__law_bend) (defScope s__law_bend) .none kV32 dc32 pm32 an32 cd32 ct32 | 33 => PySem.W.fnOf "_law_row" "_law_row" (defArgs s__law_row) (defBody s__law_row) (defScope s__law_row) .none kV33 dc33 pm33 an33 cd33 ct33 | 34 => PySem.W.fnOf "_law_levels" "_law_levels" (defArgs s__law_levels) (defBody s__law_levels) (defScope s__law_levels) .none kV34 dc34 pm34 an34 cd34 ct34 | 35 => PySem.W.fnOf "_law_goes_on" "_law_goes_on" (defArgs s__law_goes_on) (defBody s__law_goes_on) (defScope s__law_goes_on) .none kV35 dc35 pm35 an35 cd35 ct35 | 36 => PySem.W.fnOf "_law_first" "_law_first" (defArgs s__law_first) (defBody s__law_first) (defScope s__law_first) .none kV36 dc36 pm36 an36 cd36 ct36 | 37 => PySem.W.fnOf "_law_is_covering" "_law_is_covering" (defArgs s__law_is_covering) (defBody s__law_is_covering) (defScope s__law_is_covering) .none kV37 dc37 pm37 an37 cd37 ct37 | 38 => PySem.W.fnOf "_law_own_covering" "_law_own_covering" (defArgs s__law_own_covering) (defBody s__law_own_covering) (defScope s__law_own_covering) .none kV38 dc38 pm38 an38 cd38 ct38 | 39 => PySem.W.fnOf "_law_is_right" "_law_is_right" (defArgs s__law_is_right) (defBody s__law_is_right) (defScope s__law_is_right) .none kV39 dc39 pm39 an39 cd39 ct39 | 40 => PySem.W.fnOf "law" "law" (defArgs s_law) (defBody s_law) (defScope s_law) .none kV40 dc40 pm40 an40 cd40 ct40 | _ => PySem.W.fnOf "is_whole" "is_whole" (defArgs s_is_whole) (defBody s_is_whole) (defScope s_is_whole) .none kV1 dc1 pm1 an1 cd1 ct1
  have T : Txt K mg A D := ⟨mk0 l1 c1 k1, PySem.W.mg_of X G a1, mkD l2 c2 k2 t2 s2 r2, PySem.W.mg_of X G a2, mk0 l9 c9 k9, PySem.W.mg_of X G a9, mk0 l10 c10 k10, PySem.W.mg_of X G a10, mk0 l11 c11 k11, PySem.W.mg_of X G a11, mk0 l12 c12 k12, PySem.W.mg_of X G a12, mk0 l13 c13 k13, PySem.W.mg_of X G a13, mk0 l14 c14 k14, PySem.W.mg_of X G a14, mk0 l15 c15 k15, PySem.W.mg_of X G a15, mk0 l16 c16 k16, PySem.W.mg_of X G a16, mk0 l17 c17 k17, PySem.W.mg_of X G a17, mk0 l18 c18 k18, PySem.W.mg_of X G a18, mk0 l19 c19 k19, PySem.W.mg_of X G a19, mk0 l20 c20 k20, PySem.W.mg_of X G a20, mk0 l21 c21 k21, PySem.W.mg_of X G a21, mk0 l22 c22 k22, PySem.W.mg_of X G a22, mk0 l24 c24 k24, PySem.W.mg_of X G a24, mk0 l25 c25 k25, PySem.W.mg_of X G a25, mk0 l26 c26 k26, PySem.W.mg_of X G a26, mk0 l27 c27 k27, PySem.W.mg_of X G a27, mk0 l28 c28 k28, PySem.W.mg_of X G a28, mk0 l29 c29 k29, PySem.W.mg_of X G a29, mk0 l30 c30 k30, PySem.W.mg_of X G a30, mk0 l32 c32 k32, PySem.W.mg_of X G a32, mk0 l33 c33 k33, PySem.W.mg_of X G a33, mk0 l34 c34 k34, PySem.W.mg_of X G a34, mk0 l35 c35 k35, PySem.W.mg_of X G a35, mk0 l36 c36 k36, PySem.W.mg_of X G a36, mk0 l37 c37 k37, PySem.W.mg_of X G a37, mk0 l38 c38 k38, PySem.W.mg_of X G a38, mk0 l39 c39 k39, PySem.W.mg_of X G a39, mk0 l40 c40 k40, PySem.W.mg_of X G a40, PySem.W.mg_none_of X G z_abs, PySem.W.mg_none_of X G z_all, PySem.W.mg_none_of X G z_bool, PySem.W.mg_none_of X G z_dict, PySem.W.mg_none_of X G z_enumerate, PySem.W.mg_none_of X G z_int, PySem.W.mg_none_of X G z_isinstance, PySem.W.mg_none_of X G z_len, PySem.W.mg_none_of X G z_list, PySem.W.mg_none_of X G z_max, PySem.W.mg_none_of X G z_min, PySem.W.mg_none_of X G z_range, PySem.W.mg_none_of X G z_repr, PySem.W.mg_none_of X G z_set, PySem.W.mg_none_of X G z_sorted, PySem.W.mg_none_of X G z_str, PySem.W.mg_none_of X G z_sum, PySem.W.mg_none_of X G z_tuple, PySem.W.mg_none_of X G z_zip⟩
  exact ⟨D 40, fun s v => .of_eq rfl, fun base _ _ => ok_law T⟩
end
end K22
open PySem PySem.W PyProof.Rows
set_option maxHeartbeats 0 in
theorem PySem.Challenge.cw_boundtobe_k22_whole_rows_of_forty_holds : PySem.Challenge.rw_boundtobe_k22_whole_rows_of_forty.Holds := by
  w_on; o_law; k_head; (case hw => w_witness2)
  k_fill
  refine DL.walk_G (l := PySem.Challenge.rw_boundtobe_k22_whole_rows_of_forty) (n := 63) (k := 13) (x := "script") rfl (by decide) rfl ⟨rfl, by decide, by decide⟩ (fun w h Y => PySem.W.kIn_of Y) ?F
  case F =>
    intro w mg fa h KX G hmg
    refine' K22.all_mk KX G hmg ?a1 ?l1 ?c1 ?k1 ?a2 ?l2 ?c2 ?k2 ?t2 ?s2 ?r2 ?a9 ?l9 ?c9 ?k9 ?a10 ?l10 ?c10 ?k10 ?a11 ?l11 ?c11 ?k11 ?a12 ?l12 ?c12 ?k12 ?a13 ?l13 ?c13 ?k13 ?a14 ?l14 ?c14 ?k14 ?a15 ?l15 ?c15 ?k15 ?a16 ?l16 ?c16 ?k16 ?a17 ?l17 ?c17 ?k17 ?a18 ?l18 ?c18 ?k18 ?a19 ?l19 ?c19 ?k19 ?a20 ?l20 ?c20 ?k20 ?a21 ?l21 ?c21 ?k21 ?a22 ?l22 ?c22 ?k22 ?a24 ?l24 ?c24 ?k24 ?a25 ?l25 ?c25 ?k25 ?a26 ?l26 ?c26 ?k26 ?a27 ?l27 ?c27 ?k27 ?a28 ?l28 ?c28 ?k28 ?a29 ?l29 ?c29 ?k29 ?a30 ?l30 ?c30 ?k30 ?a32 ?l32 ?c32 ?k32 ?a33 ?l33 ?c33 ?k33 ?a34 ?l34 ?c34 ?k34 ?a35 ?l35 ?c35 ?k35 ?a36 ?l36 ?c36 ?k36 ?a37 ?l37 ?c37 ?k37 ?a38 ?l38 ?c38 ?k38 ?a39 ?l39 ?c39 ?k39 ?a40 ?l40 ?c40 ?k40 ?z_abs ?z_all ?z_bool ?z_dict ?z_enumerate ?z_int ?z_isinstance ?z_len ?z_list ?z_max ?z_min ?z_range ?z_repr ?z_set ?z_sorted ?z_str ?z_sum ?z_tuple ?z_zip
    (case a1 => k_is); (case l1 => k_is); (case c1 => k_is); (case k1 => k_is); (case a2 => k_is); (case l2 => k_is); (case c2 => k_is); (case k2 => k_is); (case t2 => k_is); (case s2 => rfl); (case r2 => exact .cons ⟨_, rfl⟩ .nil); (case a9 => k_is); (case l9 => k_is); (case c9 => k_is); (case k9 => k_is); (case a10 => k_is); (case l10 => k_is); (case c10 => k_is); (case k10 => k_is); (case a11 => k_is); (case l11 => k_is); (case c11 => k_is); (case k11 => k_is); (case a12 => k_is); (case l12 => k_is); (case c12 => k_is); (case k12 => k_is); (case a13 => k_is); (case l13 => k_is); (case c13 => k_is); (case k13 => k_is); (case a14 => k_is); (case l14 => k_is); (case c14 => k_is); (case k14 => k_is); (case a15 => k_is); (case l15 => k_is); (case c15 => k_is); (case k15 => k_is); (case a16 => k_is); (case l16 => k_is); (case c16 => k_is); (case k16 => k_is); (case a17 => k_is); (case l17 => k_is); (case c17 => k_is); (case k17 => k_is); (case a18 => k_is); (case l18 => k_is); (case c18 => k_is); (case k18 => k_is); (case a19 => k_is); (case l19 => k_is); (case c19 => k_is); (case k19 => k_is); (case a20 => k_is); (case l20 => k_is); (case c20 => k_is); (case k20 => k_is); (case a21 => k_is); (case l21 => k_is); (case c21 => k_is); (case k21 => k_is); (case a22 => k_is); (case l22 => k_is); (case c22 => k_is); (case k22 => k_is); (case a24 => k_is); (case l24 => k_is); (case c24 => k_is); (case k24 => k_is); (case a25 => k_is); (case l25 => k_is); (case c25 => k_is); (case k25 => k_is); (case a26 => k_is); (case l26 => k_is); (case c26 => k_is); (case k26 => k_is); (case a27 => k_is); (case l27 => k_is); (case c27 => k_is); (case k27 => k_is); (case a28 => k_is); (case l28 => k_is); (case c28 => k_is); (case k28 => k_is); (case a29 => k_is); (case l29 => k_is); (case c29 => k_is); (case k29 => k_is); (case a30 => k_is); (case l30 => k_is); (case c30 => k_is); (case k30 => k_is); (case a32 => k_is); (case l32 => k_is); (case c32 => k_is); (case k32 => k_is); (case a33 => k_is); (case l33 => k_is); (case c33 => k_is); (case k33 => k_is); (case a34 => k_is); (case l34 => k_is); (case c34 => k_is); (case k34 => k_is); (case a35 => k_is); (case l35 => k_is); (case c35 => k_is); (case k35 => k_is); (case a36 => k_is); (case l36 => k_is); (case c36 => k_is); (case k36 => k_is); (case a37 => k_is); (case l37 => k_is); (case c37 => k_is); (case k37 => k_is); (case a38 => k_is); (case l38 => k_is); (case c38 => k_is); (case k38 => k_is); (case a39 => k_is); (case l39 => k_is); (case c39 => k_is); (case k39 => k_is); (case a40 => k_is); (case l40 => k_is); (case c40 => k_is); (case k40 => k_is); (case z_abs => k_is); (case z_all => k_is); (case z_bool => k_is); (case z_dict => k_is); (case z_enumerate => k_is); (case z_int => k_is); (case z_isinstance => k_is); (case z_len => k_is); (case z_list => k_is); (case z_max => k_is); (case z_min => k_is); (case z_range => k_is); (case z_repr => k_is); (case z_set => k_is); (case z_sorted => k_is); (case z_str => k_is); (case z_sum => k_is); (case z_tuple => k_is); (case z_zip => k_is)


