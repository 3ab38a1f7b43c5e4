import PyProof.Rows.All
import Wide.All
import OpenK.AllK
import Wide.FinOn
import HandS.ForMost
import HandS.Defaults
import HandS.Deep
import HandS.TupAny
import HandS.TupLe
import HandS.Zip
import HandS.Walk
import HandS.Gcd
import HandS.IsInst
import HandS.Wide
import HandS.Conv
import HandS.Style
import HandS.Strs
import HandS.SortInts
import HandS.TupSets
import HandS.DictComp
import HandS.DictTup
import HandS.Flow
import HandS.RaiseMore
import KE.GoesNew
import KE.GoesEnum
import KE.GoesMore
import HandS.HeadHook1
import HandS.HeadHook2
import PySem.Challenge.RW_belltables_k19_whole_classical_values_be
import PyProof.DictCompW
import HandS.Small
import KE.KTupSum
import HandS.Ends
import PyProof.Rows.RegFStrParts
import KE.KStateDown
import HandS.Codes
import HandS.EndBits
import HandS.Head0
import HandS.Head1
import HandS.Head2
import HandS.Head3
import HandS.HeadEnd
section
set_option Elab.async false
set_option linter.all false
set_option maxRecDepth 100000
set_option maxHeartbeats 4000000
namespace K19
open PySem PySem.Spec PyProof.Rows L2

/-! ### data: as PyData, a tuple marked by what is known of its object -/
inductive Mk where
  | any | key | lot
inductive D where
  | non
  | bl (b : Bool)
  | int (i : Int)
  | str (x : Str)
  | tup (m : Mk) (ds : List D)
  | lst (ds : List D)
mutual
def er : D → PyData
  | .non => .none
  | .bl b => .bool b
  | .int i => .int i
  | .str x => .str x
  | .tup _ ds => .tuple (erL ds)
  | .lst ds => .list (erL ds)
def erL : List D → List PyData
  | [] => []
  | d :: ds => er d :: erL ds
end
theorem erL_map : ∀ ds : List D, erL ds = ds.map er
  | [] => by rw [erL, List.map_nil]
  | d :: ds => by rw [erL, erL_map ds, List.map_cons]
/-! ### data on the heap -/
/-- key: a tracked tuple; lot: a known object that has no dict -/
def TupAt (K : PySem.W.Frag) (H : Hp) (a : Addr) (xs : List V) : Mk → Prop
  | .any => SqT K H a xs
  | .key => H a = some (.tup xs)
  | .lot => ∃ o : Obj, H a = some (.frz o (.tup xs)) ∧ o.dict = none ∧ o.cls = .type "tuple"
theorem TupAt.sq {K : PySem.W.Frag} {H : Hp} {a : Addr} {xs : List V} {m : Mk} (h : TupAt K H a xs m) : SqT K H a xs := by
  cases m with
  | any => exact h
  | key => exact .inl (.inl h)
  | lot =>
    obtain ⟨o, h, _⟩ := h
    exact .inl (.inr ⟨o, h⟩)
mutual
inductive Im (K : PySem.W.Frag) (H : Hp) : V → D → Prop
  | non : Im K H .non .non
  | bl (b : Bool) : Im K H (.bl b) (.bl b)
  | int (i : Int) : Im K H (.int i) (.int i)
  | str (x : Str) : Im K H (.str x) (.str x)
  | tup {a : Addr} {m : Mk} {xs : List V} {ds : List D} : TupAt K H a xs m → ImL K H xs ds → Im K H (.ref a) (.tup m ds)
inductive ImL (K : PySem.W.Frag) (H : Hp) : List V → List D → Prop
  | nil : ImL K H [] []
  | cons {v : V} {vs : List V} {d : D} {ds : List D} : Im K H v d → ImL K H vs ds → ImL K H (v :: vs) (d :: ds)
end
inductive Da (K : PySem.W.Frag) (H : Hp) : V → D → Prop
  | im {v : V} {d : D} : Im K H v d → Da K H v d
  | ls {a : Addr} {xs : List V} {ds : List D} : H a = some (.lst xs) → ImL K H xs ds → Da K H (.ref a) (.lst ds)
inductive DaL (K : PySem.W.Frag) (H : Hp) : List V → List D → Prop
  | nil : DaL K H [] []
  | cons {v : V} {vs : List V} {d : D} {ds : List D} : Da K H v d → DaL K H vs ds → DaL K H (v :: vs) (d :: ds)

def Ex (H H' : Hp) : Prop := ∀ a o, H a = some o → H' a = some o
theorem Ex.refl (H : Hp) : Ex H H := fun _ _ h => h
theorem Ex.trans {H H1 H2 : Hp} (a : Ex H H1) (b : Ex H1 H2) : Ex H H2 := fun x o h => b x o (a x o h)
theorem Ex.new {H : Hp} {p : Addr} {o : HO} (h : H p = none) : Ex H (upd H p o) := fun a u e => by
  rw [upd_ne (ne_of_none e h)]
  exact e
theorem Ex.mut {H H' : Hp} {p : Addr} {o : HO} (e : Ex H H') (h : H p = none) : Ex H (upd H' p o) := fun a u ha => by
  rw [upd_ne (ne_of_none ha h)]
  exact e a u ha
theorem Ex.back {H H' : Hp} {p : Addr} (e : Ex H H') (h : H' p = none) : H p = none := by
  cases h1 : H p with
  | none => rfl
  | some o =>
    rw [e p o h1] at h
    cases h
/-- tuples stay -/
def TK (K : PySem.W.Frag) (H H' : Hp) : Prop := ∀ a xs m, TupAt K H a xs m → TupAt K H' a xs m
theorem Ex.tk {K : PySem.W.Frag} {H H' : Hp} (e : Ex H H') : TK K H H' := fun a xs m h => by
  cases m with
  | any =>
    rcases h with (h | ⟨o, h⟩) | h
    · exact .inl (.inl (e a _ h))
    · exact .inl (.inr ⟨o, e a _ h⟩)
    · exact .inr h
  | key => exact e a _ h
  | lot =>
    obtain ⟨o, h, q⟩ := h
    exact ⟨o, e a _ h, q⟩
mutual
theorem Im.mono {K : PySem.W.Frag} {H H' : Hp} (t : TK K H H') : ∀ {v : V} {d : D}, Im K H v d → Im K H' v d
  | _, _, .non => .non
  | _, _, .bl b => .bl b
  | _, _, .int i => .int i
  | _, _, .str x => .str x
  | _, _, .tup h l => .tup (t _ _ _ h) (ImL.mono t l)
theorem ImL.mono {K : PySem.W.Frag} {H H' : Hp} (t : TK K H H') : ∀ {vs : List V} {ds : List D}, ImL K H vs ds → ImL K H' vs ds
  | _, _, .nil => .nil
  | _, _, .cons h l => .cons (Im.mono t h) (ImL.mono t l)
end
theorem Da.mono {K : PySem.W.Frag} {H H' : Hp} {v : V} {d : D} (e : Ex H H') (h : Da K H v d) : Da K H' v d := by
  cases h with
  | im h => exact .im (h.mono e.tk)
  | ls h l => exact .ls (e _ _ h) (l.mono e.tk)
theorem DaL.mono {K : PySem.W.Frag} {H H' : Hp} (e : Ex H H') : ∀ {vs : List V} {ds : List D}, DaL K H vs ds → DaL K H' vs ds
  | _, _, .nil => .nil
  | _, _, .cons h l => .cons (h.mono e) (DaL.mono e l)
theorem ImL.length {K : PySem.W.Frag} {H : Hp} : ∀ {vs : List V} {ds : List D}, ImL K H vs ds → vs.length = ds.length
  | _, _, .nil => rfl
  | _, _, .cons _ l => congrArg Nat.succ l.length
theorem DaL.length {K : PySem.W.Frag} {H : Hp} : ∀ {vs : List V} {ds : List D}, DaL K H vs ds → vs.length = ds.length
  | _, _, .nil => rfl
  | _, _, .cons _ l => congrArg Nat.succ l.length
theorem ImL.append {K : PySem.W.Frag} {H : Hp} : ∀ {vs us : List V} {ds es : List D}, ImL K H vs ds → ImL K H us es → ImL K H (vs ++ us) (ds ++ es)
  | _, _, _, _, .nil, h => h
  | _, _, _, _, .cons h l, k => .cons h (l.append k)
theorem ImL.get {K : PySem.W.Frag} {H : Hp} : ∀ {vs : List V} {ds : List D} {i : Nat} {d : D}, ImL K H vs ds → ds[i]? = some d → ∃ v, vs[i]? = some v ∧ Im K H v d
  | _, _, _, _, .nil, e => by simp at e
  | _, _, 0, _, .cons h l, e => by
    simp at e
    subst e
    exact ⟨_, rfl, h⟩
  | _, _, i + 1, d, .cons h l, e => by
    obtain ⟨v, h1, h2⟩ := ImL.get (i := i) (d := d) l (by simpa using e)
    exact ⟨v, by simpa using h1, h2⟩
theorem ImL.get' {K : PySem.W.Frag} {H : Hp} : ∀ {vs : List V} {ds : List D} {i : Nat} {v : V}, ImL K H vs ds → vs[i]? = some v → ∃ d, ds[i]? = some d ∧ Im K H v d
  | _, _, _, _, .nil, e => by simp at e
  | _, _, 0, _, .cons h l, e => by
    simp at e
    subst e
    exact ⟨_, rfl, h⟩
  | _, _, i + 1, v, .cons h l, e => by
    obtain ⟨d, h1, h2⟩ := ImL.get' (i := i) (v := v) l (by simpa using e)
    exact ⟨d, by simpa using h1, h2⟩
theorem ImL.take {K : PySem.W.Frag} {H : Hp} : ∀ {vs : List V} {ds : List D} (n : Nat), ImL K H vs ds → ImL K H (vs.take n) (ds.take n)
  | _, _, 0, _ => .nil
  | _, _, _ + 1, .nil => .nil
  | _, _, n + 1, .cons h l => .cons h (l.take n)
theorem ImL.drop {K : PySem.W.Frag} {H : Hp} : ∀ {vs : List V} {ds : List D} (n : Nat), ImL K H vs ds → ImL K H (vs.drop n) (ds.drop n)
  | _, _, 0, h => h
  | _, _, _ + 1, .nil => .nil
  | _, _, n + 1, .cons _ l => l.drop n
theorem ImL.set {K : PySem.W.Frag} {H : Hp} {v : V} {d : D} (h : Im K H v d) : ∀ {vs : List V} {ds : List D} (i : Nat), ImL K H vs ds → ImL K H (vs.set i v) (ds.set i d)
  | _, _, _, .nil => .nil
  | _, _, 0, .cons _ l => .cons h l
  | _, _, i + 1, .cons k l => .cons k (ImL.set h i l)
theorem ImL.erase {K : PySem.W.Frag} {H : Hp} : ∀ {vs : List V} {ds : List D} (i : Nat), ImL K H vs ds → ImL K H (vs.eraseIdx i) (ds.eraseIdx i)
  | _, _, _, .nil => .nil
  | _, _, 0, .cons _ l => l
  | _, _, i + 1, .cons k l => .cons k (ImL.erase i l)
/-- all ints -/
theorem ImL.ints {K : PySem.W.Frag} {H : Hp} : ∀ {ns : List Int} {vs : List V}, ImL K H vs (ns.map D.int) → vs = ns.map V.int
  | [], _, h => by
    cases h
    rfl
  | n :: ns, _, h => by
    cases h with
    | cons h l =>
      cases h
      rw [ImL.ints l]
      rfl
theorem ImL.bls {K : PySem.W.Frag} {H : Hp} : ∀ {ns : List Bool} {vs : List V}, ImL K H vs (ns.map D.bl) → vs = ns.map V.bl
  | [], _, h => by
    cases h
    rfl
  | n :: ns, _, h => by
    cases h with
    | cons h l =>
      cases h
      rw [ImL.bls l]
      rfl
theorem imL_ints {K : PySem.W.Frag} {H : Hp} : ∀ ns : List Int, ImL K H (ns.map V.int) (ns.map D.int)
  | [] => .nil
  | n :: ns => .cons (.int n) (imL_ints ns)
theorem Da.int_inv {K : PySem.W.Frag} {H : Hp} {v : V} {i : Int} (h : Da K H v (.int i)) : v = .int i := by
  cases h with
  | im h =>
    cases h
    rfl
theorem Da.bl_inv {K : PySem.W.Frag} {H : Hp} {v : V} {i : Bool} (h : Da K H v (.bl i)) : v = .bl i := by
  cases h with
  | im h =>
    cases h
    rfl
theorem Da.str_inv {K : PySem.W.Frag} {H : Hp} {v : V} {i : Str} (h : Da K H v (.str i)) : v = .str i := by
  cases h with
  | im h =>
    cases h
    rfl
theorem Da.non_inv {K : PySem.W.Frag} {H : Hp} {v : V} (h : Da K H v .non) : v = .non := by
  cases h with
  | im h =>
    cases h
    rfl
theorem Da.tup_inv {K : PySem.W.Frag} {H : Hp} {v : V} {m : Mk} {ds : List D} (h : Da K H v (.tup m ds)) : ∃ a xs, v = .ref a ∧ TupAt K H a xs m ∧ ImL K H xs ds := by
  cases h with
  | im h =>
    cases h with
    | tup h l => exact ⟨_, _, rfl, h, l⟩
theorem Da.ls_inv {K : PySem.W.Frag} {H : Hp} {v : V} {ds : List D} (h : Da K H v (.lst ds)) : ∃ a xs, v = .ref a ∧ H a = some (.lst xs) ∧ ImL K H xs ds := by
  cases h with
  | im h => cases h
  | ls h l => exact ⟨_, _, rfl, h, l⟩
def isL : D → Bool
  | .lst _ => true
  | _ => false
theorem Da.im_of {K : PySem.W.Frag} {H : Hp} {v : V} {d : D} (h : Da K H v d) (e : isL d = false) : Im K H v d := by
  cases h with
  | im h => exact h
  | ls h l => cases e
mutual
theorem Im.dp {K : PySem.W.Frag} {H : Hp} : ∀ {v : V} {d : D}, Im K H v d → Dp K H v (er d)
  | _, _, .non => by
    rw [er]
    exact .non
  | _, _, .bl b => by
    rw [er]
    exact .bl b
  | _, _, .int i => by
    rw [er]
    exact .int i
  | _, _, .str x => by
    rw [er]
    exact .str x
  | _, _, .tup h l => by
    rw [er]
    exact .tup h.sq (ImL.dp l)
theorem ImL.dp {K : PySem.W.Frag} {H : Hp} : ∀ {vs : List V} {ds : List D}, ImL K H vs ds → DpAll K H vs (erL ds)
  | _, _, .nil => by
    rw [erL]
    exact .nil
  | _, _, .cons h l => by
    rw [erL]
    exact .cons (Im.dp h) (ImL.dp l)
end
theorem Da.dp {K : PySem.W.Frag} {H : Hp} {v : V} {d : D} (h : Da K H v d) : Dp K H v (er d) := by
  cases h with
  | im h => exact h.dp
  | ls h l =>
    rw [er]
    exact .lst (SqL.of h) l.dp

/-! ### hidden places -/
def hid (O : List Addr) (H : Hp) : Hp := fun a => if a ∈ O then none else H a
theorem hid_nil (H : Hp) : hid [] H = H := by
  funext a
  simp [hid]
theorem hid_out {O : List Addr} {H : Hp} {a : Addr} (h : a ∉ O) : hid O H a = H a := by
  unfold hid
  rw [if_neg h]
theorem hid_in {O : List Addr} {H : Hp} {a : Addr} (h : a ∈ O) : hid O H a = none := by
  unfold hid
  rw [if_pos h]
theorem hid_some {O : List Addr} {H : Hp} {a : Addr} {o : HO} (h : hid O H a = some o) : a ∉ O ∧ H a = some o := by
  by_cases m : a ∈ O
  · rw [hid_in m] at h
    cases h
  · rw [hid_out m] at h
    exact ⟨m, h⟩
theorem hid_le (O : List Addr) (H : Hp) : Ex (hid O H) H := fun _ _ h => (hid_some h).2
theorem hid_app (W O : List Addr) (H : Hp) : Ex (hid (W ++ O) H) (hid W H) := fun a o h => by
  obtain ⟨h1, h2⟩ := hid_some h
  rw [hid_out fun m => h1 (List.mem_append_left _ m)]
  exact h2
theorem hid_ex {W : List Addr} {H H' : Hp} (e : Ex (hid W H) (hid W H')) (O : List Addr) : Ex (hid (W ++ O) H) (hid (W ++ O) H') := fun a o h => by
  obtain ⟨h1, h2⟩ := hid_some h
  rw [hid_out h1]
  exact (hid_some (e a o (by rw [hid_out fun m => h1 (List.mem_append_left _ m)]; exact h2))).2
theorem hid_exH {W : List Addr} {H H' : Hp} (e : Ex H H') : Ex (hid W H) (hid W H') := fun a o h => by
  obtain ⟨h1, h2⟩ := hid_some h
  rw [hid_out h1]
  exact e a o h2
/-- no tuple stands there -/
def Sta : HO → Prop
  | .tup _ => False
  | .frz _ _ => False
  | _ => True
theorem tk_clean {K : PySem.W.Frag} {W O : List Addr} {H : Hp} (h : ∀ a ∈ O, ∃ o, H a = some o ∧ Sta o) : TK K (hid W H) (hid (W ++ O) H) := fun a xs m q => by
  have key : ∀ o : HO, ¬ Sta o → hid W H a = some o → hid (W ++ O) H a = some o := fun o no e => by
    obtain ⟨h1, h2⟩ := hid_some e
    rw [hid_out]
    · exact h2
    · intro m
      rcases List.mem_append.mp m with m | m
      · exact h1 m
      · obtain ⟨u, e2, s⟩ := h a m
        rw [h2] at e2
        cases e2
        exact no s
  cases m with
  | any =>
    rcases q with (q | ⟨o, q⟩) | q
    · exact .inl (.inl (key _ (fun z => z) q))
    · exact .inl (.inr ⟨o, key _ (fun z => z) q⟩)
    · exact .inr q
  | key => exact key _ (fun z => z) q
  | lot =>
    obtain ⟨o, q, r⟩ := q
    exact ⟨o, key _ (fun z => z) q, r⟩

/-! ### cells -/
/-- a list that never changes: the script -/
def ScrAt (K : PySem.W.Frag) (H : Hp) (a : Addr) (ns : List Int) : Prop := (∃ o, H a = some (.frz o (.lst (ns.map V.int)))) ∨
  ∃ (o : Obj) (its : Array Value) (n : Nat), K.lookup a = some o ∧ o.cls = .type "list" ∧ o.dict = none ∧ o.data = .seq its n ∧ its.size ≤ sizeLine ∧ Vals (ns.map V.int) its.toList
theorem ScrAt.sq {K : PySem.W.Frag} {H : Hp} {a : Addr} {ns : List Int} (h : ScrAt K H a ns) : SqL K H a (ns.map V.int) := h.elim (fun ⟨o, e⟩ => .inl (.inr ⟨o, e⟩)) .inr
theorem ScrAt.mono {K : PySem.W.Frag} {H H' : Hp} {a : Addr} {ns : List Int} (e : Ex H H') (h : ScrAt K H a ns) : ScrAt K H' a ns := h.elim (fun ⟨o, q⟩ => .inl ⟨o, e a _ q⟩) .inr
inductive Cell where
  | un
  | da (d : D)
  | own (ds : List D)
  | dic (kvs : List (List Int × D))
  | pin (a : Addr) (ds : List D)
  | scr (a : Addr) (ns : List Int)
  | well
/-- a dict's entries -/
abbrev ImK (K : PySem.W.Frag) (H : Hp) : List (List Key × V) → List (List Int × D) → Prop := Paired fun p q => p.1 = q.1.map Sum.inl ∧ Im K H p.2 q.2
theorem ImK.mono {K : PySem.W.Frag} {H H' : Hp} (t : TK K H H') {ps : List (List Key × V)} {qs : List (List Int × D)} (h : ImK K H ps qs) : ImK K H' ps qs := Paired.mapP h fun _ _ z => ⟨z.1, z.2.mono t⟩
/-- the well: three ints, good ones -/
def Good (x y z : Int) : Prop := 0 ≤ x ∧ 0 ≤ y ∧ y < 2147483477 ∧ 0 ≤ z
def WOk (W : List Addr) (H : Hp) : Prop := ∀ a ∈ W, ∃ x y z, H a = some (.lst [.int x, .int y, .int z]) ∧ Good x y z
def CellOk (K : PySem.W.Frag) (W O : List Addr) (H : Hp) (s : Option (Option V)) : Cell → Prop
  | .un => True
  | .da d => ∃ v, s = some (some v) ∧ Da K (hid (W ++ O) H) v d
  | .own ds => ∃ a xs, s = some (some (.ref a)) ∧ a ∈ O ∧ H a = some (.lst xs) ∧ ImL K (hid (W ++ O) H) xs ds
  | .dic kvs => ∃ a ks, s = some (some (.ref a)) ∧ a ∈ O ∧ H a = some (.dT ks) ∧ ImK K (hid (W ++ O) H) ks kvs
  | .pin a ds => s = some (some (.ref a)) ∧ Da K (hid (W ++ O) H) (.ref a) (.lst ds)
  | .scr a ns => s = some (some (.ref a)) ∧ ScrAt K (hid (W ++ O) H) a ns
  | .well => ∃ a, s = some (some (.ref a)) ∧ W = [a]
structure Sl (K : PySem.W.Frag) (W O : List Addr) (H : Hp) (σ : L2.St) (ρ : List Cell) : Prop where
  at_ : ∀ (i : Nat) (c : Cell), ρ[i]? = some c → CellOk K W O H σ[i]? c
  wk : WOk W H
  ok : ∀ a ∈ O, a ∉ W ∧ ∃ o, H a = some o ∧ Sta o
  len : σ.length = ρ.length
theorem WOk.some {W : List Addr} {H : Hp} (h : WOk W H) {a : Addr} (m : a ∈ W) : ∃ o, H a = some o ∧ Sta o := by
  obtain ⟨x, y, z, e, _⟩ := h a m
  exact ⟨_, e, trivial⟩
theorem CellOk.mono {K : PySem.W.Frag} {W O : List Addr} {H H' : Hp} {s : Option (Option V)} {c : Cell} (e : Ex (hid W H) (hid W H')) (hO : ∀ a ∈ O, a ∉ W) (h : CellOk K W O H s c) : CellOk K W O H' s c := by
  cases c with
  | un => trivial
  | da d =>
    obtain ⟨v, h1, h2⟩ := h
    exact ⟨v, h1, h2.mono (hid_ex e O)⟩
  | own ds =>
    obtain ⟨a, xs, h1, h2, h3, h4⟩ := h
    exact ⟨a, xs, h1, h2, (hid_some (e a _ (by rw [hid_out (hO a h2)]; exact h3))).2, h4.mono (hid_ex e O).tk⟩
  | dic kvs =>
    obtain ⟨a, xs, h1, h2, h3, h4⟩ := h
    exact ⟨a, xs, h1, h2, (hid_some (e a _ (by rw [hid_out (hO a h2)]; exact h3))).2, h4.mono (hid_ex e O).tk⟩
  | pin a ds => exact ⟨h.1, h.2.mono (hid_ex e O)⟩
  | scr a ns => exact ⟨h.1, h.2.mono (hid_ex e O)⟩
  | well => exact h
theorem Sl.mono {K : PySem.W.Frag} {W O : List Addr} {H H' : Hp} {σ : L2.St} {ρ : List Cell} (s : Sl K W O H σ ρ) (e : Ex (hid W H) (hid W H')) (wk : WOk W H') : Sl K W O H' σ ρ :=
  ⟨fun i c h => (s.at_ i c h).mono e fun a m => (s.ok a m).1, wk, fun a m => by
    obtain ⟨h1, o, h2, h3⟩ := s.ok a m
    exact ⟨h1, o, (hid_some (e a o (by rw [hid_out h1]; exact h2))).2, h3⟩, s.len⟩

/-! ### what an expression gives -/
/-- a list stands where nothing stood -/
def Fr (H : Hp) (v : V) (d : D) : Prop := ∀ ds, d = .lst ds → ∃ a, v = .ref a ∧ H a = none
structure Res (K : PySem.W.Frag) (W O : List Addr) (H : Hp) (f : Nat) (v : V) (d : D) (H' : Hp) : Prop where
  da : Da K (hid W H') v d
  cl : 1 ≤ f → Da K (hid (W ++ O) H') v d
  fr : 2 ≤ f → Fr H v d
  ex : Ex (hid W H) (hid W H')
  wk : WOk W H'
theorem Fr.back {W : List Addr} {H H' : Hp} {v : V} {d : D} (e : Ex (hid W H) (hid W H')) (wk : WOk W H') (h : Fr H' v d) : Fr H v d := fun ds q => by
  obtain ⟨a, h1, h2⟩ := h ds q
  refine ⟨a, h1, ?_⟩
  have nW : a ∉ W := fun m => by
    obtain ⟨o, e2, _⟩ := wk.some m
    rw [h2] at e2
    cases e2
  have := e.back (show hid W H' a = none by rw [hid_out nW]; exact h2)
  rw [hid_out nW] at this
  exact this
theorem Res.later {K : PySem.W.Frag} {W O : List Addr} {H H1 H2 : Hp} {f : Nat} {v : V} {d : D} (e : Ex (hid W H) (hid W H1)) (wk : WOk W H1) (r : Res K W O H1 f v d H2) : Res K W O H f v d H2 :=
  ⟨r.da, r.cl, fun h => (r.fr h).back e wk, e.trans r.ex, r.wk⟩
theorem Fr.im {H : Hp} {v : V} {d : D} (e : isL d = false) : Fr H v d := fun ds q => by
  subst q
  cases e
/-- something that never changes -/
theorem Res.of {K : PySem.W.Frag} {W O : List Addr} {H H' : Hp} {f : Nat} {v : V} {d : D} (hO : ∀ a ∈ O, ∃ o, H' a = some o ∧ Sta o) (h : Im K (hid W H') v d) (ex : Ex (hid W H) (hid W H')) (wk : WOk W H') : Res K W O H f v d H' :=
  ⟨.im h, fun _ => .im (h.mono (tk_clean hO)), fun _ => Fr.im (by cases h <;> rfl), ex, wk⟩
theorem Sl.okk {K : PySem.W.Frag} {W O : List Addr} {H : Hp} {σ : L2.St} {ρ : List Cell} (s : Sl K W O H σ ρ) : ∀ a ∈ O, ∃ o, H a = some o ∧ Sta o := fun a m => (s.ok a m).2
/-- the same heap -/
theorem Res.here {K : PySem.W.Frag} {W O : List Addr} {H : Hp} {f : Nat} {v : V} {d : D} {σ : L2.St} {ρ : List Cell} (s : Sl K W O H σ ρ) (h : Im K (hid W H) v d) : Res K W O H f v d H :=
  Res.of s.okk h (Ex.refl _) s.wk
theorem wok_upd {W : List Addr} {H : Hp} {p : Addr} {o : HO} (h : WOk W H) (n : H p = none) : WOk W (upd H p o) := fun a m => by
  obtain ⟨x, y, z, e, g⟩ := h a m
  refine ⟨x, y, z, ?_, g⟩
  rw [upd_ne (ne_of_none e n)]
  exact e
theorem hid_new {W : List Addr} {H : Hp} {p : Addr} {o : HO} (n : H p = none) : Ex (hid W H) (hid W (upd H p o)) := hid_exH (Ex.new n)
theorem new_out {W : List Addr} {H : Hp} {p : Addr} (h : WOk W H) (n : H p = none) : p ∉ W := fun m => by
  obtain ⟨o, e, _⟩ := h.some m
  rw [n] at e
  cases e
/-- a new tuple -/
theorem Res.tup {K : PySem.W.Frag} {W O : List Addr} {H : Hp} {f : Nat} {xs : List V} {ds : List D} {p : Addr} {σ : L2.St} {ρ : List Cell} (s : Sl K W O H σ ρ) (n : H p = none) (l : ImL K (hid W H) xs ds) : Res K W O H f (.ref p) (.tup .key ds) (upd H p (.tup xs)) :=
  Res.of (fun a m => by
    obtain ⟨o, e, g⟩ := s.okk a m
    exact ⟨o, by rw [upd_ne (ne_of_none e n)]; exact e, g⟩) (.tup (by show hid W _ p = _; rw [hid_out (new_out s.wk n)]; exact upd_same) (l.mono (hid_new n).tk)) (hid_new n) (wok_upd s.wk n)
/-- .. a lot -/
theorem Res.lot {K : PySem.W.Frag} {W O : List Addr} {H : Hp} {f : Nat} {xs : List V} {ds : List D} {p : Addr} {σ : L2.St} {ρ : List Cell} {o : Obj} (s : Sl K W O H σ ρ) (n : H p = none) (l : ImL K (hid W H) xs ds) (hd : o.dict = none) (hc : o.cls = .type "tuple") : Res K W O H f (.ref p) (.tup .lot ds) (upd H p (.frz o (.tup xs))) :=
  Res.of (fun a m => by
    obtain ⟨o, e, g⟩ := s.okk a m
    exact ⟨o, by rw [upd_ne (ne_of_none e n)]; exact e, g⟩) (.tup (by
    refine ⟨o, ?_, hd, hc⟩
    rw [hid_out (new_out s.wk n)]
    exact upd_same) (l.mono (hid_new n).tk)) (hid_new n) (wok_upd s.wk n)
/-- a new list -/
theorem Res.lst {K : PySem.W.Frag} {W O : List Addr} {H : Hp} {f : Nat} {xs : List V} {ds : List D} {p : Addr} {σ : L2.St} {ρ : List Cell} (s : Sl K W O H σ ρ) (n : H p = none) (l : ImL K (hid W H) xs ds) : Res K W O H f (.ref p) (.lst ds) (upd H p (.lst xs)) := by
  have np : p ∉ W ++ O := fun m => by
    rcases List.mem_append.mp m with m | m
    · exact new_out s.wk n m
    · obtain ⟨o, e, _⟩ := s.okk p m
      rw [n] at e
      cases e
  refine ⟨.ls (by rw [hid_out (new_out s.wk n)]; exact upd_same) (l.mono (hid_new n).tk), fun _ => .ls (by rw [hid_out np]; exact upd_same) ?_, fun _ ds _ => ⟨p, rfl, n⟩, hid_new n, wok_upd s.wk n⟩
  exact (l.mono (tk_clean s.okk)).mono (hid_exH (Ex.new n)).tk
end K19
end

section
set_option Elab.async false
set_option linter.all false
set_option maxRecDepth 100000
set_option maxHeartbeats 4000000
namespace K19
open PySem PySem.Spec PyProof.Rows L2

/-! ### the weakest readings -/
def EV (X : Cx) (e : Expr) : TE := fun σ H Q => ∃ t, PE X e t ∧ t σ H Q
theorem ev_pe {X : Cx} {e : Expr} : PE X e (EV X e) := ⟨fun pins s σ H Q I h => by
  obtain ⟨t, p, q⟩ := h
  exact p.run pins s σ H Q I q⟩
def TV (X : Cx) (e : Expr) : TT := fun σ H Q => ∃ t, PT X e t ∧ t σ H Q
theorem tv_pt {X : Cx} {e : Expr} : PT X e (TV X e) := ⟨fun pins s σ H Q I h => by
  obtain ⟨t, p, q⟩ := h
  exact p.run pins s σ H Q I q⟩
def WV (X : Cx) (e : Expr) : TT := fun σ H Q => ∃ t, PW X e t ∧ t σ H Q
theorem wv_pw {X : Cx} {e : Expr} : PW X e (WV X e) := ⟨fun wh pins s σ H Q I h => by
  obtain ⟨t, p, q⟩ := h
  exact p.run wh pins s σ H Q I q⟩
def AV (X : Cx) (es : List Expr) : TA := fun σ H Q => ∃ t, PA X es t ∧ t σ H Q
theorem av_pa {X : Cx} {es : List Expr} : PA X es (AV X es) := ⟨fun pos pins s σ H Q I h => by
  obtain ⟨t, p, q⟩ := h
  exact p.run pos pins s σ H Q I q⟩
def SV (X : Cx) (st : Stmt) : TS := fun D σ H => ∃ t, PS X st t ∧ t D σ H
theorem sv_ps {X : Cx} {st : Stmt} : PS X st (SV X st) := ⟨fun pins s σ H D I h => by
  obtain ⟨t, p, q⟩ := h
  exact p.run pins s σ H D I q⟩
def SVs (X : Cx) (st : List Stmt) : TS := fun D σ H => ∃ t, PSs X st t ∧ t D σ H
theorem svs_pss {X : Cx} {st : List Stmt} : PSs X st (SVs X st) := ⟨fun pins s σ H D I h => by
  obtain ⟨t, p, q⟩ := h
  exact p.run pins s σ H D I q⟩

/-! ### judgements -/
def E (X : Cx) (W : List Addr) (ρ : List Cell) (f : Nat) (e : Expr) (P : D → Prop) : Prop :=
  ∀ O σ H, Sl X.K W O H σ ρ → ∀ Q : VK, (∀ v H' d, P d → Res X.K W O H f v d H' → Q v H') → EV X e σ H Q
abbrev ED (X : Cx) (W : List Addr) (ρ : List Cell) (f : Nat) (e : Expr) (d : D) : Prop := E X W ρ f e fun z => z = d
def T (X : Cx) (W : List Addr) (ρ : List Cell) (e : Expr) (P : Bool → Prop) : Prop :=
  ∀ O σ H, Sl X.K W O H σ ρ → ∀ Q : Bool → Hp → Prop, (∀ b H', P b → Ex (hid W H) (hid W H') → WOk W H' → Q b H') → TV X e σ H Q
abbrev TD (X : Cx) (W : List Addr) (ρ : List Cell) (e : Expr) (b : Bool) : Prop := T X W ρ e fun z => z = b
def Tw (X : Cx) (W : List Addr) (ρ : List Cell) (e : Expr) (P : Bool → Prop) : Prop :=
  ∀ O σ H, Sl X.K W O H σ ρ → ∀ Q : Bool → Hp → Prop, (∀ b H', P b → Ex (hid W H) (hid W H') → WOk W H' → Q b H') → WV X e σ H Q
def Ar (X : Cx) (W : List Addr) (ρ : List Cell) (es : List Expr) (P : List D → Prop) : Prop :=
  ∀ O σ H, Sl X.K W O H σ ρ → ∀ Q : List V → Hp → Prop, (∀ vs H' ds, P ds → DaL X.K (hid W H') vs ds → Ex (hid W H) (hid W H') → WOk W H' → Q vs H') → AV X es σ H Q
abbrev AD (X : Cx) (W : List Addr) (ρ : List Cell) (es : List Expr) (ds : List D) : Prop := Ar X W ρ es fun z => z = ds

section
variable {X : Cx} {W : List Addr} {ρ : List Cell} {f f1 f2 f3 : Nat} {e a b c : Expr} {es : List Expr} {P P1 P2 P3 : D → Prop} {d d1 d2 d3 : D} {pos p : Pos}

theorem E.imp (h : E X W ρ f e P) (k : ∀ d, P d → P1 d) : E X W ρ f e P1 := fun O σ H s Q q => h O σ H s Q fun v H' d p r => q v H' d (k d p) r
theorem E.low (h : E X W ρ f e P) (l : f1 ≤ f) : E X W ρ f1 e P := fun O σ H s Q q => h O σ H s Q fun v H' d p r => q v H' d p ⟨r.da, fun z => r.cl (Nat.le_trans z l), fun z => r.fr (Nat.le_trans z l), r.ex, r.wk⟩
theorem ED.eq (h : ED X W ρ f e d) (k : d = d1) : ED X W ρ f e d1 := by
  rw [← k]
  exact h
theorem T.imp {P P1 : Bool → Prop} (h : T X W ρ e P) (k : ∀ d, P d → P1 d) : T X W ρ e P1 := fun O σ H s Q q => h O σ H s Q fun v H' p r => q v H' (k v p) r
/-- what is known to be no list is clean and fresh -/
theorem E.up (h : E X W ρ f1 e P) (k : ∀ d, P d → isL d = false) : E X W ρ f e P := fun O σ H s Q q => h O σ H s Q fun v H' d p r =>
  q v H' d p (Res.of (s.mono r.ex r.wk).okk (r.da.im_of (k d p)) r.ex r.wk)

/-! ### names and constants -/
theorem e_name {x : Str} (i : Nat) (h : ρ[i]? = some (.da d)) (hf : f = 0 ∨ f = 1 ∨ isL d = false := by first | exact .inl rfl | exact .inr (.inl rfl) | exact .inr (.inr rfl)) (hN : X.N[i]? = some x := by rfl) (hv : Vis X.env.scope x := by first | exact Or.inl rfl | exact Or.inr (Or.inl rfl) | exact Or.inr (Or.inr rfl))
    (hd : (x == ("__debug__" : Str)) = false := by decide) (hcd : (x == ("__classdict__" : Str)) = false := by decide) : ED X W ρ f (.Name x pos) d := fun O σ H s Q q => by
  obtain ⟨v, h1, h2⟩ := s.at_ i _ h
  refine ⟨_, pe_var hN hv hd hcd, v, h1, q v H d rfl ?_⟩
  rcases hf with rfl | rfl | il
  · exact ⟨h2.mono (hid_app W O H), fun _ => h2, fun z => absurd z (by decide), Ex.refl _, s.wk⟩
  · exact ⟨h2.mono (hid_app W O H), fun _ => h2, fun z => absurd z (by decide), Ex.refl _, s.wk⟩
  · exact ⟨h2.mono (hid_app W O H), fun _ => h2, fun _ => Fr.im il, Ex.refl _, s.wk⟩
theorem e_own {x : Str} {ds : List D} (i : Nat) (h : ρ[i]? = some (.own ds)) (hN : X.N[i]? = some x := by rfl) (hv : Vis X.env.scope x := by first | exact Or.inl rfl | exact Or.inr (Or.inl rfl) | exact Or.inr (Or.inr rfl))
    (hd : (x == ("__debug__" : Str)) = false := by decide) (hcd : (x == ("__classdict__" : Str)) = false := by decide) : ED X W ρ 0 (.Name x pos) (.lst ds) := fun O σ H s Q q => by
  obtain ⟨a, xs, h1, h2, h3, h4⟩ := s.at_ i _ h
  refine ⟨_, pe_var hN hv hd hcd, _, h1, q _ H _ rfl ⟨.ls (by rw [hid_out (s.ok a h2).1]; exact h3) (h4.mono (hid_app W O H).tk), fun z => absurd z (by decide), fun z => absurd z (by decide), Ex.refl _, s.wk⟩⟩
theorem e_int {i : Int} {j} : ED X W ρ f (.Constant (.int i) j pos) (.int i) := fun O σ H s Q q => ⟨_, pe_int, q _ H _ rfl (Res.here s (.int i))⟩
theorem e_bl {i : Bool} {j} : ED X W ρ f (.Constant (.bool i) j pos) (.bl i) := fun O σ H s Q q => ⟨_, pe_bl, q _ H _ rfl (Res.here s (.bl i))⟩
theorem e_non {j} : ED X W ρ f (.Constant .none j pos) .non := fun O σ H s Q q => ⟨_, pe_non, q _ H _ rfl (Res.here s .non)⟩
/-- a module's tuple -/
theorem e_globT {x : Str} {xs : List V} {ds : List D} (hg : Gl X x) (h : ∃ a, X.mg x = some (.ref a) ∧ ∀ H, SqT X.K H a xs) (l : ∀ H, ImL X.K H xs ds) (hd : (x == ("__debug__" : Str)) = false := by decide) : ED X W ρ f (.Name x pos) (.tup .any ds) := fun O σ H s Q q => by
  obtain ⟨a, h1, h2⟩ := h
  exact ⟨_, pe_glob hg h1 (v := .ref a) rfl hd, q _ H _ rfl (Res.here s (.tup (h2 _) (l _)))⟩
theorem e_globI {x : Str} {i : Int} (hg : Gl X x) (h : ∃ t, X.mg x = some (.int i t)) (hd : (x == ("__debug__" : Str)) = false := by decide) : ED X W ρ f (.Name x pos) (.int i) := fun O σ H s Q q => by
  obtain ⟨t, h1⟩ := h
  exact ⟨_, pe_glob hg h1 (v := .int i) ⟨t, rfl⟩ hd, q _ H _ rfl (Res.here s (.int i))⟩

/-! ### operators -/
/-- what an operator does with two data -/
def OpD (X : Cx) (W : List Addr) (r : R2) (d1 d2 : D) (f : Nat) (P : D → Prop) : Prop :=
  ∀ (x y : V) O σ H ρ, Da X.K (hid W H) x d1 → Da X.K (hid W H) y d2 → Sl X.K W O H σ ρ → ∀ Q : VK, (∀ v H' d, P d → Res X.K W O H f v d H' → Q v H') → r x y H Q
theorem e_op {op : Operator} {r : R2} (ho : OpR X (binaryOp op) r) (ha : E X W ρ 0 a P1) (hb : E X W ρ 0 b P2) (h : ∀ d1 d2, P1 d1 → P2 d2 → OpD X W r d1 d2 f P) : E X W ρ f (.BinOp a op b pos) P := fun O σ H s Q q => by
  refine ⟨_, pe_op ho ev_pe ev_pe, ?_⟩
  refine ha O σ H s _ fun x H1 d1 p1 r1 => ?_
  have s1 := s.mono r1.ex r1.wk
  refine hb O σ H1 s1 _ fun y H2 d2 p2 r2 => ?_
  exact h d1 d2 p1 p2 x y O σ H2 ρ (r1.da.mono r2.ex) r2.da (s1.mono r2.ex r2.wk) Q fun v H3 d p r => q v H3 d p (r.later (r1.ex.trans r2.ex) r2.wk)
theorem e_opD {op : Operator} {r : R2} (ho : OpR X (binaryOp op) r) (ha : ED X W ρ 0 a d1) (hb : ED X W ρ 0 b d2) (h : OpD X W r d1 d2 f P) : E X W ρ f (.BinOp a op b pos) P :=
  e_op ho ha hb fun _ _ p1 p2 => by
    rw [p1, p2]
    exact h
theorem e_cmp {op : CmpOp} {r : R2} (ho : OpR X (compareOp op) r) (ha : E X W ρ 0 a P1) (hb : E X W ρ 0 b P2) (h : ∀ d1 d2, P1 d1 → P2 d2 → OpD X W r d1 d2 f P) (hm : behindInMarks op b = false := by first | exact nomark _ | rfl) : E X W ρ f (.Compare a [op] [b] pos) P := fun O σ H s Q q => by
  refine ⟨_, pe_cmpR ho ev_pe ev_pe hm, ?_⟩
  refine ha O σ H s _ fun x H1 d1 p1 r1 => ?_
  have s1 := s.mono r1.ex r1.wk
  refine hb O σ H1 s1 _ fun y H2 d2 p2 r2 => ?_
  exact h d1 d2 p1 p2 x y O σ H2 ρ (r1.da.mono r2.ex) r2.da (s1.mono r2.ex r2.wk) Q fun v H3 d p r => q v H3 d p (r.later (r1.ex.trans r2.ex) r2.wk)
theorem e_cmpD {op : CmpOp} {r : R2} (ho : OpR X (compareOp op) r) (ha : ED X W ρ 0 a d1) (hb : ED X W ρ 0 b d2) (h : OpD X W r d1 d2 f P) (hm : behindInMarks op b = false := by first | exact nomark _ | rfl) : E X W ρ f (.Compare a [op] [b] pos) P :=
  e_cmp ho ha hb (fun _ _ p1 p2 => by
    rw [p1, p2]
    exact h) hm
theorem t_cmp {op : CmpOp} {r : R2} {P : Bool → Prop} (ho : OpR X (compareOp op) r) (ha : E X W ρ 0 a P1) (hb : E X W ρ 0 b P2) (h : ∀ d1 d2, P1 d1 → P2 d2 → OpD X W r d1 d2 0 fun d => ∃ k, d = .bl k ∧ P k) (hm : behindInMarks op b = false := by first | exact nomark _ | rfl) : T X W ρ (.Compare a [op] [b] pos) P := fun O σ H s Q q => by
  refine ⟨_, pt_cmpR ho ev_pe ev_pe hm, ?_⟩
  refine ha O σ H s _ fun x H1 d1 p1 r1 => ?_
  have s1 := s.mono r1.ex r1.wk
  refine hb O σ H1 s1 _ fun y H2 d2 p2 r2 => ?_
  refine h d1 d2 p1 p2 x y O σ H2 ρ (r1.da.mono r2.ex) r2.da (s1.mono r2.ex r2.wk) _ fun v H3 d p r => ?_
  obtain ⟨k, rfl, pk⟩ := p
  exact ⟨k, r.da.bl_inv, q k H3 pk ((r1.ex.trans r2.ex).trans r.ex) r.wk⟩
theorem t_cmpD {op : CmpOp} {r : R2} {k : Bool} (ho : OpR X (compareOp op) r) (ha : ED X W ρ 0 a d1) (hb : ED X W ρ 0 b d2) (h : OpD X W r d1 d2 0 fun z => z = .bl k) (hm : behindInMarks op b = false := by first | exact nomark _ | rfl) : TD X W ρ (.Compare a [op] [b] pos) k :=
  t_cmp ho ha hb (fun _ _ p1 p2 => by
    rw [p1, p2]
    exact fun x y O σ H ρ hx hy s Q q => h x y O σ H ρ hx hy s Q fun v H' d p r => q v H' d ⟨k, p, rfl⟩ r) hm
/-- ints -/
theorem od_I0 {g : Int → Int → V} {h : Int → Int → D} {i j : Int} (hg : ∀ K H, Im K H (g i j) (h i j)) : OpD X W (rI0 g) (.int i) (.int j) f fun z => z = h i j := fun x y O σ H ρ hx hy s Q q =>
  ⟨i, j, hx.int_inv, hy.int_inv, q _ H _ rfl (Res.here s (hg _ _))⟩
theorem od_I {C : Int → Int → Prop} {g : Int → Int → V} {h : Int → Int → D} {i j : Int} (hg : ∀ K H, Im K H (g i j) (h i j)) (hc : C i j) : OpD X W (rI C g) (.int i) (.int j) f fun z => z = h i j := fun x y O σ H ρ hx hy s Q q =>
  ⟨i, j, hx.int_inv, hy.int_inv, hc, q _ H _ rfl (Res.here s (hg _ _))⟩
variable {i j : Int}
theorem e_add (ha : ED X W ρ 0 a (.int i)) (hb : ED X W ρ 0 b (.int j)) : ED X W ρ f (.BinOp a .Add b pos) (.int (i + j)) := e_opD op_add ha hb (od_I0 (h := fun i j => .int (i + j)) fun _ _ => .int _)
theorem e_sub (ha : ED X W ρ 0 a (.int i)) (hb : ED X W ρ 0 b (.int j)) : ED X W ρ f (.BinOp a .Sub b pos) (.int (i - j)) := e_opD op_sub ha hb (od_I0 (h := fun i j => .int (i - j)) fun _ _ => .int _)
theorem e_mulW (ha : ED X W ρ 0 a (.int i)) (hb : ED X W ρ 0 b (.int j)) (hc : CMulW i j) : ED X W ρ f (.BinOp a .Mult b pos) (.int (i * j)) := e_opD op_mulW ha hb (od_I (h := fun i j => .int (i * j)) (fun _ _ => .int _) hc)
theorem e_mul (ha : ED X W ρ 0 a (.int i)) (hb : ED X W ρ 0 b (.int j)) (hc : CMul i j) : ED X W ρ f (.BinOp a .Mult b pos) (.int (i * j)) := e_opD op_mul ha hb (od_I (h := fun i j => .int (i * j)) (fun _ _ => .int _) hc)
theorem e_fdivW (ha : ED X W ρ 0 a (.int i)) (hb : ED X W ρ 0 b (.int j)) (hc : CDivW i j) : ED X W ρ f (.BinOp a .FloorDiv b pos) (.int (i / j)) := e_opD op_fdivW ha hb (od_I (h := fun i j => .int (i / j)) (fun _ _ => .int _) hc)
theorem e_fdivN (ha : ED X W ρ 0 a (.int i)) (hb : ED X W ρ 0 b (.int j)) (hc : CDivN i j) : ED X W ρ f (.BinOp a .FloorDiv b pos) (.int (i.fdiv j)) := e_opD op_fdivN ha hb (od_I (h := fun i j => .int (i.fdiv j)) (fun _ _ => .int _) hc)
theorem e_mod (ha : ED X W ρ 0 a (.int i)) (hb : ED X W ρ 0 b (.int j)) (hc : 0 < j) : ED X W ρ f (.BinOp a .Mod b pos) (.int (i % j)) := e_opD op_mod ha hb (od_I (h := fun i j => .int (i % j)) (fun _ _ => .int _) hc)
theorem e_pow (ha : ED X W ρ 0 a (.int i)) (hb : ED X W ρ 0 b (.int j)) (hc : CPow i j) : ED X W ρ f (.BinOp a .Pow b pos) (.int (i ^ j.toNat)) := e_opD op_pow ha hb (od_I (h := fun i j => .int (i ^ j.toNat)) (fun _ _ => .int _) hc)
/-- comparisons of ints, by the operator's datum -/
theorem od_lt : OpD X W (rI0 fun i j => .bl (decide (i < j))) (.int i) (.int j) f fun z => z = .bl (decide (i < j)) := od_I0 (h := fun i j => .bl (decide (i < j))) fun _ _ => .bl _
theorem od_le : OpD X W (rI0 fun i j => .bl (decide (i ≤ j))) (.int i) (.int j) f fun z => z = .bl (decide (i ≤ j)) := od_I0 (h := fun i j => .bl (decide (i ≤ j))) fun _ _ => .bl _
theorem od_gt : OpD X W (rI0 fun i j => .bl (decide (j < i))) (.int i) (.int j) f fun z => z = .bl (decide (j < i)) := od_I0 (h := fun i j => .bl (decide (j < i))) fun _ _ => .bl _
theorem od_ge : OpD X W (rI0 fun i j => .bl (decide (j ≤ i))) (.int i) (.int j) f fun z => z = .bl (decide (j ≤ i)) := od_I0 (h := fun i j => .bl (decide (j ≤ i))) fun _ _ => .bl _
theorem scal_of {K : PySem.W.Frag} {H : Hp} {x y : V} {d1 d2 : D} : True := trivial
/-- == and != of data -/
theorem od_eq (h1 : SeqAt.shaped (er d1) = true) (h2 : SeqAt.shaped (er d2) = true) : OpD X W (rEqD X.K) d1 d2 f fun z => z = .bl (PyData.eqv (er d1) (er d2)) := fun x y O σ H ρ hx hy s Q q =>
  ⟨er d1, er d2, (hx.mono (hid_le W H)).dp, (hy.mono (hid_le W H)).dp, h1, h2, q _ H _ rfl (Res.here s (.bl _))⟩
theorem od_ne (h1 : SeqAt.shaped (er d1) = true) (h2 : SeqAt.shaped (er d2) = true) : OpD X W (rNeD X.K) d1 d2 f fun z => z = .bl (!PyData.eqv (er d1) (er d2)) := fun x y O σ H ρ hx hy s Q q =>
  ⟨er d1, er d2, (hx.mono (hid_le W H)).dp, (hy.mono (hid_le W H)).dp, h1, h2, q _ H _ rfl (Res.here s (.bl _))⟩
/-- is None -/
def isN : D → Bool
  | .non => true
  | _ => false
theorem Da.isN {K : PySem.W.Frag} {H : Hp} {v : V} {d : D} (h : Da K H v d) : decide (v = V.non) = isN d := by
  cases h with
  | im h => cases h <;> simp [K19.isN]
  | ls h l => simp [K19.isN]
theorem od_isN : OpD X W (fun x y H Q => y = .non ∧ Q (.bl (decide (x = .non))) H) d .non f fun z => z = .bl (isN d) := fun x y O σ H ρ hx hy s Q q =>
  ⟨hy.non_inv, by
    rw [hx.isN]
    exact q _ H _ rfl (Res.here s (.bl _))⟩
theorem flat_map_int (ns : List Int) : (ns.map V.int).all flatV = true := by
  rw [List.all_map]
  exact List.all_eq_true.mpr fun _ _ => rfl
theorem inV_ints (x : Int) (ns : List Int) : inV (.int x) (ns.map V.int) = ns.any fun y => y == x := by
  unfold inV
  rw [List.any_map]
  rfl
/-- x in a tuple of ints, a list of ints -/
theorem od_inT {m : Mk} {ns : List Int} : OpD X W (rIn X.K false) (.int i) (.tup m (ns.map .int)) f fun z => z = .bl (ns.any fun y => y == i) := fun x y O σ H ρ hx hy s Q q => by
  obtain ⟨a, xs, rfl, h1, h2⟩ := (hy.mono (hid_le W H)).tup_inv
  have e := h2.ints
  subst e
  refine ⟨a, _, rfl, .inr h1.sq, ?_, flat_map_int ns, ?_⟩
  · rw [hx.int_inv]
    rfl
  · rw [hx.int_inv, inV_ints]
    exact q _ H _ rfl (Res.here s (.bl _))
theorem od_ninL {ns : List Int} : OpD X W (rIn X.K true) (.int i) (.lst (ns.map .int)) f fun z => z = .bl (!ns.any fun y => y == i) := fun x y O σ H ρ hx hy s Q q => by
  obtain ⟨a, xs, rfl, h1, h2⟩ := (hy.mono (hid_le W H)).ls_inv
  have e := h2.ints
  subst e
  refine ⟨a, _, rfl, .inl (SqL.of h1), ?_, flat_map_int ns, ?_⟩
  · rw [hx.int_inv]
    rfl
  · rw [hx.int_inv, inV_ints]
    exact q _ H _ rfl (Res.here s (.bl _))
/-- tuples of ints in order -/
theorem od_ltT {m1 m2 : Mk} {ns ms : List Int} : OpD X W (rLtT X.K) (.tup m1 (ns.map .int)) (.tup m2 (ms.map .int)) f fun z => z = .bl (HT.lexLt ns ms) := fun x y O σ H ρ hx hy s Q q => by
  obtain ⟨a, xs, rfl, h1, h2⟩ := (hx.mono (hid_le W H)).tup_inv
  obtain ⟨b, ys, rfl, h3, h4⟩ := (hy.mono (hid_le W H)).tup_inv
  have e := h2.ints
  subst e
  have e := h4.ints
  subst e
  exact ⟨a, b, ns, ms, rfl, rfl, h1.sq, h3.sq, q _ H _ rfl (Res.here s (.bl _))⟩

/-! ### tests -/
theorem t_val {P : Bool → Prop} (h : E X W ρ 0 e fun d => ∃ k, d = .bl k ∧ P k) (he : ∀ whole, isTrue e X.env whole = (do let v ← whole; standAt e.pos; holding [v] (truthy v)) := by intro _; rfl) : T X W ρ e P := fun O σ H s Q q => by
  refine ⟨_, pt_val ev_pe he, h O σ H s _ fun v H1 d p r => ?_⟩
  obtain ⟨k, rfl, pk⟩ := p
  exact ⟨k, r.da.bl_inv, q k H1 pk r.ex r.wk⟩
theorem t_valD {k : Bool} (h : ED X W ρ 0 e (.bl k)) (he : ∀ whole, isTrue e X.env whole = (do let v ← whole; standAt e.pos; holding [v] (truthy v)) := by intro _; rfl) : TD X W ρ e k := t_val (h.imp fun d p => ⟨k, p, rfl⟩) he
theorem t_of {P : Bool → Prop} (h : Tw X W ρ e P) : T X W ρ e P := fun O σ H s Q q => by
  obtain ⟨t, p, r⟩ := h O σ H s Q q
  exact ⟨t, p.pt, r⟩
variable {rest : List Expr}
theorem tw_and1 {P : Bool → Prop} (h : T X W ρ a P) : Tw X W ρ (.BoolOp .And [a] pos) P := fun O σ H s Q q => ⟨_, pw_and1 tv_pt, h O σ H s Q q⟩
theorem tw_or1 {P : Bool → Prop} (h : T X W ρ a P) : Tw X W ρ (.BoolOp .Or [a] pos) P := fun O σ H s Q q => ⟨_, pw_or1 tv_pt, h O σ H s Q q⟩
theorem tw_and {P P' : Bool → Prop} (ha : T X W ρ a P) (hb : P true → Tw X W ρ (.BoolOp .And (b :: rest) pos) P') (hf : P false → P' false) : Tw X W ρ (.BoolOp .And (a :: b :: rest) pos) P' := fun O σ H s Q q => by
  refine ⟨_, pw_and tv_pt wv_pw, ha O σ H s _ fun k H1 p e1 w1 => ?_⟩
  cases k with
  | true =>
    show WV X _ σ H1 Q
    exact hb p O σ H1 (s.mono e1 w1) Q fun b H2 p2 e2 w2 => q b H2 p2 (e1.trans e2) w2
  | false =>
    show Q false H1
    exact q false H1 (hf p) e1 w1
theorem tw_or {P P' : Bool → Prop} (ha : T X W ρ a P) (hb : P false → Tw X W ρ (.BoolOp .Or (b :: rest) pos) P') (hf : P true → P' true) : Tw X W ρ (.BoolOp .Or (a :: b :: rest) pos) P' := fun O σ H s Q q => by
  refine ⟨_, pw_or tv_pt wv_pw, ha O σ H s _ fun k H1 p e1 w1 => ?_⟩
  cases k with
  | false =>
    show WV X _ σ H1 Q
    exact hb p O σ H1 (s.mono e1 w1) Q fun b H2 p2 e2 w2 => q b H2 p2 (e1.trans e2) w2
  | true =>
    show Q true H1
    exact q true H1 (hf p) e1 w1
theorem tw_andD {k l : Bool} (ha : TD X W ρ a k) (hb : k = true → Tw X W ρ (.BoolOp .And (b :: rest) pos) fun z => z = l) : Tw X W ρ (.BoolOp .And (a :: b :: rest) pos) fun z => z = (k && l) :=
  tw_and ha (fun p => by
    have e : k = true := p.symm
    subst e
    exact hb rfl) fun p => by
    have e : k = false := p.symm
    subst e
    rfl
theorem tw_orD {k l : Bool} (ha : TD X W ρ a k) (hb : k = false → Tw X W ρ (.BoolOp .Or (b :: rest) pos) fun z => z = l) : Tw X W ρ (.BoolOp .Or (a :: b :: rest) pos) fun z => z = (k || l) :=
  tw_or ha (fun p => by
    have e : k = false := p.symm
    subst e
    exact hb rfl) fun p => by
    have e : k = true := p.symm
    subst e
    rfl
theorem t_not {P : Bool → Prop} (h : T X W ρ a fun k => P (!k)) : T X W ρ (.UnaryOp .Not a pos) P := fun O σ H s Q q => ⟨_, pt_not tv_pt, h O σ H s _ fun k H1 p e1 w1 => q _ H1 p e1 w1⟩
theorem t_notD {k : Bool} (h : TD X W ρ a k) : TD X W ρ (.UnaryOp .Not a pos) (!k) := t_not (h.imp fun z p => by rw [p])
/-- and, or, not as values -/
theorem e_one {op} (h : E X W ρ f a P) : E X W ρ f (.BoolOp op [a] pos) P := fun O σ H s Q q => ⟨_, pe_one ev_pe, h O σ H s Q q⟩
theorem e_and {k l : Bool} (ha : ED X W ρ 0 a (.bl k)) (hb : k = true → ED X W ρ 0 (.BoolOp .And (b :: rest) pos) (.bl l)) : ED X W ρ f (.BoolOp .And (a :: b :: rest) pos) (.bl (k && l)) := fun O σ H s Q q => by
  refine ⟨_, pe_and ev_pe ev_pe, ha O σ H s _ fun x H1 d p r => ?_⟩
  subst p
  refine ⟨k, r.da.bl_inv, ?_⟩
  cases k with
  | true =>
    show EV X _ σ H1 Q
    exact hb rfl O σ H1 (s.mono r.ex r.wk) Q fun v H2 d2 p2 r2 => q v H2 d2 (by rw [p2]; rfl) (Res.of ((s.mono r.ex r.wk).mono r2.ex r2.wk).okk (r2.da.im_of (by rw [p2]; rfl)) (r.ex.trans r2.ex) r2.wk)
  | false => exact q _ H1 _ rfl (Res.of (s.mono r.ex r.wk).okk (.bl false) r.ex r.wk)
theorem e_or {k l : Bool} (ha : ED X W ρ 0 a (.bl k)) (hb : k = false → ED X W ρ 0 (.BoolOp .Or (b :: rest) pos) (.bl l)) : ED X W ρ f (.BoolOp .Or (a :: b :: rest) pos) (.bl (k || l)) := fun O σ H s Q q => by
  refine ⟨_, pe_or ev_pe ev_pe, ha O σ H s _ fun x H1 d p r => ?_⟩
  subst p
  refine ⟨k, r.da.bl_inv, ?_⟩
  cases k with
  | false =>
    show EV X _ σ H1 Q
    exact hb rfl O σ H1 (s.mono r.ex r.wk) Q fun v H2 d2 p2 r2 => q v H2 d2 (by rw [p2]; rfl) (Res.of ((s.mono r.ex r.wk).mono r2.ex r2.wk).okk (r2.da.im_of (by rw [p2]; rfl)) (r.ex.trans r2.ex) r2.wk)
  | true => exact q _ H1 _ rfl (Res.of (s.mono r.ex r.wk).okk (.bl true) r.ex r.wk)
theorem e_not {k : Bool} (h : ED X W ρ 0 a (.bl k)) : ED X W ρ f (.UnaryOp .Not a pos) (.bl (!k)) := fun O σ H s Q q => by
  refine ⟨_, pe_not ev_pe, h O σ H s _ fun x H1 d p r => ?_⟩
  subst p
  exact ⟨k, r.da.bl_inv, q _ H1 _ rfl (Res.of (s.mono r.ex r.wk).okk (.bl _) r.ex r.wk)⟩
/-- a if c else b -/
theorem e_if {k : Bool} (hc : TD X W ρ c k) (ha : k = true → E X W ρ f a P) (hb : k = false → E X W ρ f b P) : E X W ρ f (.IfExp c a b pos) P := fun O σ H s Q q => by
  refine ⟨_, pe_ifExp tv_pt ev_pe ev_pe, hc O σ H s _ fun l H1 p e1 w1 => ?_⟩
  subst p
  cases l with
  | true =>
    show EV X a σ H1 Q
    exact ha rfl O σ H1 (s.mono e1 w1) Q fun v H2 d p r => q v H2 d p (r.later e1 w1)
  | false =>
    show EV X b σ H1 Q
    exact hb rfl O σ H1 (s.mono e1 w1) Q fun v H2 d p r => q v H2 d p (r.later e1 w1)
/-- the test's answer unknown -/
theorem e_ifN {P' : Bool → Prop} (hc : T X W ρ c P') (ha : P' true → E X W ρ f a P) (hb : P' false → E X W ρ f b P) : E X W ρ f (.IfExp c a b pos) P := fun O σ H s Q q => by
  refine ⟨_, pe_ifExp tv_pt ev_pe ev_pe, hc O σ H s _ fun l H1 p e1 w1 => ?_⟩
  cases l with
  | true =>
    show EV X a σ H1 Q
    exact ha p O σ H1 (s.mono e1 w1) Q fun v H2 d p r => q v H2 d p (r.later e1 w1)
  | false =>
    show EV X b σ H1 Q
    exact hb p O σ H1 (s.mono e1 w1) Q fun v H2 d p r => q v H2 d p (r.later e1 w1)

/-! ### arguments, displays -/
theorem a_nil : AD X W ρ [] [] := fun O σ H s Q q => ⟨_, pa_nil, q [] H [] rfl .nil (Ex.refl _) s.wk⟩
theorem a_cons {Pl : List D → Prop} {Pr : List D → Prop} (ha : E X W ρ 0 e P) (hr : Ar X W ρ es Pl) (h : ∀ d ds, P d → Pl ds → Pr (d :: ds)) (hs : starEach (e :: es) X.env = (false, eval e X.env) :: starEach es X.env := by rfl) : Ar X W ρ (e :: es) Pr := fun O σ H s Q q => by
  refine ⟨_, pa_cons ev_pe av_pa hs, ha O σ H s _ fun x H1 d p r => ?_⟩
  exact hr O σ H1 (s.mono r.ex r.wk) _ fun vs H2 ds p2 r2 e2 w2 => q _ H2 _ (h d ds p p2) (.cons (r.da.mono e2) r2) (r.ex.trans e2) w2
theorem ad_cons {ds : List D} (ha : ED X W ρ 0 e d) (hr : AD X W ρ es ds) (hs : starEach (e :: es) X.env = (false, eval e X.env) :: starEach es X.env := by rfl) : AD X W ρ (e :: es) (d :: ds) :=
  a_cons ha hr (fun _ _ p1 p2 => by rw [p1, p2]) hs
def noL (ds : List D) : Bool := ds.all fun d => !isL d
theorem DaL.im {K : PySem.W.Frag} {H : Hp} : ∀ {vs : List V} {ds : List D}, DaL K H vs ds → noL ds = true → ImL K H vs ds
  | _, _, .nil, _ => .nil
  | _, _, .cons h l, e => by
    unfold noL at e
    rw [List.all_cons, Bool.and_eq_true] at e
    exact .cons (h.im_of (by simpa using e.1)) (DaL.im l e.2)
theorem DaL.len {K : PySem.W.Frag} {H : Hp} : ∀ {vs : List V} {ds : List D}, DaL K H vs ds → vs.length = ds.length := DaL.length
/-- a written tuple: a key's form -/
theorem e_tup {x1} {ds : List D} (h : AD X W ρ es ds) (n : noL ds = true := by rfl) (z : ds.length ≤ 1000 := by exact Nat.le_of_ble_eq_true rfl) : ED X W ρ f (.Tuple es x1 pos) (.tup .key ds) := fun O σ H s Q q => by
  refine ⟨_, pe_tup av_pa, h O σ H s _ fun vs H1 ds1 p l e1 w1 => ?_⟩
  subst p
  refine ⟨by rw [l.length]; exact Nat.le_trans z (by decide), fun p np => ?_⟩
  exact q _ _ _ rfl ((Res.tup (s.mono e1 w1) np (l.im n)).later e1 w1)
/-- a written tuple as a lot -/
theorem pe_tupF {t : TA} {x1} (h : PA X es t) : PE X (.Tuple es x1 pos) (fun σ H Q => t σ H fun xs H1 => xs.length ≤ sizeLine ∧ ∀ (p : Addr) (o : Obj), o.dict = none → o.cls = .type "tuple" → H1 p = none → Q (.ref p) (upd H1 p (.frz o (.tup xs)))) := by
  refine ⟨fun pins s σ H Q I hq => ?_⟩
  refine wpAny_Tuple_spliced (thn (h.run pos pins s σ H _ I hq) fun us s1 ⟨xs, H1, I1, r, z, q⟩ => ⟨by rw [← r.length]; exact z, ?_⟩)
  have hf : H1 s1.heap.objs.size = none := I1.hok.fresh (Nat.le_refl _)
  refine ⟨.ref s1.heap.objs.size, upd H1 s1.heap.objs.size (.frz { cls := .type "tuple", data := .seq us.toArray } (.tup xs)), I1.laid (t' := s1.toks) (fun b u e => Heap.get?_push_of_some _ e) (Nat.le_refl _) ?_, rfl, q _ _ rfl rfl hf⟩
  exact ⟨Heap.get?_push_size _ rfl, z, us, r, ⟨_, Heap.get?_push_size _ rfl, rfl, _, rfl⟩⟩
theorem e_tupF {x1} {ds : List D} (h : AD X W ρ es ds) (n : noL ds = true := by rfl) (z : ds.length ≤ 1000 := by exact Nat.le_of_ble_eq_true rfl) : ED X W ρ f (.Tuple es x1 pos) (.tup .lot ds) := fun O σ H s Q q => by
  refine ⟨_, pe_tupF av_pa, h O σ H s _ fun vs H1 ds1 p l e1 w1 => ?_⟩
  subst p
  refine ⟨by rw [l.length]; exact Nat.le_trans z (by decide), fun p o hd hc np => ?_⟩
  exact q _ _ _ rfl ((Res.lot (s.mono e1 w1) np (l.im n) hd hc).later e1 w1)
/-- .. its items told by a word -/
theorem e_tupN {x1} {Pl : List D → Prop} (h : Ar X W ρ es Pl) (n : ∀ ds, Pl ds → noL ds = true ∧ ds.length ≤ 1000 ∧ P (.tup .key ds)) : E X W ρ f (.Tuple es x1 pos) P := fun O σ H s Q q => by
  refine ⟨_, pe_tup av_pa, h O σ H s _ fun vs H1 ds1 p l e1 w1 => ?_⟩
  obtain ⟨n1, z, pp⟩ := n ds1 p
  refine ⟨by rw [l.length]; exact Nat.le_trans z (by decide), fun p np => ?_⟩
  exact q _ _ _ pp ((Res.tup (s.mono e1 w1) np (l.im n1)).later e1 w1)
theorem e_lst {ds : List D} (h : AD X W ρ es ds) (n : noL ds = true := by rfl) (z : ds.length ≤ 1000 := by exact Nat.le_of_ble_eq_true rfl) : ED X W ρ f (.List es pos) (.lst ds) := fun O σ H s Q q => by
  refine ⟨_, pe_lst av_pa, h O σ H s _ fun vs H1 ds1 p l e1 w1 => ?_⟩
  subst p
  refine ⟨by rw [l.length]; exact Nat.le_trans z (by decide), fun p np => ?_⟩
  exact q _ _ _ rfl ((Res.lst (s.mono e1 w1) np (l.im n)).later e1 w1)
end
end K19
end

section
set_option Elab.async false
set_option linter.all false
set_option maxRecDepth 100000
set_option maxHeartbeats 4000000
namespace K19
open PySem PySem.Spec PyProof.Rows L2

section
variable {X : Cx} {W : List Addr} {ρ : List Cell} {f f1 f2 f3 : Nat} {e a b c : Expr} {es : List Expr} {P P1 P2 P3 : D → Prop} {d d1 d2 d3 : D} {pos p : Pos} {i j : Int}

/-! ### items -/
theorem ImL.atI {K : PySem.W.Frag} {H : Hp} {vs : List V} {ds : List D} {i : Int} {d : D} (l : ImL K H vs ds) (h : L2.atI ds i = some d) : ∃ v, L2.atI vs i = some v ∧ Im K H v d := by
  unfold L2.atI at *
  rw [l.length]
  cases e : ixN ds.length i with
  | none =>
    rw [e] at h
    cases h
  | some j =>
    rw [e] at h
    exact l.get h
theorem atI_at {ds : List D} {n : Nat} {d : D} (h : ds[n]? = some d) : L2.atI ds (n : Int) = some d := atI_nat h
theorem e_ixTN {m : Mk} {ds : List D} (ha : ED X W ρ 0 a (.tup m ds)) (hb : E X W ρ 0 b P2) (h : ∀ d, P2 d → ∃ i, d = .int i ∧ ∃ d', L2.atI ds i = some d' ∧ P d') (hs : PlainIx b := by exact fun _ _ => rfl) : E X W ρ f (.Subscript a b pos) P := fun O σ H s Q q => by
  refine ⟨_, pe_ix ix_tup ev_pe ev_pe hs, ha O σ H s _ fun x H1 d1 p1 r1 => ?_⟩
  subst p1
  have s1 := s.mono r1.ex r1.wk
  refine hb O σ H1 s1 _ fun y H2 d2 p2 r2 => ?_
  obtain ⟨i, rfl, d', g, pd⟩ := h d2 p2
  obtain ⟨t, xs, rfl, t1, t2⟩ := (r1.da.mono r2.ex).tup_inv
  obtain ⟨v, g1, g2⟩ := t2.atI g
  have s2 := s1.mono r2.ex r2.wk
  exact ⟨t, xs, i, v, rfl, r2.da.int_inv, (t1.sq |> fun z => (TupAt.sq (m := .any) ((hid_le W H2).tk _ _ .any z))), g1, q v H2 d' pd (Res.of s2.okk g2 (r1.ex.trans r2.ex) r2.wk)⟩
theorem e_ixT {m : Mk} {ds : List D} (ha : ED X W ρ 0 a (.tup m ds)) (hb : ED X W ρ 0 b (.int i)) (h : L2.atI ds i = some d) (hs : PlainIx b := by exact fun _ _ => rfl) : ED X W ρ f (.Subscript a b pos) d :=
  e_ixTN ha hb (fun z p => ⟨i, p, d, h, rfl⟩) hs
theorem e_ixLN {ds : List D} (ha : ED X W ρ 0 a (.lst ds)) (hb : E X W ρ 0 b P2) (h : ∀ d, P2 d → ∃ i, d = .int i ∧ ∃ d', L2.atI ds i = some d' ∧ P d') (hs : PlainIx b := by exact fun _ _ => rfl) : E X W ρ f (.Subscript a b pos) P := fun O σ H s Q q => by
  refine ⟨_, pe_ix ix_list ev_pe ev_pe hs, ha O σ H s _ fun x H1 d1 p1 r1 => ?_⟩
  subst p1
  have s1 := s.mono r1.ex r1.wk
  refine hb O σ H1 s1 _ fun y H2 d2 p2 r2 => ?_
  obtain ⟨i, rfl, d', g, pd⟩ := h d2 p2
  obtain ⟨t, xs, rfl, t1, t2⟩ := (r1.da.mono r2.ex).ls_inv
  obtain ⟨v, g1, g2⟩ := t2.atI g
  have s2 := s1.mono r2.ex r2.wk
  exact ⟨t, xs, i, v, rfl, r2.da.int_inv, SqL.of (hid_some t1).2, g1, q v H2 d' pd (Res.of s2.okk g2 (r1.ex.trans r2.ex) r2.wk)⟩
theorem e_ixL {ds : List D} (ha : ED X W ρ 0 a (.lst ds)) (hb : ED X W ρ 0 b (.int i)) (h : L2.atI ds i = some d) (hs : PlainIx b := by exact fun _ _ => rfl) : ED X W ρ f (.Subscript a b pos) d :=
  e_ixLN ha hb (fun z p => ⟨i, p, d, h, rfl⟩) hs

/-! ### slices -/
theorem cut_from1 (xs : List V) : cutV xs (some 1) none = xs.drop 1 := by
  unfold cutV
  rw [show HT.sIx xs.length 0 (some 1) = min 1 xs.length from HT.sIx_nat xs.length 0 1, HT.sIx_none]
  cases xs with
  | nil => rfl
  | cons x r =>
    rw [show min 1 (x :: r).length = 1 by
      rw [List.length_cons]
      omega]
    show (List.take ((x :: r).length - 1) r) = r
    rw [List.length_cons, Nat.add_sub_cancel]
    exact List.take_length
theorem cut_to (xs : List V) (k : Nat) : cutV xs none (some (k : Int)) = xs.take k := by
  unfold cutV
  rw [HT.sIx_none, HT.sIx_nat, List.drop_zero, Nat.sub_zero]
  by_cases h : k ≤ xs.length
  · rw [Nat.min_eq_left h]
  · rw [Nat.min_eq_right (by omega), List.take_length, List.take_of_length_le (by omega)]
/-- t[1:] -/
theorem e_tail {m : Mk} {ds : List D} {k p1 p2} (ha : ED X W ρ 0 a (.tup m ds)) : ED X W ρ f (.Subscript a (.Slice (some (.Constant (.int 1) k p1)) none none p2) pos) (.tup .any (ds.drop 1)) := fun O σ H s Q q => by
  refine ⟨_, pe_slice sl_tupA ev_pe (po_some pe_int) po_none, ha O σ H s _ fun x H1 d1 pp r1 => ?_⟩
  subst pp
  obtain ⟨t, xs, rfl, t1, t2⟩ := r1.da.tup_inv
  have s1 := s.mono r1.ex r1.wk
  have sq : SqT X.K H1 t xs := (hid_le W H1).tk _ _ .any t1.sq
  refine ⟨1, rfl, t, xs, rfl, sq, fun w => ?_, fun w p np => ?_⟩
  · have h1 : HT.sIx xs.length 0 (some 1) = min 1 xs.length := HT.sIx_nat xs.length 0 1
    rw [h1] at w
    have z : xs = [] := List.length_eq_zero_iff.mp (by omega)
    subst z
    have z2 : ds = [] := List.length_eq_zero_iff.mp t2.length.symm
    subst z2
    exact q _ H1 _ rfl (Res.of s1.okk (.tup t1.sq .nil) r1.ex r1.wk)
  · rw [cut_from1]
    have r2 := Res.tup (f := f) s1 np (t2.drop 1)
    have r3 := r2.later r1.ex r1.wk
    refine q _ _ _ rfl (Res.of (s1.mono (hid_new np) (wok_upd s1.wk np)).okk ?_ r3.ex r3.wk)
    cases r3.da.im_of rfl with
    | tup h l => exact .tup h.sq l
/-- xs[:k] -/
theorem e_front {ds : List D} {p2} (ha : ED X W ρ 0 a (.lst ds)) (hb : E X W ρ 0 b P2) (h : ∀ d, P2 d → ∃ k : Nat, d = .int (k : Int) ∧ P (.lst (ds.take k))) : E X W ρ f (.Subscript a (.Slice none (some b) none p2) pos) P := fun O σ H s Q q => by
  refine ⟨_, pe_slice sl_list ev_pe po_none (po_some ev_pe), ha O σ H s _ fun x H1 d1 pp r1 => ?_⟩
  subst pp
  have s1 := s.mono r1.ex r1.wk
  refine hb O σ H1 s1 _ fun y H2 d2 p2 r2 => ?_
  obtain ⟨k, rfl, pd⟩ := h d2 p2
  obtain ⟨t, xs, rfl, t1, t2⟩ := (r1.da.mono r2.ex).ls_inv
  have s2 := s1.mono r2.ex r2.wk
  refine ⟨k, r2.da.int_inv, t, xs, rfl, SqL.of (hid_some t1).2, fun p np => ?_⟩
  rw [cut_to]
  exact q _ _ _ pd ((Res.lst s2 np (t2.take k)).later (r1.ex.trans r2.ex) r2.wk)

/-! ### tuples, lists joined -/
theorem od_catT {m : Mk} {xs ys : List D} (h0 : ys ≠ []) (hz : xs.length + ys.length ≤ 100000) : OpD X W (rCatA X.K) (.tup m xs) (.tup .key ys) f fun z => z = .tup .key (xs ++ ys) := fun x y O σ H ρ hx hy s Q q => by
  obtain ⟨a, vs, rfl, h1, h2⟩ := hx.tup_inv
  obtain ⟨b, us, rfl, h3, h4⟩ := hy.tup_inv
  have g1 : SqT X.K H a vs := (hid_le W H).tk _ _ .any h1.sq
  have g3 : SqT X.K H b us := (hid_le W H).tk _ _ .any h3.sq
  refine ⟨a, b, vs, us, rfl, rfl, g1, g3, ?_, fun e => ?_, fun _ e => ?_, fun _ _ p np => ?_⟩
  · rw [h2.length, h4.length]
    exact Nat.le_trans hz (by decide)
  · subst e
    have z2 : xs = [] := List.length_eq_zero_iff.mp h2.length.symm
    subst z2
    exact q _ H _ rfl (Res.here s (.tup h3 h4))
  · subst e
    exact absurd (List.length_eq_zero_iff.mp h4.length.symm) h0
  · exact q _ _ _ rfl (Res.tup s np (h2.append h4))
theorem e_catT {m : Mk} {xs ys : List D} (ha : ED X W ρ 0 a (.tup m xs)) (hb : ED X W ρ 0 b (.tup .key ys)) (h0 : ys ≠ []) (hz : xs.length + ys.length ≤ 100000) : ED X W ρ f (.BinOp a .Add b pos) (.tup .key (xs ++ ys)) := e_opD op_catA ha hb (od_catT h0 hz)
theorem od_catL {xs ys : List D} (hz : xs.length + ys.length ≤ 100000) : OpD X W rCat (.lst xs) (.lst ys) f fun z => z = .lst (xs ++ ys) := fun x y O σ H ρ hx hy s Q q => by
  obtain ⟨a, vs, rfl, h1, h2⟩ := hx.ls_inv
  obtain ⟨b, us, rfl, h3, h4⟩ := hy.ls_inv
  refine ⟨a, b, vs, us, rfl, rfl, (hid_some h1).2, (hid_some h3).2, ?_, fun p np => ?_⟩
  · rw [h2.length, h4.length]
    exact Nat.le_trans hz (by decide)
  · exact q _ _ _ rfl (Res.lst s np (h2.append h4))
theorem e_catL {xs ys : List D} (ha : ED X W ρ 0 a (.lst xs)) (hb : ED X W ρ 0 b (.lst ys)) (hz : xs.length + ys.length ≤ 100000) : ED X W ρ f (.BinOp a .Add b pos) (.lst (xs ++ ys)) := e_opD op_cat ha hb (od_catL hz)
theorem ImL.rep {K : PySem.W.Frag} {H : Hp} {v : V} {d : D} (h : Im K H v d) : ∀ k : Nat, ImL K H (List.replicate k [v]).flatten (List.replicate k d)
  | 0 => .nil
  | k + 1 => by
    rw [List.replicate_succ, List.replicate_succ, List.flatten_cons]
    exact .cons h (ImL.rep h k)
/-- [d] * k -/
theorem e_rep {k : Nat} (ha : ED X W ρ 0 a (.lst [d])) (hb : ED X W ρ 0 b (.int (k : Int))) (hz : k ≤ 100000) : ED X W ρ f (.BinOp a .Mult b pos) (.lst (List.replicate k d)) :=
  e_opD op_rep ha hb fun x y O σ H ρ hx hy s Q q => by
    obtain ⟨l, vs, rfl, h1, h2⟩ := hx.ls_inv
    cases h2 with
    | cons h t =>
      cases t
      refine ⟨l, (k : Int), _, rfl, hy.int_inv, (hid_some h1).2, by omega, by omega, ?_, fun p np => ?_⟩
      · show 1 * ((k : Int)).toNat ≤ sizeLine
        rw [Nat.one_mul, Int.toNat_natCast]
        exact Nat.le_trans hz (by decide)
      · rw [Int.toNat_natCast]
        exact q _ _ _ rfl (Res.lst s np (ImL.rep h k))

/-! ### calls of built-ins -/
def CallD (X : Cx) (W : List Addr) (r : List V → Hp → VK → Prop) (ds : List D) (f : Nat) (P : D → Prop) : Prop :=
  ∀ (vs : List V) O σ H ρ, DaL X.K (hid W H) vs ds → Sl X.K W O H σ ρ → ∀ Q : VK, (∀ v H' d, P d → Res X.K W O H f v d H' → Q v H') → r vs H Q
variable {x : Str} {bid Ty : String} {r : List V → Hp → VK → Prop} {Pl : List D → Prop} {ds : List D}
theorem e_callB (hc : CallR X (.builtin bid) r) (hg : Gl X x) (hm : X.mg x = none) (hv : bootBuiltins x = some (.builtin bid)) (ha : Ar X W ρ (e :: es) Pl) (h : ∀ ds, Pl ds → CallD X W r ds f P) (hn : x ≠ "__name__" := by decide) (hdb : (x == ("__debug__" : Str)) = false := by decide)
    (he : starEach (e :: es) X.env = (false, eval e X.env) :: starEach es X.env := by rfl) (hpl : (backTo pos (starEach es X.env)).any (·.1) = false := by rfl) : E X W ρ f (.Call (.Name x p) (e :: es) [] pos) P := fun O σ H s Q q => by
  refine ⟨_, pe_callB hc hg hm hv av_pa hn hdb he hpl, ha O σ H s _ fun vs H1 ds1 pl l e1 w1 => ?_⟩
  exact h ds1 pl vs O σ H1 ρ l (s.mono e1 w1) Q fun v H2 d pd r => q v H2 d pd (r.later e1 w1)
theorem e_callTy (hc : CallR X (.type Ty) r) (hg : Gl X x) (hm : X.mg x = none) (hv : bootBuiltins x = some (.type Ty)) (ha : Ar X W ρ (e :: es) Pl) (h : ∀ ds, Pl ds → CallD X W r ds f P) (hn : x ≠ "__name__" := by decide) (hdb : (x == ("__debug__" : Str)) = false := by decide)
    (he : starEach (e :: es) X.env = (false, eval e X.env) :: starEach es X.env := by rfl) (hpl : (backTo pos (starEach es X.env)).any (·.1) = false := by rfl) : E X W ρ f (.Call (.Name x p) (e :: es) [] pos) P := fun O σ H s Q q => by
  refine ⟨_, pe_callTy hc hg hm hv av_pa hn hdb he hpl, ha O σ H s _ fun vs H1 ds1 pl l e1 w1 => ?_⟩
  exact h ds1 pl vs O σ H1 ρ l (s.mono e1 w1) Q fun v H2 d pd r => q v H2 d pd (r.later e1 w1)
theorem e_callFn (hc : CallR X (.builtin bid) r) (hg : Gl X x) (hm : X.mg x = some (.builtin bid)) (ha : Ar X W ρ (e :: es) Pl) (h : ∀ ds, Pl ds → CallD X W r ds f P) (hdb : (x == ("__debug__" : Str)) = false := by decide)
    (he : starEach (e :: es) X.env = (false, eval e X.env) :: starEach es X.env := by rfl) (hpl : (backTo pos (starEach es X.env)).any (·.1) = false := by rfl) : E X W ρ f (.Call (.Name x p) (e :: es) [] pos) P := fun O σ H s Q q => by
  refine ⟨_, pe_callBfun hc hg hm av_pa hdb he hpl, ha O σ H s _ fun vs H1 ds1 pl l e1 w1 => ?_⟩
  exact h ds1 pl vs O σ H1 ρ l (s.mono e1 w1) Q fun v H2 d pd r => q v H2 d pd (r.later e1 w1)
/-- the module's names that are built-ins still -/
structure Gm (K : PySem.W.Frag) (mg : Str → Option Value) : Prop where
  isinstance : mg "isinstance" = none
  int : mg "int" = none
  bool : mg "bool" = none
  tuple : mg "tuple" = none
  len : mg "len" = none
  all : mg "all" = none
  any : mg "any" = none
  zip : mg "zip" = none
  range : mg "range" = none
  enumerate : mg "enumerate" = none
  abs : mg "abs" = none
  list : mg "list" = none
  sorted : mg "sorted" = none
  set : mg "set" = none
  sum : mg "sum" = none
  max : mg "max" = none
  min : mg "min" = none
  divmod : mg "divmod" = none
  repr : mg "repr" = none
  gcd : mg "gcd" = some (.builtin "math.gcd")
  most1 : ∃ t, mg "MOST_OBSERVABLES" = some (.int 6 t)
  most2 : ∃ t, mg "MOST_OUTCOMES" = some (.int 4 t)
  most3 : ∃ t, mg "MOST_GLOBAL" = some (.int 64 t)
  zero : ∃ a, mg "ZERO" = some (.ref a) ∧ ∀ H, SqT K H a [.int 0, .int 1]
  one : ∃ a, mg "ONE" = some (.ref a) ∧ ∀ H, SqT K H a [.int 1, .int 1]
variable (g : Gm X.K X.mg)
theorem DaL.one {K : PySem.W.Frag} {H : Hp} {vs : List V} {d : D} (h : DaL K H vs [d]) : ∃ v, vs = [v] ∧ Da K H v d := by
  cases h with
  | cons h t =>
    cases t
    exact ⟨_, rfl, h⟩
theorem DaL.two {K : PySem.W.Frag} {H : Hp} {vs : List V} {d e : D} (h : DaL K H vs [d, e]) : ∃ v u, vs = [v, u] ∧ Da K H v d ∧ Da K H u e := by
  cases h with
  | cons h t =>
    obtain ⟨u, rfl, k⟩ := t.one
    exact ⟨_, _, rfl, h, k⟩
theorem ad_one (ha : ED X W ρ 0 e d) (hs : starEach (e :: []) X.env = (false, eval e X.env) :: starEach [] X.env := by rfl) : AD X W ρ [e] [d] := ad_cons ha a_nil hs
theorem ar_one (ha : E X W ρ 0 e P) (hs : starEach (e :: []) X.env = (false, eval e X.env) :: starEach [] X.env := by rfl) : Ar X W ρ [e] fun ds => ∃ d, ds = [d] ∧ P d := a_cons ha a_nil (fun d ds p q => ⟨d, by rw [q], p⟩) hs
/-- how many items -/
def lenD : D → Option Nat
  | .tup _ ds => some ds.length
  | .lst ds => some ds.length
  | _ => none
include g in
theorem e_len {n : Nat} (ha : ED X W ρ 0 e d) (hl : lenD d = some n) (hg : Gl X "len" := by rfl) (he : starEach (e :: []) X.env = (false, eval e X.env) :: starEach [] X.env := by rfl) : ED X W ρ f (.Call (.Name "len" p) [e] [] pos) (.int (n : Int)) :=
  e_callB call_len_seq hg g.len PySem.boot_len (ad_one ha he) (fun ds z vs O σ H ρ l s Q q => by
    subst z
    obtain ⟨v, rfl, w1⟩ := l.one
    cases d with
    | tup m ds =>
      obtain ⟨a, xs, rfl, h1, h2⟩ := w1.tup_inv
      obtain rfl : ds.length = n := Option.some.inj hl
      refine ⟨a, xs, rfl, .inr ((hid_le W H).tk _ _ .any h1.sq), ?_⟩
      rw [h2.length]
      exact q _ H _ rfl (Res.here s (.int _))
    | lst ds =>
      obtain ⟨a, xs, rfl, h1, h2⟩ := w1.ls_inv
      obtain rfl : ds.length = n := Option.some.inj hl
      refine ⟨a, xs, rfl, .inl (SqL.of (hid_some h1).2), ?_⟩
      rw [h2.length]
      exact q _ H _ rfl (Res.here s (.int _))
    | _ => cases hl) (by decide) (by decide) he
/-- isinstance -/
def tyName : D → String
  | .non => "NoneType"
  | .bl _ => "bool"
  | .int _ => "int"
  | .str _ => "str"
  | .tup _ _ => "tuple"
  | .lst _ => "list"
theorem Da.tyx {K : PySem.W.Frag} {W : List Addr} {H : Hp} {v : V} {d : D} (h : Da K (hid W H) v d) : TyX K H v (.type (tyName d)) := by
  cases h with
  | ls h l => exact .base (.lst (hid_some h).2)
  | im h =>
    cases h with
    | non => exact .base .non
    | bl b => exact .base (.bl b)
    | int i => exact .base (.int i)
    | str x => exact .base (.str x)
    | tup h l =>
      rcases (hid_le W H).tk _ _ .any h.sq with (q | ⟨o, q⟩) | ⟨o, its, n, q1, q2, _⟩
      · exact .base (.tup q)
      · exact .fTuple q
      · exact .kTuple q1 q2
include g in
theorem e_isi {y : Str} {py} {T : String} {k : Bool} (ha : ED X W ρ 0 e d) (hk : kitB (tyName d) T = some k) (hy : X.mg y = none) (hb : bootBuiltins y = some (.type T)) (hg : Gl X "isinstance" := by rfl) (hg2 : Gl X y := by rfl)
    (he : starEach [e, .Name y py] X.env = (false, eval e X.env) :: starEach [.Name y py] X.env := by rfl) (he2 : starEach [.Name y py] X.env = (false, eval (.Name y py) X.env) :: starEach [] X.env := by rfl) (hpl : (backTo pos (starEach [.Name y py] X.env)).any (·.1) = false := by rfl) (hn : y ≠ "__name__" := by decide) (hd : (y == ("__debug__" : Str)) = false := by decide) :
    ED X W ρ f (.Call (.Name "isinstance" p) [e, .Name y py] [] pos) (.bl k) := fun O σ H s Q q => by
  refine ⟨_, pe_callB call_isi hg g.isinstance (by decide +kernel) (pa_cons ev_pe (pa_cons (pe_bltn (v := .ty T) (u := .type T) hg2 hy hb rfl hn hd) pa_nil he2) he) (by decide) (by decide) he hpl, ha O σ H s _ fun v H1 d1 p1 r1 => ?_⟩
  subst p1
  exact ⟨v, .ty T, _, .type T, k, rfl, .ty T, r1.da.tyx, kit_ty hk, q _ H1 _ rfl (Res.of (s.mono r1.ex r1.wk).okk (.bl k) r1.ex r1.wk)⟩
-- all, any of a list of truth values
include g in
theorem e_all {bs : List Bool} (hc : X.calm = true) (ha : ED X W ρ 0 e (.lst (bs.map .bl))) (hg : Gl X "all" := by rfl) (he : starEach (e :: []) X.env = (false, eval e X.env) :: starEach [] X.env := by rfl) : ED X W ρ f (.Call (.Name "all" p) [e] [] pos) (.bl (bs.all id)) :=
  e_callB (cr_all hc) hg g.all (by decide +kernel) (ad_one ha he) (fun ds z vs O σ H ρ l s Q q => by
    subst z
    obtain ⟨v, rfl, w1⟩ := l.one
    obtain ⟨a, xs, rfl, h1, h2⟩ := w1.ls_inv
    have e := h2.bls
    subst e
    exact ⟨a, bs, rfl, SqL.of (hid_some h1).2, q _ H _ rfl (Res.here s (.bl _))⟩) (by decide) (by decide) he
include g in
theorem e_any {bs : List Bool} (hc : X.calm = true) (ha : ED X W ρ 0 e (.lst (bs.map .bl))) (hg : Gl X "any" := by rfl) (he : starEach (e :: []) X.env = (false, eval e X.env) :: starEach [] X.env := by rfl) : ED X W ρ f (.Call (.Name "any" p) [e] [] pos) (.bl (bs.any id)) :=
  e_callB (cr_any hc) hg g.any (by decide +kernel) (ad_one ha he) (fun ds z vs O σ H ρ l s Q q => by
    subst z
    obtain ⟨v, rfl, w1⟩ := l.one
    obtain ⟨a, xs, rfl, h1, h2⟩ := w1.ls_inv
    have e := h2.bls
    subst e
    exact ⟨a, bs, rfl, SqL.of (hid_some h1).2, q _ H _ rfl (Res.here s (.bl _))⟩) (by decide) (by decide) he
-- tuple of a list: a key
include g in
theorem e_tuple {ds : List D} (ha : ED X W ρ 0 e (.lst ds)) (hg : Gl X "tuple" := by rfl) (he : starEach (e :: []) X.env = (false, eval e X.env) :: starEach [] X.env := by rfl) : ED X W ρ f (.Call (.Name "tuple" p) [e] [] pos) (.tup .key ds) :=
  e_callTy call_tuple_of hg g.tuple (by decide +kernel) (ad_one ha he) (fun ds z vs O σ H ρ l s Q q => by
    subst z
    obtain ⟨v, rfl, w1⟩ := l.one
    obtain ⟨a, xs, rfl, h1, h2⟩ := w1.ls_inv
    exact ⟨a, xs, rfl, .inl ⟨SqL.of (hid_some h1).2, fun t nt => q _ _ _ rfl (Res.tup s nt h2)⟩⟩) (by decide) (by decide) he
/-- .. a lot -/
theorem call_tupleF : CallR X (.type "tuple") (fun xs H Q => ∃ p ys, xs = [.ref p] ∧ SqL X.K H p ys ∧ ∀ (l : Addr) (o : Obj), o.dict = none → o.cls = .type "tuple" → H l = none → Q (.ref l) (upd H l (.frz o (.tup ys)))) := by
  intro pins s σ H xs us Q I r h
  obtain ⟨p, ys, rfl, hq, q⟩ := h
  obtain ⟨u, rfl, rx⟩ := vals1 r
  cases rx
  obtain ⟨its, r', pl, hz⟩ := I.list hq
  have hlen := r'.length
  refine call_tuple_list pl.isList (fun h' kp => ?_) (by simp only [List.size_toArray] <;> omega)
  have I1 : Inv X pins σ H { s with heap := h' } := I.kept (t' := s.toks) kp
  refine ⟨.ref h'.objs.size, upd H h'.objs.size (.frz { cls := .type "tuple", data := .seq its.toArray } (.tup ys)), I1.laid (t' := s.toks) (fun b o e => Heap.get?_push_of_some _ e) (Nat.le_refl _) ?_, rfl, q _ _ rfl rfl (I1.hok.fresh (Nat.le_refl _))⟩
  exact ⟨Heap.get?_push_size _ rfl, hz, its, r', IsTup.new _ _⟩
include g in
theorem e_tupleF {ds : List D} (ha : ED X W ρ 0 e (.lst ds)) (hg : Gl X "tuple" := by rfl) (he : starEach (e :: []) X.env = (false, eval e X.env) :: starEach [] X.env := by rfl) : ED X W ρ f (.Call (.Name "tuple" p) [e] [] pos) (.tup .lot ds) :=
  e_callTy call_tupleF hg g.tuple (by decide +kernel) (ad_one ha he) (fun ds z vs O σ H ρ l s Q q => by
    subst z
    obtain ⟨v, rfl, w1⟩ := l.one
    obtain ⟨a, xs, rfl, h1, h2⟩ := w1.ls_inv
    exact ⟨a, xs, rfl, SqL.of (hid_some h1).2, fun t o hd hc nt => q _ _ _ rfl (Res.lot s nt h2 hd hc)⟩) (by decide) (by decide) he
/-- the ints below n -/
def rgD (n : Nat) : List D := (List.range n).map fun i : Nat => .int (i : Int)
theorem imL_rg {K : PySem.W.Frag} {H : Hp} (n : Nat) : ImL K H (rgV 0 (n : Int)) (rgD n) := by
  have e : rgV 0 (n : Int) = ((List.range n).map fun i : Nat => (i : Int)).map V.int := by
    unfold rgV
    rw [Int.sub_zero, Int.toNat_natCast, List.map_map]
    refine List.map_congr_left fun i _ => ?_
    show V.int (0 + (i : Int)) = V.int (i : Int)
    rw [Int.zero_add]
  have e2 : rgD n = ((List.range n).map fun i : Nat => (i : Int)).map D.int := by
    unfold rgD
    rw [List.map_map]
    rfl
  rw [e, e2]
  exact imL_ints _
theorem rg_ok {n : Nat} (h : n ≤ 100000) : RgOk 0 (n : Int) := ⟨by decide, by decide, by omega, by omega, by omega⟩
include g in
theorem e_listRg {n : Nat} {p2 q2} (hc : X.calm = true) (ha : ED X W ρ 0 e (.int (n : Int))) (hn : n ≤ 100000) (hg : Gl X "list" := by rfl) (hg2 : Gl X "range" := by rfl) (he : starEach (e :: []) X.env = (false, eval e X.env) :: starEach [] X.env := by rfl)
    (he2 : starEach (.Call (.Name "range" p2) [e] [] q2 :: []) X.env = (false, eval (.Call (.Name "range" p2) [e] [] q2) X.env) :: starEach [] X.env := by rfl) : ED X W ρ f (.Call (.Name "list" p) [.Call (.Name "range" p2) [e] [] q2] [] pos) (.lst (rgD n)) := fun O σ H s Q q => by
  refine ⟨_, pe_listRg hc hg g.list (prg_1 hg2 g.range ev_pe he) he2, ha O σ H s _ fun v H1 d1 p1 r1 => ?_⟩
  subst p1
  exact ⟨(n : Int), r1.da.int_inv, rg_ok hn, fun t nt => q _ _ _ rfl ((Res.lst (s.mono r1.ex r1.wk) nt (imL_rg n)).later r1.ex r1.wk)⟩
theorem pe_tupRgF {te : L2.St → Hp → (Int → Int → Hp → Prop) → Prop} (hc : X.calm = true) (hg : Gl X "tuple") (hm : X.mg "tuple" = none) (he : PRg X e te) (na : starEach [e] X.env = (false, eval e X.env) :: starEach [] X.env := by rfl) :
    PE X (.Call (.Name "tuple" p) [e] [] pos) (fun σ H Q => te σ H fun a b H1 => RgOk a b ∧ ∀ (q : Addr) (o : Obj), o.dict = none → o.cls = .type "tuple" → H1 q = none → Q (.ref q) (upd H1 q (.frz o (.tup (rgV a b))))) := by
  refine ⟨fun pins s σ H Q I h => ?_⟩
  refine Call_ (ld_blt I hg hm boot_tuple (PyProof.Rows.callWith_type1 (args_cons (thn (he pins s σ H _ I h) fun x s1 ⟨r, a, b, t, u, v, H1, ex, hr, I1, ok, q⟩ => args_nil ?_) na) na))
  subst ex
  obtain ⟨b1, b2, b3, b4, b5⟩ := ok
  refine call_tuple_range (n := (b - a).toNat) (I1.ok.hd hc) hr (small_one b1 b2 b3 b4) (rangeSize_nat a b) b5 fun h' tk acc hk hi => ?_
  have I2 : Inv X pins σ H1 { s1 with heap := h', toks := tk } := I1.kept hk
  refine ⟨.ref h'.objs.size, upd H1 h'.objs.size (.frz { cls := .type "tuple", data := .seq acc } (.tup (rgV a b))), I2.laid (t' := tk) (fun c o e => Heap.get?_push_of_some _ e) (Nat.le_refl _) ?_, rfl, q _ _ rfl rfl (I2.hok.fresh (Nat.le_refl _))⟩
  refine ⟨Heap.get?_push_size _ rfl, ?_, acc.toList, vals_rg hi, ?_⟩
  · rw [rgV_length, sizeLine_eq]
    omega
  · rw [Array.toArray_toList]
    exact IsTup.new _ _
include g in
theorem e_tupRg {n : Nat} {p2 q2} (hc : X.calm = true) (ha : ED X W ρ 0 e (.int (n : Int))) (hn : n ≤ 100000) (hg : Gl X "tuple" := by rfl) (hg2 : Gl X "range" := by rfl) (he : starEach (e :: []) X.env = (false, eval e X.env) :: starEach [] X.env := by rfl)
    (he2 : starEach (.Call (.Name "range" p2) [e] [] q2 :: []) X.env = (false, eval (.Call (.Name "range" p2) [e] [] q2) X.env) :: starEach [] X.env := by rfl) : ED X W ρ f (.Call (.Name "tuple" p) [.Call (.Name "range" p2) [e] [] q2] [] pos) (.tup .lot (rgD n)) := fun O σ H s Q q => by
  refine ⟨_, pe_tupRgF hc hg g.tuple (prg_1 hg2 g.range ev_pe he) he2, ha O σ H s _ fun v H1 d1 p1 r1 => ?_⟩
  subst p1
  exact ⟨(n : Int), r1.da.int_inv, rg_ok hn, fun t o hd hc nt => q _ _ _ rfl ((Res.lot (s.mono r1.ex r1.wk) nt (imL_rg n) hd hc).later r1.ex r1.wk)⟩
include g in
theorem e_gcd (ha : ED X W ρ 0 a (.int i)) (hb : ED X W ρ 0 b (.int j)) (hg : Gl X "gcd" := by rfl) (he : starEach [a, b] X.env = (false, eval a X.env) :: starEach [b] X.env := by rfl) (he2 : starEach [b] X.env = (false, eval b X.env) :: starEach [] X.env := by rfl) (hpl : (backTo pos (starEach [b] X.env)).any (·.1) = false := by rfl) :
    ED X W ρ f (.Call (.Name "gcd" p) [a, b] [] pos) (.int ((Nat.gcd i.natAbs j.natAbs : Nat) : Int)) :=
  e_callFn cr_gcd hg g.gcd (ad_cons ha (ad_one hb he2) he) (fun ds z vs O σ H ρ l s Q q => by
    subst z
    obtain ⟨v, u, rfl, l1, l2⟩ := l.two
    exact ⟨i, j, by rw [l1.int_inv, l2.int_inv], q _ H _ rfl (Res.here s (.int _))⟩) (by decide) he hpl
include g in
theorem e_intOf (ha : ED X W ρ 0 e (.int i)) (hg : Gl X "int" := by rfl) (he : starEach (e :: []) X.env = (false, eval e X.env) :: starEach [] X.env := by rfl) : ED X W ρ f (.Call (.Name "int" p) [e] [] pos) (.int i) :=
  e_callTy call_int1 hg g.int (by decide +kernel) (ad_one ha he) (fun ds z vs O σ H ρ l s Q q => by
    subst z
    obtain ⟨v, rfl, w1⟩ := l.one
    exact .inl ⟨i, by rw [w1.int_inv], q _ H _ rfl (Res.here s (.int _))⟩) (by decide) (by decide) he
include g in
theorem e_abs (ha : ED X W ρ 0 e (.int i)) (hg : Gl X "abs" := by rfl) (he : starEach (e :: []) X.env = (false, eval e X.env) :: starEach [] X.env := by rfl) : ED X W ρ f (.Call (.Name "abs" p) [e] [] pos) (.int (if i < 0 then -i else i)) :=
  e_callB call_abs hg g.abs (by decide +kernel) (ad_one ha he) (fun ds z vs O σ H ρ l s Q q => by
    subst z
    obtain ⟨v, rfl, w1⟩ := l.one
    exact ⟨i, by rw [w1.int_inv], q _ H _ rfl (Res.here s (.int _))⟩) (by decide) (by decide) he
include g in
theorem e_max2 (hc : X.calm = true) (ha : ED X W ρ 0 a (.int i)) (hb : ED X W ρ 0 b (.int j)) (hg : Gl X "max" := by rfl) (he : starEach [a, b] X.env = (false, eval a X.env) :: starEach [b] X.env := by rfl) (he2 : starEach [b] X.env = (false, eval b X.env) :: starEach [] X.env := by rfl) (hpl : (backTo pos (starEach [b] X.env)).any (·.1) = false := by rfl) :
    ED X W ρ f (.Call (.Name "max" p) [a, b] [] pos) (.int (if j > i then j else i)) :=
  e_callB (call_max2 hc) hg g.max (by decide +kernel) (ad_cons ha (ad_one hb he2) he) (fun ds z vs O σ H ρ l s Q q => by
    subst z
    obtain ⟨v, u, rfl, l1, l2⟩ := l.two
    exact ⟨i, j, by rw [l1.int_inv, l2.int_inv], q _ H _ rfl (Res.here s (.int _))⟩) (by decide) (by decide) he hpl
include g in
theorem e_min2 (hc : X.calm = true) (ha : ED X W ρ 0 a (.int i)) (hb : ED X W ρ 0 b (.int j)) (hg : Gl X "min" := by rfl) (he : starEach [a, b] X.env = (false, eval a X.env) :: starEach [b] X.env := by rfl) (he2 : starEach [b] X.env = (false, eval b X.env) :: starEach [] X.env := by rfl) (hpl : (backTo pos (starEach [b] X.env)).any (·.1) = false := by rfl) :
    ED X W ρ f (.Call (.Name "min" p) [a, b] [] pos) (.int (if j < i then j else i)) :=
  e_callB (call_min2 hc) hg g.min (by decide +kernel) (ad_cons ha (ad_one hb he2) he) (fun ds z vs O σ H ρ l s Q q => by
    subst z
    obtain ⟨v, u, rfl, l1, l2⟩ := l.two
    exact ⟨i, j, by rw [l1.int_inv, l2.int_inv], q _ H _ rfl (Res.here s (.int _))⟩) (by decide) (by decide) he hpl
include g in
theorem e_sumL {ns : List Int} (hc : X.calm = true) (ha : ED X W ρ 0 e (.lst (ns.map .int))) (hg : Gl X "sum" := by rfl) (he : starEach (e :: []) X.env = (false, eval e X.env) :: starEach [] X.env := by rfl) : ED X W ρ f (.Call (.Name "sum" p) [e] [] pos) (.int ns.sum) :=
  e_callB (cr_sum hc) hg g.sum (by decide +kernel) (ad_one ha he) (fun ds z vs O σ H ρ l s Q q => by
    subst z
    obtain ⟨v, rfl, w1⟩ := l.one
    obtain ⟨a, xs, rfl, h1, h2⟩ := w1.ls_inv
    have e := h2.ints
    subst e
    exact ⟨a, ns, rfl, SqL.of (hid_some h1).2, q _ H _ rfl (Res.here s (.int _))⟩) (by decide) (by decide) he
-- sorted of a list of ints
include g in
theorem e_sortI {ns : List Int} (ha : E X W ρ 0 e fun d => d = .lst (ns.map .int)) (h : ∀ ns' : List Int, ns'.Perm ns → ns'.Pairwise (· ≤ ·) → P (.lst (ns'.map .int))) (hg : Gl X "sorted" := by rfl) (he : starEach (e :: []) X.env = (false, eval e X.env) :: starEach [] X.env := by rfl) : E X W ρ f (.Call (.Name "sorted" p) [e] [] pos) P :=
  e_callB cr_sortedI hg g.sorted (by decide +kernel) (ad_one ha he) (fun ds z vs O σ H ρ l s Q q => by
    subst z
    obtain ⟨v, rfl, w1⟩ := l.one
    obtain ⟨a, xs, rfl, h1, h2⟩ := w1.ls_inv
    have e := h2.ints
    subst e
    exact ⟨a, ns, rfl, SqL.of (hid_some h1).2, fun ns' t pm pw nt => q _ _ _ (h ns' pm pw) (Res.lst s nt (imL_ints ns'))⟩) (by decide) (by decide) he
end
end K19
end

section
set_option Elab.async false
set_option linter.all false
set_option maxRecDepth 100000
set_option maxHeartbeats 4000000
namespace K19
open PySem PySem.Spec PyProof.Rows L2

/-! ### zip of a list or a tuple with a list or a tuple; enumerate of a tuple -/
/-- k: a list; else a tuple -/
def SqB (K : PySem.W.Frag) (H : Hp) (a : Addr) (xs : List V) : Bool → Prop
  | true => SqL K H a xs
  | false => SqT K H a xs
def IsB (h : Heap) (a : Addr) (items : Array Value) : Bool → Prop
  | true => h.IsList a items
  | false => h.IsTuple a items
def ItB (h : Heap) (it a : Addr) (i : Nat) : Bool → Prop
  | true => h.IsListIter it a i
  | false => h.IsTupleIter it a i
def itObj (a : Addr) : Bool → Obj
  | true => { cls := .type "list_iterator", data := .fields #[.ref a, .int 0 0] }
  | false => { cls := .type "tuple_iterator", data := .fields #[.ref a, .int 0 0] }
theorem beginsB (a : Addr) (items : Array Value) (k : Bool) : Begins (.ref a) (itObj a k) fun h => IsB h a items k := by
  cases k with
  | true => exact begins_list a items
  | false => exact begins_tuple a items
theorem drawsB {prog : Program} {w : World} {A : Around} (hh : A.handled = none) (it a : Addr) (hne : a ≠ it) (items : Array Value) (k : Bool) :
    Draws prog w A it [it, a] items.size (fun i v => items[i]? = some v) (fun i h => ItB h it a i k ∧ IsB h a items k) := by
  cases k with
  | true => exact Draws.list hh it a hne items
  | false => exact Draws.tuple hh it a hne items
theorem itB_new {h : Heap} {it a : Addr} {k : Bool} (e : h.get? it = some (itObj a k)) : ItB h it a 0 k := by
  cases k with
  | true => exact ⟨_, e, rfl, rfl⟩
  | false => exact ⟨_, e, rfl, rfl⟩
theorem ItB.obj {h : Heap} {it a : Addr} {i : Nat} {k : Bool} (x : ItB h it a i k) : ∃ o, h.get? it = some o ∧ ∀ v, o.data ≠ .cell v := by
  cases k with
  | true =>
    obtain ⟨o, e, _, d⟩ := x
    exact ⟨o, e, fun v q => by rw [d] at q; cases q⟩
  | false =>
    obtain ⟨o, e, _, d⟩ := x
    exact ⟨o, e, fun v q => by rw [d] at q; cases q⟩
theorem ItB.keep {h h' : Heap} {it a : Addr} {i : Nat} {k : Bool} (x : ItB h it a i k) (e : ∀ o, h.get? it = some o → h'.get? it = some o) : ItB h' it a i k := by
  cases k with
  | true =>
    obtain ⟨o, q, c, d⟩ := x
    exact ⟨o, e o q, c, d⟩
  | false =>
    obtain ⟨o, q, c, d⟩ := x
    exact ⟨o, e o q, c, d⟩
section
variable {X : Cx} {pins : List (Addr × Obj)} {σ : L2.St} {H : Hp} {s : Shared} {a b : Addr} {xs ys : List V} {k : Bool}
theorem seqB (I : Inv X pins σ H s) (h : SqB X.K H a xs k) : ∃ its : List Value, Vals xs its ∧ IsB s.heap a its.toArray k ∧ xs.length ≤ sizeLine := by
  cases k with
  | true =>
    obtain ⟨its, r, p, z⟩ := I.list h
    exact ⟨its, r, p.isList, z⟩
  | false =>
    obtain ⟨its, r, p, z⟩ := I.tuple h
    exact ⟨its, r, p, z⟩
theorem seqB_inj (I : Inv X pins σ H s) (h : SqB X.K H a xs k) (h' : SqB X.K H a ys k) : xs = ys := by
  cases k with
  | true => exact I.list_inj h h'
  | false => exact I.tuple_inj h h'
theorem isB_lt {h : Heap} {its : Array Value} (x : IsB h a its k) : a < h.objs.size := by
  cases k with
  | true =>
    obtain ⟨o, e, _⟩ := x
    exact Heap.lt_size e
  | false =>
    obtain ⟨o, e, _⟩ := x
    exact Heap.lt_size e
end
/-- the pairs of two sequences -/
def ItzB (K : PySem.W.Frag) (k1 k2 : Bool) (a b : Addr) : It :=
  ⟨fun i H => ∃ (xs ys : List V), SqB K H a xs k1 ∧ SqB K H b ys k2 ∧ i < min xs.length ys.length,
    fun i H v H' => ∃ T x y, v = .ref T ∧ H T = none ∧ H' = upd H T (.tup [x, y]) ∧ (∀ xs, SqB K H a xs k1 → xs[i]? = some x) ∧ ∀ ys, SqB K H b ys k2 → ys[i]? = some y,
    fun i H => ∃ xs ys : List V, SqB K H a xs k1 ∧ SqB K H b ys k2 ∧ i = min xs.length ys.length⟩
def zfp (N : Nat) : List Addr := [N + 4, N + 2, N + 3, N, N + 1]
theorem turn_zipB {P : Program} {w : World} {K : PySem.W.Frag} {elts : List Expr} {kk : Nat} {tpos : Pos} {k1 k2 : Bool} {a b N : Addr} (ha : a < N) (hb : b < N) :
    Turn P w K (.Tuple elts kk tpos) (ItzB K k1 k2 a b) (zfp N) (N + 4) (fun i h => IsZip h (N + 4) (N + 2) (N + 3) .none ∧ IsTupOf2 h (N + 2) (.ref N) (.ref (N + 1)) ∧ (∃ x y, IsTupOf2 h (N + 3) x y) ∧ ItB h N a i k1 ∧ ItB h (N + 1) b i k2) := by
  have fpm : ∀ c ∈ zfp N, c = N + 4 ∨ c = N + 2 ∨ c = N + 3 ∨ c = N ∨ c = N + 1 := fun c h => by simpa [zfp] using h
  have S : ZipSep2 (N + 4) (N + 2) (N + 3) N (N + 1) (N :: [a]) ((N + 1) :: [b]) := zip_sep2 (fun c h => by rw [List.mem_singleton.mp h]; exact ha) fun c h => by rw [List.mem_singleton.mp h]; exact hb
  have hb1 : b < N + 1 := Nat.lt_succ_of_lt hb
  refine ⟨by simp [zfp], fun i h st c hc => ?_, fun i h h' st k => ?_, ?_, ?_, fun A i s Q E st h => wpAny_pyIter_zip st.1 h⟩
  · obtain ⟨hz, hTI, ⟨x, y, hTO⟩, h1, h2⟩ := st
    rcases fpm c hc with q | q | q | q | q
    · rw [q]; exact ⟨_, hz, fun v q => nomatch q⟩
    · rw [q]; exact ⟨_, hTI, fun v q => nomatch q⟩
    · rw [q]; exact ⟨_, hTO, fun v q => nomatch q⟩
    · rw [q]; exact h1.obj
    · rw [q]; exact h2.obj
  · obtain ⟨hz, hTI, ⟨x, y, hTO⟩, h1, h2⟩ := st
    exact ⟨k _ (by simp [zfp]) _ hz, k _ (by simp [zfp]) _ hTI, ⟨x, y, k _ (by simp [zfp]) _ hTO⟩, h1.keep fun o q => k _ (by simp [zfp]) o q, h2.keep fun o q => k _ (by simp [zfp]) o q⟩
  · intro X hP hw hK hc i pins s σ H E I hf st hg
    subst hP hw hK
    obtain ⟨hz, hTI, ⟨x0, y0, hTO⟩, h1, h2⟩ := st
    obtain ⟨xs, ys, hqx, hqy, hi⟩ := hg
    obtain ⟨its, rv, p1, _⟩ := seqB I hqx
    obtain ⟨its2, rv2, p2, _⟩ := seqB I hqy
    have l1 := rv.length
    have l2 := rv2.length
    have D1 := drawsB (prog := X.prog) (w := X.w) (A := X.A.in1) (I.ok.hd hc) N a (Nat.ne_of_lt ha) its.toArray k1
    have D2 := drawsB (prog := X.prog) (w := X.w) (A := X.A.in1) (I.ok.hd hc) (N + 1) b (Nat.ne_of_lt hb1) its2.toArray k2
    have W := GoesN.zip2 (elts := elts) (x1 := kk) (pos := tpos) S D1 D2
    refine W.goes i s _ _ (by simp only [List.size_toArray]; omega) ⟨hz, hTI, ⟨x0, y0, hTO⟩, ⟨h1, p1⟩, ⟨h2, p2⟩⟩ fun v h' tk hY hst hk htk => ?_
    obtain ⟨T, u, u2, rfl, hT, e1, e2, hTup⟩ := hY
    obtain ⟨z', TI', TO', ⟨i1', _⟩, ⟨i2', _⟩⟩ := hst
    have hx : xs[i]? = some (xs[i]'(by omega)) := List.getElem?_eq_getElem (by omega)
    have hy : ys[i]? = some (ys[i]'(by omega)) := List.getElem?_eq_getElem (by omega)
    obtain ⟨w1, q1, r1⟩ := rv.get hx
    obtain ⟨w2, q2, r2⟩ := rv2.get hy
    have z1 : w1 = u := by
      rw [List.getElem?_toArray, q1] at e1
      exact Option.some.inj e1
    have z2 : w2 = u2 := by
      rw [List.getElem?_toArray, q2] at e2
      exact Option.some.inj e2
    subst z1 z2
    have new : ObjOk X.prog X.w (upd H T (.tup [xs[i]'(by omega), ys[i]'(by omega)])) h' T (.tup [xs[i]'(by omega), ys[i]'(by omega)]) :=
      ⟨by show 2 ≤ sizeLine; decide, [w1, w2], .cons r1 (.cons r2 .nil), hTup⟩
    have I1 := I.turnedNew (t' := tk) (ch := zfp N) (fun c o hb q => hk c o (fun m => hb (by
      have e' : c = N + 4 ∨ c = N + 3 ∨ c = N ∨ c = N + 1 := by simpa using m
      rcases e' with q | q | q | q <;> simp [zfp, q])) q) hf hT new
    refine ⟨.ref T, _, I1, rfl, ⟨T, _, _, rfl, I.hok.fresh hT, rfl, fun l hl => by rw [seqB_inj I hl hqx]; exact hx, fun l hl => by rw [seqB_inj I hl hqy]; exact hy⟩, ⟨z', TI', TO', i1', i2'⟩, fun c hcm => ?_⟩
    have hlt : c < s.heap.objs.size := by
      rcases fpm c hcm with q | q | q | q | q
      · rw [q]; exact Heap.lt_size hz
      · rw [q]; exact Heap.lt_size hTI
      · rw [q]; exact Heap.lt_size hTO
      · rw [q]; obtain ⟨o, e, _⟩ := h1.obj; exact Heap.lt_size e
      · rw [q]; obtain ⟨o, e, _⟩ := h2.obj; exact Heap.lt_size e
    rw [upd_ne (Nat.ne_of_lt (Nat.lt_of_lt_of_le hlt hT))]
    exact (hf c hcm).1
  · intro X hP hw hK hc i pins s σ H E I hf st hg
    subst hP hw hK
    obtain ⟨hz, hTI, ⟨x0, y0, hTO⟩, h1, h2⟩ := st
    obtain ⟨xs, ys, hqx, hqy, hi⟩ := hg
    obtain ⟨its, rv, p1, _⟩ := seqB I hqx
    obtain ⟨its2, rv2, p2, _⟩ := seqB I hqy
    have l1 := rv.length
    have l2 := rv2.length
    have D1 := drawsB (prog := X.prog) (w := X.w) (A := X.A.in1) (I.ok.hd hc) N a (Nat.ne_of_lt ha) its.toArray k1
    have D2 := drawsB (prog := X.prog) (w := X.w) (A := X.A.in1) (I.ok.hd hc) (N + 1) b (Nat.ne_of_lt hb1) its2.toArray k2
    have W := GoesN.zip2 (elts := elts) (x1 := kk) (pos := tpos) S D1 D2
    have hi' : i = min its.toArray.size its2.toArray.size := by
      rw [List.size_toArray, List.size_toArray]
      omega
    subst hi'
    refine W.stops s _ _ ⟨hz, hTI, ⟨x0, y0, hTO⟩, ⟨h1, p1⟩, ⟨h2, p2⟩⟩ fun h' tk hk htk => ?_
    exact I.turnedL (t' := tk) (ch := zfp N) (fun c o hb q => hk c o (fun m => hb (by
      have e' : c = N + 4 ∨ c = N + 3 ∨ c = N ∨ c = N + 1 := by simpa using m
      rcases e' with q | q | q | q <;> simp [zfp, q])) q) hf
def iZipB (K : PySem.W.Frag) (k1 k2 : Bool) (ta : TA) : TI := fun σ H R => ta σ H fun vs H1 => ∃ a b xs ys, vs = [.ref a, .ref b] ∧ SqB K H1 a xs k1 ∧ SqB K H1 b ys k2 ∧ R (ItzB K k1 k2 a b) H1
theorem pi_zipB {X : Cx} {k1 k2 : Bool} {e e2 : Expr} {ta : TA} {p pos tpos : Pos} {elts : List Expr} {kk : Nat} (hg : Gl X "zip") (hm : X.mg "zip" = none) (ha : PA X [e, e2] ta)
    (hs : starEach [e, e2] X.env = (false, eval e X.env) :: starEach [e2] X.env := by rfl) (hpl : (backTo pos (starEach [e2] X.env)).any (·.1) = false := by rfl) :
    PI X (.Tuple elts kk tpos) (.Call (.Name "zip" p) [e, e2] [] pos) (iZipB X.K k1 k2 ta) := by
  refine ⟨fun pins s σ H R I h => ?_⟩
  refine Call_ (ld_blt I hg hm PyProof.Rows.boot_zip (PyProof.Rows.callWith_type1 (thn (ha.run pos pins s σ H _ I h) fun us s1 ⟨vs, H1, I1, r1, q1⟩ => ?_) hs hpl))
  obtain ⟨a, b, xs, ys, rfl, hqx, hqy, q⟩ := q1
  obtain ⟨u1, u2, rfl, ra, rb⟩ := vals2 r1
  cases ra
  cases rb
  obtain ⟨its, rv, p1, _⟩ := seqB I1 hqx
  obtain ⟨its2, rv2, p2, _⟩ := seqB I1 hqy
  refine zip_begins2 (beginsB a its.toArray k1) (beginsB b its2.toArray k2) p1 p2 fun h' hz hTI hTO h1 h2 hsz hk => wpAny_pyIter_zip hz ?_
  have I2 : Inv X pins σ H1 { s1 with heap := h' } := I1.kept (t' := s1.toks) hk
  refine ⟨s1.heap.objs.size + 4, zfp s1.heap.objs.size, _, _, H1, rfl, I2, turn_zipB (isB_lt p1) (isB_lt p2), ⟨hz, hTI, ⟨_, _, hTO⟩, itB_new h1, itB_new h2⟩, fun c hcm => ?_, q⟩
  have e' : c = s1.heap.objs.size + 4 ∨ c = s1.heap.objs.size + 2 ∨ c = s1.heap.objs.size + 3 ∨ c = s1.heap.objs.size ∨ c = s1.heap.objs.size + 1 := by simpa [zfp] using hcm
  have hle : s1.heap.objs.size ≤ c := by
    rcases e' with z | z | z | z | z
    · rw [z]; exact Nat.le_add_right _ _
    · rw [z]; exact Nat.le_add_right _ _
    · rw [z]; exact Nat.le_add_right _ _
    · rw [z]; exact Nat.le_refl _
    · rw [z]; exact Nat.le_add_right _ _
  exact I1.fpOk hle (I1.hok.fresh hle)

set_option maxHeartbeats 8000000 in
theorem meets_enum1 {v : Value} {o : Obj} {H : Heap → Prop} (B : Begins v o H) :
    Meets (Builtin.«enumerate.__new__» ⟨[.type "enumerate", v], []⟩) (fun _ R s => H s.heap ∧
      R (.ok (.ret (.ref (s.heap.push o).objs.size))) { s with heap := (s.heap.push o).push { cls := .type "enumerate", data := .fields #[.none, .bool false, .ref s.heap.objs.size, rawInt 0, .none, .none] } }) :=
  .of_wp fun prog w A R s h => by
    obtain ⟨hp, g, d, tk, os⟩ := s
    obtain ⟨h1, h⟩ := h
    have hsub := sub_enumerate
    have q1 : ∀ {A' : Around} {E : Value → Shared → Prop} {Q : Value → Shared → Prop}, Q (.ref hp.objs.size) ⟨hp.push o, g, d, tk, os⟩ → wpAny (model prog w) A' (pyIter v) Q E ⟨hp, g, d, tk, os⟩ :=
      fun q => B.iter prog w _ _ ⟨hp, g, d, tk, os⟩ _ h1 q
    wp_walk using q1
    refine wpAny_stack_any fun st => wpAny_pure ?_
    split
    · rename_i c _ _ _ _ _
      cases (c == Value.type "enumerate") <;> (wp_walk using q1; exact ⟨_, rfl, h⟩)
    · wp_walk using q1
      exact ⟨_, rfl, h⟩
theorem enum_begins1 {prog : Program} {w : World} {A : Around} {E : Value → Shared → Prop} {s : Shared} {v : Value} {o : Obj} {H : Heap → Prop} {Q : Value → Shared → Prop} (B : Begins v o H) (h1 : H s.heap)
    (h : ∀ h', IsEnum h' (s.heap.objs.size + 1) s.heap.objs.size 0 .none → h'.get? s.heap.objs.size = some o → (∀ b o, s.heap.get? b = some o → h'.get? b = some o) → Q (.ref (s.heap.objs.size + 1)) { s with heap := h' }) :
    wpAny (model prog w) A (call (.type "enumerate") [v]) Q E s := by
  refine callType_new F.called_enumerate (by decide) (F.typeCall_enumerate_1 _) (F.newCall_enumerate_1 _) (fun obj => F.args_object_init_2 obj _) F.entry_enumerate_new (meets_enum1 B) ⟨h1, ?_⟩
  have hz : (s.heap.push o).objs.size = s.heap.objs.size + 1 := Heap.size_push ..
  show _ ∧ _
  rw [hz]
  have he : IsEnum ((s.heap.push o).push { cls := .type "enumerate", data := .fields #[.none, .bool false, .ref s.heap.objs.size, rawInt 0, .none, .none] }) (s.heap.objs.size + 1) s.heap.objs.size 0 .none := by
    have := Heap.get?_push_size (s.heap.push o) (o := { cls := .type "enumerate", data := .fields #[.none, .bool false, .ref s.heap.objs.size, rawInt 0, .none, .none] }) rfl
    rw [hz] at this
    exact this
  exact ⟨⟨_, he, rfl⟩, h _ he (Heap.get?_push_of_some _ (Heap.get?_push_size _ B.free)) fun b o x => Heap.get?_push_of_some _ (Heap.get?_push_of_some _ x)⟩
/-- numbered items of a sequence -/
def IteB (K : PySem.W.Frag) (k : Bool) (a : Addr) : It :=
  ⟨fun i H => ∃ xs : List V, SqB K H a xs k ∧ i < xs.length, fun i H v H' => ∃ T x, v = .ref T ∧ H T = none ∧ H' = upd H T (.tup [.int (i : Nat), x]) ∧ ∀ xs, SqB K H a xs k → xs[i]? = some x, fun i H => ∃ xs : List V, SqB K H a xs k ∧ i = xs.length⟩
theorem turn_enumB {P : Program} {w : World} {K : PySem.W.Frag} {elts : List Expr} {kk : Nat} {tpos : Pos} {k : Bool} {a N : Addr} (ha : a < N) :
    Turn P w K (.Tuple elts kk tpos) (IteB K k a) [N + 1, N] (N + 1) (fun i h => (∃ old, IsEnum h (N + 1) N (0 + (i : Int)) old) ∧ ItB h N a i k) := by
  have fpm : ∀ c ∈ [N + 1, N], c = N + 1 ∨ c = N := fun c h => by simpa using h
  have nef : N + 1 ∉ [N, a] := fun m => by
    rcases List.mem_cons.mp m with q | m
    · exact Nat.succ_ne_self _ q
    · exact Nat.ne_of_gt (Nat.lt_succ_of_lt ha) (List.mem_singleton.mp m)
  refine ⟨by simp, fun i h st c hc => ?_, fun i h h' st q => ?_, ?_, ?_, fun A i s Q E st h => ?_⟩
  · obtain ⟨⟨old, he⟩, h1⟩ := st
    rcases fpm c hc with q | q
    · rw [q]; exact ⟨_, he, fun v q => nomatch q⟩
    · rw [q]; exact h1.obj
  · obtain ⟨⟨old, he⟩, h1⟩ := st
    exact ⟨⟨old, q _ (by simp) _ he⟩, h1.keep fun o z => q _ (by simp) o z⟩
  · intro X hP hw hK hc i pins s σ H E I hf st hg
    subst hP hw hK
    obtain ⟨⟨old, he⟩, h1⟩ := st
    obtain ⟨xs, hqx, hi⟩ := hg
    obtain ⟨its, rv, p1, _⟩ := seqB I hqx
    have l1 := rv.length
    have D1 := drawsB (prog := X.prog) (w := X.w) (A := X.A.in1) (I.ok.hd hc) N a (Nat.ne_of_lt ha) its.toArray k
    have W := GoesN.enumFrom (elts := elts) (x1 := kk) (pos := tpos) 0 D1 (N + 1) (Nat.succ_ne_self N) nef (List.mem_cons_self ..)
    refine W.goes i s _ _ (by simp only [List.size_toArray]; omega) ⟨⟨old, he⟩, ⟨h1, p1⟩⟩ fun v h' tk hY hst hk htk => ?_
    obtain ⟨T, t, u, rfl, hT, e1, hTup⟩ := hY
    obtain ⟨z', ⟨i1', _⟩⟩ := hst
    have hx : xs[i]? = some (xs[i]'hi) := List.getElem?_eq_getElem hi
    obtain ⟨w1, q1, r1⟩ := rv.get hx
    have z1 : w1 = u := by
      rw [List.getElem?_toArray, q1] at e1
      exact Option.some.inj e1
    subst z1
    have new : ObjOk X.prog X.w (upd H T (.tup [.int (i : Nat), xs[i]'hi])) h' T (.tup [.int (i : Nat), xs[i]'hi]) :=
      ⟨by show 2 ≤ sizeLine; decide, [.int (0 + (i : Int)) t, w1], .cons ⟨t, by rw [Int.zero_add]⟩ (.cons r1 .nil), hTup⟩
    have I1 := I.turnedNew (t' := tk) (ch := [N + 1, N]) (fun c o hb q => hk c o hb q) hf hT new
    refine ⟨.ref T, _, I1, rfl, ⟨T, _, rfl, I.hok.fresh hT, rfl, fun l hl => by rw [seqB_inj I hl hqx]; exact hx⟩, ⟨z', i1'⟩, fun c hcm => ?_⟩
    have hlt : c < s.heap.objs.size := by
      rcases fpm c hcm with q | q
      · rw [q]; exact Heap.lt_size he
      · rw [q]; obtain ⟨o, e, _⟩ := h1.obj; exact Heap.lt_size e
    rw [upd_ne (Nat.ne_of_lt (Nat.lt_of_lt_of_le hlt hT))]
    exact (hf c hcm).1
  · intro X hP hw hK hc i pins s σ H E I hf st hg
    subst hP hw hK
    obtain ⟨⟨old, he⟩, h1⟩ := st
    obtain ⟨xs, hqx, hi⟩ := hg
    obtain ⟨its, rv, p1, _⟩ := seqB I hqx
    have l1 := rv.length
    have D1 := drawsB (prog := X.prog) (w := X.w) (A := X.A.in1) (I.ok.hd hc) N a (Nat.ne_of_lt ha) its.toArray k
    have W := GoesN.enumFrom (elts := elts) (x1 := kk) (pos := tpos) 0 D1 (N + 1) (Nat.succ_ne_self N) nef (List.mem_cons_self ..)
    have hi' : i = its.toArray.size := by
      rw [List.size_toArray]
      omega
    subst hi'
    refine W.stops s _ _ ⟨⟨old, he⟩, ⟨h1, p1⟩⟩ fun h' tk hk htk => ?_
    exact I.turnedL (t' := tk) (ch := [N + 1, N]) (fun c o hb q => hk c o hb q) hf
  · obtain ⟨⟨old, he⟩, _⟩ := st
    exact wpAny_pyIter_enum he h
def iEnumB (K : PySem.W.Frag) (k : Bool) (ta : TA) : TI := fun σ H R => ta σ H fun vs H1 => ∃ a xs, vs = [.ref a] ∧ SqB K H1 a xs k ∧ R (IteB K k a) H1
theorem pi_enumB {X : Cx} {k : Bool} {e : Expr} {ta : TA} {p pos tpos : Pos} {elts : List Expr} {kk : Nat} (hg : Gl X "enumerate") (hm : X.mg "enumerate" = none) (ha : PA X [e] ta) (hs : starEach [e] X.env = (false, eval e X.env) :: starEach [] X.env := by rfl) :
    PI X (.Tuple elts kk tpos) (.Call (.Name "enumerate" p) [e] [] pos) (iEnumB X.K k ta) := by
  refine ⟨fun pins s σ H R I h => ?_⟩
  refine Call_ (ld_blt I hg hm boot_enumerate (PyProof.Rows.callWith_type1 (thn (ha.run pos pins s σ H _ I h) fun us s1 ⟨vs, H1, I1, r1, q1⟩ => ?_) hs rfl))
  obtain ⟨a, xs, rfl, hqx, q⟩ := q1
  obtain ⟨u, rfl, ra⟩ := vals1 r1
  cases ra
  obtain ⟨its, rv, p1, _⟩ := seqB I1 hqx
  refine enum_begins1 (beginsB a its.toArray k) p1 fun h' he h1 hk => wpAny_pyIter_enum he ?_
  have I2 : Inv X pins σ H1 { s1 with heap := h' } := I1.kept (t' := s1.toks) hk
  refine ⟨s1.heap.objs.size + 1, [s1.heap.objs.size + 1, s1.heap.objs.size], _, _, H1, rfl, I2, turn_enumB (isB_lt p1), ⟨⟨.none, he⟩, itB_new h1⟩, fun c hcm => ?_, q⟩
  have e' : c = s1.heap.objs.size + 1 ∨ c = s1.heap.objs.size := by simpa using hcm
  have hle : s1.heap.objs.size ≤ c := by
    rcases e' with z | z
    · rw [z]; exact Nat.le_add_right _ _
    · rw [z]; exact Nat.le_refl _
  exact I1.fpOk hle (I1.hok.fresh hle)
end K19
end

section
set_option Elab.async false
set_option linter.all false
set_option maxRecDepth 100000
set_option maxHeartbeats 4000000
namespace K19
open PySem PySem.Spec PyProof.Rows L2

/-! ### a def that may be called by its name -/
structure Fc (P : Program) (w : World) (K : PySem.W.Frag) (mg : Str → Option Value) (base : Heap) (k : Nat) (x : Str) (sp : Sp) : Prop where
  ex : ∃ (f : Addr) (fd : FuncData) (ps : List Str), FnOk P w K mg base CX0 k f fd ps sp ∧ mg x = some (.ref f) ∧ PySem.W.keepIn K (.ref f) = true ∧ Binds K fd ps []
theorem pe_fc {X : Cx} {k j : Nat} {x : Str} {sp : Sp} {p pos : Pos} {e : Expr} {es : List Expr} {t : TA} (c : Fc X.prog X.w X.K X.mg X.base k x sp) (hr : Room j X.A) (hk : k ≤ j) (hg : Gl X x) (ha : PA X (e :: es) t)
    (hdb : (x == ("__debug__" : Str)) = false) (he : starEach (e :: es) X.env = (false, eval e X.env) :: starEach es X.env) (hpl : (backTo pos (starEach es X.env)).any (·.1) = false) :
    PE X (.Call (.Name x p) (e :: es) [] pos) (tCall sp [] E0 t) := by
  obtain ⟨f, fd, ps, F, hm, kp, b⟩ := c.ex
  exact pe_call F (hr.mono hk) hg hm kp b .nil pass0 ha hdb he hpl
/-! ### what a def promises, over data -/
/-- ds gives d -/
def spD (K : PySem.W.Frag) (S : List D → D → Prop) : Sp := fun vs H Q _ => ∃ ds d, DaL K H vs ds ∧ S ds d ∧ ∀ v H', Da K H' v d → Fr H v d → Ex H H' → Q v H'
/-- a def that draws: its first argument is the well; R of what it gives -/
def spW (K : PySem.W.Frag) (S : List D → Prop) (R : List D → D → Prop) : Sp := fun vs H Q _ => ∃ wa vr ds, vs = .ref wa :: vr ∧ WOk [wa] H ∧ DaL K (hid [wa] H) vr ds ∧ S ds ∧
  ∀ v H' d, R ds d → Da K (hid [wa] H') v d → Fr H v d → Ex (hid [wa] H) (hid [wa] H') → WOk [wa] H' → Q v H'
theorem tk_hide {K : PySem.W.Frag} {O : List Addr} {H : Hp} (h : ∀ a ∈ O, ∃ o, H a = some o ∧ Sta o) : TK K H (hid O H) := by
  have t := tk_clean (K := K) (W := []) (O := O) h
  rw [hid_nil] at t
  exact t
theorem sta_all {K : PySem.W.Frag} {W O : List Addr} {H : Hp} {σ : L2.St} {ρ : List Cell} (s : Sl K W O H σ ρ) : ∀ a ∈ W ++ O, ∃ o, H a = some o ∧ Sta o := fun a m => by
  rcases List.mem_append.mp m with m | m
  · exact s.wk.some m
  · exact s.okk a m
theorem Ex.sta {O : List Addr} {H H' : Hp} (e : Ex H H') (h : ∀ a ∈ O, ∃ o, H a = some o ∧ Sta o) : ∀ a ∈ O, ∃ o, H' a = some o ∧ Sta o := fun a m => by
  obtain ⟨o, q, s⟩ := h a m
  exact ⟨o, e a o q, s⟩
theorem WOk.ex {W : List Addr} {H H' : Hp} (w : WOk W H) (e : Ex H H') : WOk W H' := fun a m => by
  obtain ⟨x, y, z, q, g⟩ := w a m
  exact ⟨x, y, z, e a _ q, g⟩
theorem Res.called {K : PySem.W.Frag} {W O : List Addr} {H H' : Hp} {f : Nat} {v : V} {d : D} {σ : L2.St} {ρ : List Cell} (s : Sl K W O H σ ρ) (h : Da K H' v d) (hf : Fr H v d) (e : Ex H H') : Res K W O H f v d H' := by
  have clean : ∀ O', (∀ a ∈ O', ∃ o, H a = some o ∧ Sta o) → Da K (hid O' H') v d := fun O' hO => by
    have hO' := e.sta hO
    cases h with
    | im h => exact .im (h.mono (tk_hide hO'))
    | ls q l =>
      rename_i a xs ds
      obtain ⟨a', e1, e2⟩ := hf _ rfl
      cases e1
      refine .ls ?_ (l.mono (tk_hide hO'))
      rw [hid_out]
      · exact q
      · intro m
        obtain ⟨o, e3, _⟩ := hO a m
        rw [e2] at e3
        cases e3
  exact ⟨clean W fun a m => s.wk.some m, fun _ => clean _ (sta_all s), fun _ => hf, hid_exH e, s.wk.ex e⟩
section
variable {X : Cx} {W : List Addr} {ρ : List Cell} {f f1 f2 f3 : Nat} {e a b c : Expr} {es : List Expr} {P P1 P2 P3 : D → Prop} {d d1 d2 d3 : D} {pos p : Pos} {i j : Int} {k l : Nat} {x : Str} {S : List D → D → Prop} {ds : List D} {Pl : List D → Prop}
theorem e_call (c : Fc X.prog X.w X.K X.mg X.base k x (spD X.K S)) (hr : Room l X.A) (ha : Ar X W ρ (e :: es) Pl) (hS : ∀ ds, Pl ds → ∃ d, S ds d ∧ P d) (hk : k ≤ l := by decide) (hg : Gl X x := by rfl)
    (hdb : (x == ("__debug__" : Str)) = false := by decide) (he : starEach (e :: es) X.env = (false, eval e X.env) :: starEach es X.env := by rfl) (hpl : (backTo pos (starEach es X.env)).any (·.1) = false := by rfl) : E X W ρ f (.Call (.Name x p) (e :: es) [] pos) P := fun O σ H s Q q => by
  refine ⟨_, pe_fc c hr hk hg av_pa hdb he hpl, ha O σ H s _ fun vs H1 ds1 pl m e1 w1 => ?_⟩
  obtain ⟨d, sd, pd⟩ := hS ds1 pl
  show spD X.K S (vs ++ []) H1 Q E0
  rw [List.append_nil]
  exact ⟨ds1, d, m.mono (hid_le W H1), sd, fun v H2 h1 h2 h3 => q v H2 d pd ((Res.called (s.mono e1 w1) h1 h2 h3).later e1 w1)⟩
theorem e_callD (c : Fc X.prog X.w X.K X.mg X.base k x (spD X.K S)) (hr : Room l X.A) (ha : AD X W ρ (e :: es) ds) (hS : S ds d) (hk : k ≤ l := by decide) (hg : Gl X x := by rfl)
    (hdb : (x == ("__debug__" : Str)) = false := by decide) (he : starEach (e :: es) X.env = (false, eval e X.env) :: starEach es X.env := by rfl) (hpl : (backTo pos (starEach es X.env)).any (·.1) = false := by rfl) : ED X W ρ f (.Call (.Name x p) (e :: es) [] pos) d :=
  e_call c hr ha (fun ds1 z => ⟨d, by rw [z]; exact hS, rfl⟩) hk hg hdb he hpl
/-- a def that draws, called with the well -/
theorem e_callW {y : Str} {py} {Sw : List D → Prop} {Rw : List D → D → Prop} (iw : Nat) (c : Fc X.prog X.w X.K X.mg X.base k x (spW X.K Sw Rw)) (hr : Room l X.A) (hw : ρ[iw]? = some .well) (ha : Ar X W ρ es Pl) (hS : ∀ ds, Pl ds → Sw ds ∧ ∀ d, Rw ds d → P d) (hk : k ≤ l := by decide) (hg : Gl X x := by rfl)
    (hN : X.N[iw]? = some y := by rfl) (hv : Vis X.env.scope y := by first | exact Or.inl rfl | exact Or.inr (Or.inl rfl) | exact Or.inr (Or.inr rfl)) (hd : (y == ("__debug__" : Str)) = false := by decide) (hcd : (y == ("__classdict__" : Str)) = false := by decide)
    (hdb : (x == ("__debug__" : Str)) = false := by decide) (he : starEach (.Name y py :: es) X.env = (false, eval (.Name y py) X.env) :: starEach es X.env := by rfl) (hpl : (backTo pos (starEach es X.env)).any (·.1) = false := by rfl) : E X W ρ 1 (.Call (.Name x p) (.Name y py :: es) [] pos) P := fun O σ H s Q q => by
  obtain ⟨wa, h1, h2⟩ := s.at_ iw _ hw
  refine ⟨_, pe_fc c hr hk hg (pa_cons (pe_var hN hv hd hcd) av_pa he) hdb he hpl, _, h1, ha O σ H s _ fun vs H1 ds1 pl m e1 w1 => ?_⟩
  obtain ⟨sw, sr⟩ := hS ds1 pl
  show spW X.K Sw Rw (.ref wa :: vs ++ []) H1 Q E0
  rw [List.append_nil]
  subst h2
  refine ⟨wa, vs, ds1, rfl, w1, m, sw, fun v H2 d rd h1 h2 h3 h4 => q v H2 d (sr d rd) ?_⟩
  have s1 := s.mono e1 w1
  refine ⟨h1, fun _ => ?_, fun z => absurd z (by decide), e1.trans h3, h4⟩
  cases h1 with
  | im h => exact .im (h.mono (tk_clean (s1.mono h3 h4).okk))
  | ls q l =>
    rename_i a xs ds
    obtain ⟨a', e1, e2⟩ := h2 _ rfl
    cases e1
    refine .ls ?_ (l.mono (tk_clean (s1.mono h3 h4).okk))
    obtain ⟨n1, q⟩ := hid_some q
    rw [hid_out]
    · exact q
    · intro m
      rcases List.mem_append.mp m with m | m
      · exact n1 m
      · obtain ⟨o, e3, _⟩ := s1.okk a m
        rw [e2] at e3
        cases e3
end

/-! ### what is walked -/
def IV (X : Cx) (tg iter : Expr) : TI := fun σ H R => ∃ wi, PI X tg iter wi ∧ wi σ H R
theorem iv_pi {X : Cx} {tg iter : Expr} : PI X tg iter (IV X tg iter) := ⟨fun pins s σ H R I h => by
  obtain ⟨t, p, q⟩ := h
  exact p.run pins s σ H R I q⟩
/-- the i-th datum comes: itself, or a new pair -/
def YD (K : PySem.W.Frag) (B : Hp) (ds : List D) : Nat → Hp → V → Hp → Prop := fun i H x H' => ∃ d, ds[i]? = some d ∧
  ((H' = H ∧ Im K B x d) ∨ ∃ T x1 x2 d1 d2, x = .ref T ∧ H T = none ∧ H' = upd H T (.tup [x1, x2]) ∧ Im K B x1 d1 ∧ Im K B x2 d2 ∧ d = .tup .key [d1, d2])
def Wk (K : PySem.W.Frag) (J : It) (B : Hp) (ds : List D) : Prop := Walk J ds.length (fun H => Ex B H) (YD K B ds)
def IT (X : Cx) (W : List Addr) (ρ : List Cell) (f : Nat) (tg iter : Expr) (P : List D → Prop) : Prop :=
  ∀ O σ H, Sl X.K W O H σ ρ → ∀ R : It → Hp → Prop, (∀ J H1 ds, P ds → Wk X.K J (hid W H1) ds → (1 ≤ f → Wk X.K J (hid (W ++ O) H1) ds) → Ex (hid W H) (hid W H1) → WOk W H1 → R J H1) → IV X tg iter σ H R
abbrev ITD (X : Cx) (W : List Addr) (ρ : List Cell) (f : Nat) (tg iter : Expr) (ds : List D) : Prop := IT X W ρ f tg iter fun z => z = ds
section
variable {X : Cx} {W : List Addr} {ρ : List Cell} {f f1 f2 f3 : Nat} {e a b c tg : Expr} {es : List Expr} {P P1 P2 P3 : D → Prop} {d d1 d2 d3 : D} {pos p : Pos} {i j : Int} {ds : List D} {Pl : List D → Prop} (g : Gm X.K X.mg)
theorem wk_list {K : PySem.W.Frag} {B : Hp} {a : Addr} {ds : List D} (h : Da K B (.ref a) (.lst ds)) : Wk K (Itl K a) B ds := by
  obtain ⟨a', xs, e, h1, h2⟩ := h.ls_inv
  cases e
  have w := walk_list (K := K) (a := a) (xs := xs)
  unfold Wk
  rw [← h2.length]
  refine w.mono (fun H e => SqL.of (e a _ h1)) fun i H x H' _ e y => ?_
  obtain ⟨y1, y2⟩ := y
  obtain ⟨d, q1, q2⟩ := h2.get' y2
  exact ⟨d, q1, .inl ⟨y1, q2⟩⟩
theorem wk_tup {K : PySem.W.Frag} {B : Hp} {a : Addr} {m : Mk} {ds : List D} (h : Da K B (.ref a) (.tup m ds)) : Wk K (Itt K a) B ds := by
  obtain ⟨a', xs, e, h1, h2⟩ := h.tup_inv
  cases e
  have w := walk_tup (K := K) (a := a) (xs := xs)
  unfold Wk
  rw [← h2.length]
  refine w.mono (fun H e => e.tk _ _ .any h1.sq) fun i H x H' _ e y => ?_
  obtain ⟨y1, y2⟩ := y
  obtain ⟨d, q1, q2⟩ := h2.get' y2
  exact ⟨d, q1, .inl ⟨y1, q2⟩⟩
theorem it_list (h : E X W ρ f e P) (k : ∀ d, P d → ∃ ds, d = .lst ds ∧ Pl ds) : IT X W ρ f tg e Pl := fun O σ H s R q => by
  refine ⟨_, pi_list ev_pe, h O σ H s _ fun v H1 d p r => ?_⟩
  obtain ⟨ds, rfl, pl⟩ := k d p
  obtain ⟨a, xs, rfl, h1, h2⟩ := r.da.ls_inv
  exact ⟨a, rfl, ⟨xs, SqL.of (hid_some h1).2⟩, q _ H1 ds pl (wk_list r.da) (fun z => wk_list (r.cl z)) r.ex r.wk⟩
theorem it_listD (h : ED X W ρ f e (.lst ds)) : ITD X W ρ f tg e ds := it_list h fun d z => ⟨ds, z, rfl⟩
theorem it_tupD {m : Mk} (h : ED X W ρ 0 e (.tup m ds)) : ITD X W ρ f tg e ds := fun O σ H s R q => by
  refine ⟨_, pi_tup ev_pe, h O σ H s _ fun v H1 d p r => ?_⟩
  subst p
  obtain ⟨a, xs, rfl, h1, h2⟩ := r.da.tup_inv
  have s1 := s.mono r.ex r.wk
  refine ⟨a, rfl, ⟨xs, (hid_le W H1).tk _ _ .any h1.sq⟩, q _ H1 ds rfl (wk_tup r.da) (fun z => wk_tup (.im ((r.da.im_of rfl).mono (tk_clean s1.okk)))) r.ex r.wk⟩
/-- lo, lo + 1, .. -/
def rgF (lo : Int) (n : Nat) : List D := (List.range n).map fun i : Nat => .int (lo + (i : Int))
theorem rgF_zero (n : Nat) : rgF 0 n = rgD n := by
  unfold rgF rgD
  refine List.map_congr_left fun i _ => ?_
  rw [Int.zero_add]
theorem wk_range {K : PySem.W.Frag} {B : Hp} {lo : Int} {n : Nat} : Wk K (Itr lo n) B (rgF lo n) := by
  unfold Wk
  have l : (rgF lo n).length = n := by
    unfold rgF
    rw [List.length_map, List.length_range]
  rw [l]
  refine (walk_range (lo := lo) (n := n)).mono (fun _ _ => trivial) fun i H x H' hi e y => ?_
  obtain ⟨y1, rfl⟩ := y
  refine ⟨.int (lo + (i : Int)), ?_, .inl ⟨y1, .int _⟩⟩
  unfold rgF
  rw [List.getElem?_map, List.getElem?_range hi]
  rfl
include g in
theorem it_range (ha : E X W ρ 0 e P) (k : ∀ d, P d → ∃ n : Nat, d = .int (n : Int) ∧ n ≤ 100000 ∧ Pl (rgD n)) (hg : Gl X "range" := by rfl) (he : starEach (e :: []) X.env = (false, eval e X.env) :: starEach [] X.env := by rfl) : IT X W ρ f tg (.Call (.Name "range" p) [e] [] pos) Pl := fun O σ H s R q => by
  refine ⟨_, pi_range1 hg g.range (pa_cons ev_pe pa_nil he) he, ha O σ H s _ fun v H1 d p r => ?_⟩
  obtain ⟨n, rfl, hn, pl⟩ := k d p
  refine ⟨(n : Int), by rw [r.da.int_inv], by omega, by omega, ?_⟩
  rw [Int.toNat_natCast]
  refine q _ H1 (rgD n) pl ?_ (fun _ => ?_) r.ex r.wk
  · rw [← rgF_zero]
    exact wk_range
  · rw [← rgF_zero]
    exact wk_range
include g in
theorem it_rangeD {n : Nat} (ha : ED X W ρ 0 e (.int (n : Int))) (hn : n ≤ 100000) (hg : Gl X "range" := by rfl) (he : starEach (e :: []) X.env = (false, eval e X.env) :: starEach [] X.env := by rfl) : ITD X W ρ f tg (.Call (.Name "range" p) [e] [] pos) (rgD n) :=
  it_range g ha (fun d z => ⟨n, z, hn, rfl⟩) hg he
include g in
theorem it_range2D (ha : ED X W ρ 0 a (.int i)) (hb : ED X W ρ 0 b (.int j)) (h1 : 0 ≤ i ∧ i ≤ 100000) (h2 : 0 ≤ j ∧ j ≤ 100000) (hg : Gl X "range" := by rfl) (he : starEach [a, b] X.env = (false, eval a X.env) :: starEach [b] X.env := by rfl) (he2 : starEach [b] X.env = (false, eval b X.env) :: starEach [] X.env := by rfl) :
    ITD X W ρ f tg (.Call (.Name "range" p) [a, b] [] pos) (rgF i (j - i).toNat) := fun O σ H s R q => by
  refine ⟨_, pi_range2 hg g.range (pa_cons ev_pe (pa_cons ev_pe pa_nil he2) he) (he.trans (congrArg _ he2)) he2, ha O σ H s _ fun v H1 d p r => ?_⟩
  subst p
  have s1 := s.mono r.ex r.wk
  refine hb O σ H1 s1 _ fun u H2 d2 p2 r2 => ?_
  subst p2
  exact ⟨i, j, by rw [r.da.int_inv, r2.da.int_inv], ⟨by omega, by omega, by omega, by omega⟩, q _ H2 _ rfl wk_range (fun _ => wk_range) (r.ex.trans r2.ex) r2.wk⟩
/-- pairs -/
def zipD (xs ys : List D) : List D := List.zipWith (fun x y => .tup .key [x, y]) xs ys
theorem wk_zip {K : PySem.W.Frag} {B : Hp} {k1 k2 : Bool} {a b : Addr} {us vs : List V} {xs ys : List D} (h1 : ∀ H, Ex B H → SqB K H a us k1) (h2 : ∀ H, Ex B H → SqB K H b vs k2) (l1 : ImL K B us xs) (l2 : ImL K B vs ys) : Wk K (ItzB K k1 k2 a b) B (zipD xs ys) := by
  unfold Wk
  have l : (zipD xs ys).length = min us.length vs.length := by
    unfold zipD
    rw [List.length_zipWith, l1.length, l2.length]
  rw [l]
  refine ⟨fun i H hi e => ⟨us, vs, h1 H e, h2 H e, hi⟩, fun H e => ⟨us, vs, h1 H e, h2 H e, rfl⟩, fun i H v H' hi e y => ?_⟩
  obtain ⟨T, x, z, rfl, n, eH, q1, q2⟩ := y
  obtain ⟨d1, e1, i1⟩ := l1.get' (q1 us (h1 H e))
  obtain ⟨d2, e2, i2⟩ := l2.get' (q2 vs (h2 H e))
  refine ⟨.tup .key [d1, d2], ?_, .inr ⟨T, x, z, d1, d2, rfl, n, eH, i1, i2, rfl⟩⟩
  unfold zipD
  rw [List.getElem?_zipWith, e1, e2]
/-- a sequence's items -/
def itemsD : D → Option (List D × Bool)
  | .tup _ ds => some (ds, false)
  | .lst ds => some (ds, true)
  | _ => none
theorem Da.seq {K : PySem.W.Frag} {B : Hp} {v : V} {d : D} {xs : List D} {k : Bool} (h : Da K B v d) (e : itemsD d = some (xs, k)) : ∃ a us, v = .ref a ∧ (∀ H, Ex B H → SqB K H a us k) ∧ ImL K B us xs := by
  cases d with
  | tup m ds =>
    cases e
    obtain ⟨a, us, rfl, h1, h2⟩ := h.tup_inv
    exact ⟨a, us, rfl, fun H q => q.tk _ _ .any h1.sq, h2⟩
  | lst ds =>
    cases e
    obtain ⟨a, us, rfl, h1, h2⟩ := h.ls_inv
    exact ⟨a, us, rfl, fun H q => SqL.of (q a _ h1), h2⟩
  | _ => cases e
include g in
theorem it_zip {elts : List Expr} {kk : Nat} {tpos : Pos} {xs ys : List D} {k1 k2 : Bool} (ha : ED X W ρ f a d1) (hb : ED X W ρ f b d2) (e1 : itemsD d1 = some (xs, k1)) (e2 : itemsD d2 = some (ys, k2)) (hg : Gl X "zip" := by rfl) (he : starEach [a, b] X.env = (false, eval a X.env) :: starEach [b] X.env := by rfl)
    (he2 : starEach [b] X.env = (false, eval b X.env) :: starEach [] X.env := by rfl) (hpl : (backTo pos (starEach [b] X.env)).any (·.1) = false := by rfl) : ITD X W ρ f (.Tuple elts kk tpos) (.Call (.Name "zip" p) [a, b] [] pos) (zipD xs ys) := fun O σ H s R q => by
  refine ⟨_, pi_zipB (k1 := k1) (k2 := k2) hg g.zip (pa_cons ev_pe (pa_cons ev_pe pa_nil he2) he) he hpl, ha O σ H s _ fun v H1 d p r => ?_⟩
  subst p
  have s1 := s.mono r.ex r.wk
  refine hb O σ H1 s1 _ fun u H2 d' p2 r2 => ?_
  subst p2
  obtain ⟨v1, us, rfl, a1, a2⟩ := (r.da.mono r2.ex).seq e1
  obtain ⟨v2, vs, rfl, b1, b2⟩ := r2.da.seq e2
  refine ⟨v1, v2, us, vs, rfl, a1 _ (hid_le W H2), b1 _ (hid_le W H2), q _ H2 _ rfl (wk_zip a1 b1 a2 b2) (fun z => ?_) (r.ex.trans r2.ex) r2.wk⟩
  obtain ⟨v1', us', q1, a1, a2⟩ := ((r.cl z).mono (hid_ex r2.ex O)).seq e1
  obtain ⟨v2', vs', q2, b1, b2⟩ := (r2.cl z).seq e2
  cases q1
  cases q2
  exact wk_zip a1 b1 a2 b2
def enumD (xs : List D) : List D := zipD (rgD xs.length) xs
theorem wk_enum {K : PySem.W.Frag} {B : Hp} {k : Bool} {a : Addr} {us : List V} {xs : List D} (h1 : ∀ H, Ex B H → SqB K H a us k) (l1 : ImL K B us xs) : Wk K (IteB K k a) B (enumD xs) := by
  unfold Wk
  have l : (enumD xs).length = us.length := by
    unfold enumD zipD rgD
    rw [List.length_zipWith, List.length_map, List.length_range, l1.length, Nat.min_self]
  rw [l]
  refine ⟨fun i H hi e => ⟨us, h1 H e, hi⟩, fun H e => ⟨us, h1 H e, rfl⟩, fun i H v H' hi e y => ?_⟩
  obtain ⟨T, x, rfl, n, eH, q1⟩ := y
  obtain ⟨d1, e1, i1⟩ := l1.get' (q1 us (h1 H e))
  refine ⟨.tup .key [.int (i : Int), d1], ?_, .inr ⟨T, .int (i : Nat), x, .int (i : Int), d1, rfl, n, eH, .int _, i1, rfl⟩⟩
  unfold enumD zipD rgD
  rw [List.getElem?_zipWith, List.getElem?_map, List.getElem?_range (by rw [← l1.length]; exact hi), e1]
  rfl
include g in
theorem it_enum {elts : List Expr} {kk : Nat} {tpos : Pos} {xs : List D} {k1 : Bool} (ha : ED X W ρ f a d1) (e1 : itemsD d1 = some (xs, k1)) (hg : Gl X "enumerate" := by rfl) (he : starEach (a :: []) X.env = (false, eval a X.env) :: starEach [] X.env := by rfl) : ITD X W ρ f (.Tuple elts kk tpos) (.Call (.Name "enumerate" p) [a] [] pos) (enumD xs) := fun O σ H s R q => by
  refine ⟨_, pi_enumB (k := k1) hg g.enumerate (pa_cons ev_pe pa_nil he) he, ha O σ H s _ fun v H1 d p r => ?_⟩
  subst p
  obtain ⟨v1, us, rfl, a1, a2⟩ := r.da.seq e1
  refine ⟨v1, us, rfl, a1 _ (hid_le W H1), q _ H1 _ rfl (wk_enum a1 a2) (fun z => ?_) r.ex r.wk⟩
  obtain ⟨v1', us', q1, a1, a2⟩ := (r.cl z).seq e1
  cases q1
  exact wk_enum a1 a2
end

/-! ### targets -/
inductive Tgt where
  | nm (j : Nat)
  | pr (j1 j2 : Nat)
def Tgt.g (K : PySem.W.Frag) : Tgt → TG
  | .nm j => gName j
  | .pr j1 j2 => gTup K 2 (gCons (gName j1) (gCons (gName j2) gNil))
/-- where a datum goes -/
def Tgt.put : Tgt → D → List Cell → List Cell
  | .nm j, d, ρ => ρ.set j (.da d)
  | .pr j1 j2, .tup _ [d1, d2], ρ => (ρ.set j1 (.da d1)).set j2 (.da d2)
  | .pr _ _, _, ρ => ρ
def Tgt.fits : Tgt → D → Bool
  | .nm _, d => !isL d
  | .pr _ _, .tup _ [_, _] => true
  | .pr _ _, _ => false
def Tgt.js : Tgt → List Nat
  | .nm j => [j]
  | .pr j1 j2 => [j1, j2]
theorem Sl.set {K : PySem.W.Frag} {W O : List Addr} {H : Hp} {σ : L2.St} {ρ : List Cell} (s : Sl K W O H σ ρ) {v : V} {d : D} (h : Da K (hid (W ++ O) H) v d) (j : Nat) : Sl K W O H (σ.set j (some v)) (ρ.set j (.da d)) := by
  have hl := s.len
  refine ⟨fun i c e => ?_, s.wk, s.ok, by simpa using hl⟩
  by_cases hj : j = i
  · subst hj
    by_cases lt : j < ρ.length
    · rw [List.getElem?_set_self lt] at e
      cases e
      rw [List.getElem?_set_self (by rw [hl]; exact lt)]
      exact ⟨v, rfl, h⟩
    · rw [List.getElem?_eq_none (by simpa using lt)] at e
      cases e
  · rw [List.getElem?_set_ne hj] at e
    rw [List.getElem?_set_ne hj]
    exact s.at_ i c e
theorem TK.trans {K : PySem.W.Frag} {H H1 H2 : Hp} (a : TK K H H1) (b : TK K H1 H2) : TK K H H2 := fun x xs m h => b x xs m (a x xs m h)
theorem tgt_ok {K : PySem.W.Frag} {W O : List Addr} {H H' : Hp} {σ : L2.St} {ρ : List Cell} {t : Tgt} {x : V} {B : Hp} {Q : L2.St → Hp → Prop} {i : Nat} {ds : List D} (s : Sl K W O H σ ρ) (y : YD K B ds i H x H') (hB : TK K B (hid (W ++ O) H)) (hf : ∀ d ∈ ds, t.fits d = true)
    (q : ∀ σ' H' d, ds[i]? = some d → Sl K W O H' σ' (t.put d ρ) → Ex H H' → (∀ js : List Nat, (∀ j ∈ t.js, j ∈ js) → wipe σ' js = wipe σ js) → (∀ j, j ∉ t.js → σ'[j]? = σ[j]?) → Q σ' H') (wp : ∀ (σ : L2.St) (j : Nat) (v : V) (js : List Nat), j ∈ js → wipe (σ.set j (some v)) js = wipe σ js) : t.g K x σ H' Q := by
  obtain ⟨d, e, y⟩ := y
  have fit := hf d (List.mem_of_getElem? e)
  cases t with
  | nm j =>
    show Q (σ.set j (some x)) H'
    rcases y with ⟨rfl, im⟩ | ⟨T, x1, x2, d1, d2, rfl, n, rfl, i1, i2, rfl⟩
    · exact q _ _ d e (s.set (.im (im.mono hB)) j) (Ex.refl _) (fun js hj => wp σ j x js (hj j (by simp [Tgt.js]))) fun k hk => List.getElem?_set_ne fun z => hk (by simp [Tgt.js, z])
    · have ex : Ex (hid W H) (hid W (upd H T (.tup [x1, x2]))) := hid_new n
      have s1 := s.mono ex (wok_upd s.wk n)
      have r := Res.tup (f := 1) s n ((ImL.cons (i1.mono hB) (ImL.cons (i2.mono hB) .nil)).mono (hid_app W O H).tk)
      exact q _ _ _ e (s1.set (r.cl (by decide)) j) (Ex.new n) (fun js hj => wp σ j _ js (hj j (by simp [Tgt.js]))) fun k hk => List.getElem?_set_ne fun z => hk (by simp [Tgt.js, z])
  | pr j1 j2 =>
    have fin : ∀ (T : Addr) (x1 x2 : V) (m : Mk) (d1 d2 : D), d = .tup m [d1, d2] → SqT K H' T [x1, x2] → x = .ref T → Sl K W O H' σ ρ → Ex H H' → Im K B x1 d1 → Im K B x2 d2 → TK K B (hid (W ++ O) H') → (Tgt.pr j1 j2).g K x σ H' Q := fun T x1 x2 m d1 d2 ed sq ex s' eH i1 i2 hB' => by
      subst ed
      subst ex
      refine ⟨T, [x1, x2], rfl, sq, rfl, x1, [x2], rfl, x2, [], rfl, rfl, ?_⟩
      refine q _ _ _ e ((s'.set (.im (i1.mono hB')) j1).set (.im (i2.mono hB')) j2) eH (fun js hj => ?_) fun k hk => ?_
      · rw [wp _ j2 x2 js (hj j2 (by simp [Tgt.js])), wp _ j1 x1 js (hj j1 (by simp [Tgt.js]))]
      · rw [List.getElem?_set_ne fun z => hk (by simp [Tgt.js, z]), List.getElem?_set_ne fun z => hk (by simp [Tgt.js, z])]
    rcases y with ⟨rfl, im⟩ | ⟨T, x1, x2, d1, d2, rfl, n, rfl, i1, i2, rfl⟩
    · cases im with
      | tup h l =>
        rename_i a m xs es
        cases l with
        | nil => cases fit
        | cons h1 l1 =>
          cases l1 with
          | nil => cases fit
          | cons h2 l2 =>
            cases l2 with
            | nil => exact fin a _ _ m _ _ rfl ((hB.trans (hid_le _ _).tk) _ _ .any h.sq) rfl s (Ex.refl _) h1 h2 hB
            | cons _ _ => cases fit
      | _ => cases fit
    · have ex : Ex (hid W H) (hid W (upd H T (.tup [x1, x2]))) := hid_new n
      have s1 := s.mono ex (wok_upd s.wk n)
      exact fin T x1 x2 .key d1 d2 rfl (.inl (.inl upd_same)) rfl s1 (Ex.new n) i1 i2 (hB.trans (hid_exH (Ex.new n)).tk)
theorem wipe_set : ∀ (σ : L2.St) (j : Nat) (v : V) (js : List Nat), j ∈ js → wipe (σ.set j (some v)) js = wipe σ js
  | σ, j, v, [], h => by cases h
  | σ, j, v, k :: js, h => by
    unfold wipe
    by_cases e : j ∈ js
    · rw [wipe_set σ j v js e]
    · have e2 : j = k := by
        rcases List.mem_cons.mp h with q | q
        · exact q
        · exact absurd q e
      subst e2
      have com : ∀ (σ : L2.St) (js : List Nat), j ∉ js → wipe (σ.set j (some v)) js = (wipe σ js).set j (some v) := by
        intro σ js
        induction js with
        | nil => intro _; rfl
        | cons k js ih =>
          intro hn
          unfold wipe
          rw [ih fun m => hn (List.mem_cons_of_mem _ m), List.set_comm _ _ fun q => hn (by rw [q]; exact List.mem_cons_self ..)]
      rw [com σ js e, List.set_set]
theorem wipe_at (σ : L2.St) (i : Nat) : ∀ vs : List Nat, (wipe σ vs)[i]? = if i ∈ vs then (σ[i]?).map (fun _ => none) else σ[i]?
  | [] => rfl
  | v :: vs => by
    unfold wipe
    have ih := wipe_at σ i vs
    by_cases e : v = i
    · subst e
      rw [if_pos (List.mem_cons_self ..), List.getElem?_set]
      rw [if_pos rfl, wipe_length]
      by_cases lt : v < σ.length
      · rw [if_pos lt, List.getElem?_eq_getElem lt]
        rfl
      · rw [if_neg lt, List.getElem?_eq_none (by omega)]
        rfl
    · rw [List.getElem?_set_ne e, ih]
      by_cases m : i ∈ vs
      · rw [if_pos m, if_pos (List.mem_cons_of_mem _ m)]
      · rw [if_neg m, if_neg]
        intro q
        rcases List.mem_cons.mp q with q | q
        · exact e q.symm
        · exact m q
theorem wipe_wipe (σ : L2.St) (vs : List Nat) : wipe (wipe σ vs) vs = wipe σ vs := by
  apply List.ext_getElem?
  intro i
  rw [wipe_at, wipe_at]
  by_cases m : i ∈ vs
  · rw [if_pos m, if_pos m]
    cases σ[i]? <;> rfl
  · rw [if_neg m, if_neg m]
def wipeC (ρ : List Cell) : List Nat → List Cell
  | [] => ρ
  | v :: vs => (wipeC ρ vs).set v .un
theorem wipeC_length (ρ : List Cell) : ∀ vs : List Nat, (wipeC ρ vs).length = ρ.length
  | [] => rfl
  | v :: vs => by
    unfold wipeC
    rw [List.length_set, wipeC_length ρ vs]
theorem Sl.wipe {K : PySem.W.Frag} {W O : List Addr} {H : Hp} {σ : L2.St} {ρ : List Cell} (s : Sl K W O H σ ρ) : ∀ vs : List Nat, Sl K W O H (L2.wipe σ vs) (wipeC ρ vs)
  | [] => s
  | v :: vs => by
    have s1 := Sl.wipe s vs
    unfold L2.wipe wipeC
    refine ⟨fun i c e => ?_, s.wk, s.ok, by simpa using s1.len⟩
    by_cases hj : v = i
    · subst hj
      by_cases lt : v < (wipeC ρ vs).length
      · rw [List.getElem?_set_self lt] at e
        cases e
        trivial
      · rw [List.getElem?_eq_none (by simpa using lt)] at e
        cases e
    · rw [List.getElem?_set_ne hj] at e
      rw [List.getElem?_set_ne hj]
      exact s1.at_ i c e
end K19
end

section
set_option Elab.async false
set_option linter.all false
set_option maxRecDepth 100000
set_option maxHeartbeats 4000000
namespace K19
open PySem PySem.Spec PyProof.Rows L2

/-! ### comprehensions -/
theorem tk_lst {K : PySem.W.Frag} {H : Hp} {l : Addr} {xs ys : List V} (h : H l = some (.lst xs)) : TK K H (upd H l (.lst ys)) := fun a zs m q => by
  have key : ∀ o : HO, ¬ Sta o → H a = some o → upd H l (.lst ys) a = some o := fun o no e => by
    rw [upd_ne]
    · exact e
    · rintro rfl
      rw [h] at e
      cases e
      exact no trivial
  cases m with
  | any =>
    rcases q with (q | ⟨o, q⟩) | q
    · exact .inl (.inl (key _ (fun z => z) q))
    · exact .inl (.inr ⟨o, key _ (fun z => z) q⟩)
    · exact .inr q
  | key => exact key _ (fun z => z) q
  | lot =>
    obtain ⟨o, q, r⟩ := q
    exact ⟨o, key _ (fun z => z) q, r⟩
theorem hid_upd_out {W : List Addr} {H : Hp} {l : Addr} {o : HO} (h : l ∉ W) : hid W (upd H l o) = upd (hid W H) l o := by
  funext a
  by_cases e : a = l
  · subst e
    rw [upd_same, hid_out h, upd_same]
  · rw [upd_ne e]
    by_cases m : a ∈ W
    · rw [hid_in m, hid_in m]
    · rw [hid_out m, hid_out m, upd_ne e]
theorem hid_upd_in {W : List Addr} {H : Hp} {l : Addr} {o : HO} (h : l ∈ W) : hid W (upd H l o) = hid W H := by
  funext a
  by_cases m : a ∈ W
  · rw [hid_in m, hid_in m]
  · rw [hid_out m, hid_out m, upd_ne fun z => m (by rw [z]; exact h)]
/-- a comprehension's tests -/
def TsV (X : Cx) (ifs : List Expr) : TT := fun σ H Q => ∃ t, PTs X ifs t ∧ t σ H Q
theorem tsv_pts {X : Cx} {ifs : List Expr} : PTs X ifs (TsV X ifs) := ⟨fun pins s σ H Q I h => by
  obtain ⟨t, p, q⟩ := h
  exact p.run pins s σ H Q I q⟩
def Ts (X : Cx) (W : List Addr) (ρ : List Cell) (ifs : List Expr) (P : Bool → Prop) : Prop :=
  ∀ O σ H, Sl X.K W O H σ ρ → ∀ Q : Bool → Hp → Prop, (∀ b H', P b → Ex (hid W H) (hid W H') → WOk W H' → Q b H') → TsV X ifs σ H Q
theorem ts_nil {X : Cx} {W : List Addr} {ρ : List Cell} : Ts X W ρ [] fun z => z = true := fun O σ H s Q q => ⟨_, pts_nil, q true H rfl (Ex.refl _) s.wk⟩
theorem ts_one {X : Cx} {W : List Addr} {ρ : List Cell} {c : Expr} {P : Bool → Prop} (h : T X W ρ c P) : Ts X W ρ [c] P := fun O σ H s Q q => ⟨_, pts_one tv_pt, h O σ H s Q q⟩
/-- the context of a comprehension's block -/
abbrev Bk (X : Cx) (scope : Scope) (P : Cx → Prop) : Prop := ∀ (s : Shared) (H : Hp) (C : Addr) (cl : List (Str × Addr)) (fp : List Addr), P (X.blk s H scope (compEnvC scope cl C X.env) fp)
def bT (X : Cx) (scope : Scope) (ifs : List Expr) : TT := fun σ H Q => Bk X scope fun Y => TsV Y ifs σ H Q
def bE (X : Cx) (scope : Scope) (e : Expr) : TE := fun σ H Q => Bk X scope fun Y => EV Y e σ H Q
def bI (X : Cx) (scope : Scope) (tg iter : Expr) : TI := fun σ H R => Bk X scope fun Y => IV Y tg iter σ H R
section
variable {X : Cx} {W : List Addr} {ρ : List Cell} {f f1 f2 f3 : Nat} {elt tg iter tg1 iter1 : Expr} {ifs ifs1 : List Expr} {scope : Scope} {own : List (Str × Nat)} {pos spos : Pos} {t t1 : Tgt} {ds : List D} {p : D → Bool} {gg : D → D}
theorem bT_ok : Bk X scope fun Y => PTs Y ifs (bT X scope ifs) := fun s H C cl fp => ⟨fun pins s' σ H' Q I h => tsv_pts.run pins s' σ H' Q I (h s H C cl fp)⟩
theorem bE_ok : Bk X scope fun Y => PE Y elt (bE X scope elt) := fun s H C cl fp => ⟨fun pins s' σ H' Q I h => ev_pe.run pins s' σ H' Q I (h s H C cl fp)⟩
theorem bI_ok : Bk X scope fun Y => PI Y tg iter (bI X scope tg iter) := fun s H C cl fp => ⟨fun pins s' σ H' Q I h => iv_pi.run pins s' σ H' Q I (h s H C cl fp)⟩
/-- what stands at the new list at each turn -/
def Lv (K : PySem.W.Frag) (W : List Addr) (H1 : Hp) (Dl : Addr) (es : List D) (H : Hp) : Prop := Ex (hid W H1) (hid W H) ∧ WOk W H ∧ ∃ vs, H Dl = some (.lst vs) ∧ ImL K (hid W H) vs es
theorem Lv.snoc {K : PySem.W.Frag} {W O : List Addr} {H1 H H' : Hp} {Dl : Addr} {es : List D} {v : V} {d : D} {f : Nat} (L : Lv K W H1 Dl es H) (n1 : H1 Dl = none) (nW : Dl ∉ W) (r : Res K W O H f v d H') (hd : isL d = false) (hz : es.length < 100000) :
    ∃ acc, H' Dl = some (.lst acc) ∧ acc.length < sizeLine ∧ Lv K W H1 Dl (es ++ [d]) (upd H' Dl (.lst (acc ++ [v]))) := by
  obtain ⟨e1, w1, vs, h1, h2⟩ := L
  have h3 : H' Dl = some (.lst vs) := (hid_some (r.ex Dl _ (by rw [hid_out nW]; exact h1))).2
  have h3' : hid W H' Dl = some (.lst vs) := by
    rw [hid_out nW]
    exact h3
  refine ⟨vs, h3, by rw [h2.length]; exact Nat.lt_of_lt_of_le hz (by decide), ?_, fun a m => ?_, _, upd_same, ?_⟩
  · rw [hid_upd_out nW]
    exact Ex.mut (e1.trans r.ex) (by rw [hid_out nW]; exact n1)
  · obtain ⟨x, y, z, q, g⟩ := r.wk a m
    exact ⟨x, y, z, by rw [upd_ne fun e => nW (by rw [← e]; exact m)]; exact q, g⟩
  · rw [hid_upd_out nW]
    have tk := tk_lst (K := K) (ys := vs ++ [v]) h3'
    exact ((h2.mono r.ex.tk).mono tk).append (.cons ((r.da.im_of hd).mono tk) .nil)
theorem Lv.more {K : PySem.W.Frag} {W : List Addr} {H1 H H' : Hp} {Dl : Addr} {es : List D} (L : Lv K W H1 Dl es H) (nW : Dl ∉ W) (e : Ex (hid W H) (hid W H')) (w : WOk W H') : Lv K W H1 Dl es H' := by
  obtain ⟨e1, w1, vs, h1, h2⟩ := L
  exact ⟨e1.trans e, w, vs, (hid_some (e Dl _ (by rw [hid_out nW]; exact h1))).2, h2.mono e.tk⟩
/-- a comprehension's reading -/
theorem lc_read (hi : ITD X W ρ 0 tg iter ds) (hj : ∀ j ∈ t.js, j ∈ own.map (·.2)) (hf : ∀ d ∈ ds, t.fits d = true)
    (ht : ∀ d ∈ ds, Bk X scope fun Y => Ts Y W (t.put d (wipeC ρ (own.map (·.2)))) ifs fun z => z = p d) (he : ∀ d ∈ ds, p d = true → Bk X scope fun Y => ED Y W (t.put d (wipeC ρ (own.map (·.2)))) 0 elt (gg d))
    (hl : ∀ d ∈ ds, p d = true → isL (gg d) = false) (hz : ds.length ≤ 90000) {O : List Addr} {σ : L2.St} {H : Hp} (s : Sl X.K W O H σ ρ) (Q : VK) (q : ∀ v H' d, d = .lst ((ds.filter p).map gg) → Res X.K W O H f v d H' → Q v H') :
    tLc (IV X tg iter) (t.g X.K) (bT X scope ifs) (bE X scope elt) (own.map (·.2)) σ H Q := by
  refine hi O σ H s _ fun J H1 ds1 pe w1 _ e1 wk1 => ?_
  subst pe
  intro Dl nD
  have nW : Dl ∉ W := new_out wk1 nD
  have sl1 : Sl X.K W O H1 σ ρ := s.mono e1 wk1
  refine lc_it w1 (fun i H' => Lv X.K W H1 Dl (((ds1.take i).filter p).map gg) H') ⟨hid_new nD, wok_upd wk1 nD, [], upd_same, .nil⟩ (fun i H' _ L => L.1.trans (hid_le W H')) (fun i x H2 H3 hi L y => ?_) (fun H2 L => ?_)
  · have s2 : Sl X.K W O H2 σ ρ := sl1.mono L.1 L.2.1
    have s3 := s2.wipe (own.map (·.2))
    refine tgt_ok s3 y (L.1.tk.trans (tk_clean s3.okk)) hf (fun σ4 H4 d4 e4 s4 x4 wp4 _ => ⟨?_, ?_⟩) wipe_set
    · rw [wp4 _ hj, wipe_wipe]
    · have m4 : d4 ∈ ds1 := List.mem_of_getElem? e4
      have L4 : Lv X.K W H1 Dl (((ds1.take i).filter p).map gg) H4 := L.more nW (hid_exH x4) s4.wk
      intro bs bH bC bcl bfp
      refine ht d4 m4 bs bH bC bcl bfp O σ4 H4 s4 _ fun k H5 pk e5 wk5 => ?_
      subst pk
      have L5 := L4.more nW e5 wk5
      have tk : ds1.take (i + 1) = ds1.take i ++ [d4] := by
        rw [List.take_add_one, e4]
        rfl
      cases hp : p d4 with
      | true =>
        show bE X scope elt σ4 H5 _
        intro bs bH bC bcl bfp
        refine he d4 m4 hp bs bH bC bcl bfp O σ4 H5 (s4.mono e5 wk5) _ fun v H6 d6 p6 r6 => ?_
        subst p6
        have len : ((((ds1.take i).filter p).map gg)).length < 100000 := by
          rw [List.length_map]
          have := List.length_filter_le p (ds1.take i)
          rw [List.length_take] at this
          omega
        obtain ⟨acc, a1, a2, a3⟩ := L5.snoc nD nW r6 (hl d4 m4 hp) len
        refine ⟨acc, a1, a2, ?_⟩
        rw [tk, List.filter_append, List.map_append, List.filter_cons, if_pos hp]
        exact a3
      | false =>
        show Lv X.K W H1 Dl (((ds1.take (i + 1)).filter p).map gg) H5
        rw [tk, List.filter_append, List.map_append, List.filter_cons, if_neg (by rw [hp]; exact Bool.false_ne_true)]
        simpa using L5
  · rw [List.take_length] at L
    obtain ⟨e2, wk2, vs, h1, h2⟩ := L
    have s2 : Sl X.K W O H2 σ ρ := sl1.mono e2 wk2
    have nO : Dl ∉ W ++ O := fun m => by
      rcases List.mem_append.mp m with m | m
      · exact nW m
      · obtain ⟨o, q, _⟩ := sl1.okk Dl m
        rw [nD] at q
        cases q
    refine q _ H2 _ rfl ⟨.ls (by rw [hid_out nW]; exact h1) h2, fun _ => .ls (by rw [hid_out nO]; exact h1) (h2.mono (tk_clean s2.okk)), fun _ es _ => ⟨Dl, rfl, ?_⟩, e1.trans e2, wk2⟩
    have b := e1.back (show hid W H1 Dl = none by rw [hid_out nW]; exact nD)
    rw [hid_out nW] at b
    exact b
theorem e_lc (hc : X.calm = true) (hN : X.N.Nodup) (hi : ITD X W ρ 0 tg iter ds) (ok : BlkOk X.N X.env.scope scope own) (hg : Bk X scope fun Y => PG Y tg (t.g X.K)) (hj : ∀ j ∈ t.js, j ∈ own.map (·.2)) (hf : ∀ d ∈ ds, t.fits d = true)
    (ht : ∀ d ∈ ds, Bk X scope fun Y => Ts Y W (t.put d (wipeC ρ (own.map (·.2)))) ifs fun z => z = p d) (he : ∀ d ∈ ds, p d = true → Bk X scope fun Y => ED Y W (t.put d (wipeC ρ (own.map (·.2)))) 0 elt (gg d))
    (hl : ∀ d ∈ ds, p d = true → isL (gg d) = false) (hz : ds.length ≤ 90000) (hs : ∀ x, foldedSetIterable iter X.env x = pure x := by intro _; rfl) : ED X W ρ f (.ListComp elt [⟨tg, iter, ifs, 0⟩] scope pos) (.lst ((ds.filter p).map gg)) := fun O σ H s Q q =>
  ⟨_, pe_lc hc hN iv_pi ok hg bT_ok bE_ok hs, lc_read hi hj hf ht he hl hz s Q q⟩
theorem filter_yes (ds : List D) : ds.filter (fun _ => true) = ds := List.filter_eq_self.mpr fun _ _ => rfl
/-- no test -/
theorem e_lc0 (hc : X.calm = true) (hN : X.N.Nodup) (hi : ITD X W ρ 0 tg iter ds) (ok : BlkOk X.N X.env.scope scope own) (hg : Bk X scope fun Y => PG Y tg (t.g X.K)) (hj : ∀ j ∈ t.js, j ∈ own.map (·.2)) (hf : ∀ d ∈ ds, t.fits d = true)
    (he : ∀ d ∈ ds, Bk X scope fun Y => ED Y W (t.put d (wipeC ρ (own.map (·.2)))) 0 elt (gg d)) (hl : ∀ d ∈ ds, isL (gg d) = false) (hz : ds.length ≤ 90000) (hs : ∀ x, foldedSetIterable iter X.env x = pure x := by intro _; rfl) :
    ED X W ρ f (.ListComp elt [⟨tg, iter, [], 0⟩] scope pos) (.lst (ds.map gg)) := by
  have h := e_lc (p := fun _ => true) (f := f) (pos := pos) hc hN hi ok hg hj hf (fun d m s H C cl fp => ts_nil) (fun d m _ => he d m) (fun d m _ => hl d m) hz hs
  rw [filter_yes] at h
  exact h

/-! ### two clauses -/
variable {ds1 : D → List D} {p2 : D → D → Bool} {g2 : D → D → D} {vs1 : List Nat}
def Cell.drop : Cell → Cell
  | .own _ => .un
  | .dic _ => .un
  | c => c
def Cell.isOwn : Cell → Bool
  | .own _ => true
  | .dic _ => true
  | _ => false
def NoOwn (ρ : List Cell) : Prop := ∀ (i : Nat) (c : Cell), ρ[i]? = some c → c.isOwn = false
theorem noOwn_drop (ρ : List Cell) : NoOwn (ρ.map Cell.drop) := fun i c e => by
  rw [List.getElem?_map] at e
  cases h : ρ[i]? with
  | none =>
    rw [h] at e
    cases e
  | some c' =>
    rw [h] at e
    cases e
    cases c' <;> rfl
theorem NoOwn.set {ρ : List Cell} (h : NoOwn ρ) {c : Cell} (hc : c.isOwn = false) (j : Nat) : NoOwn (ρ.set j c) := fun i c' e => by
  by_cases hj : j = i
  · subst hj
    by_cases lt : j < ρ.length
    · rw [List.getElem?_set_self lt] at e
      cases e
      exact hc
    · rw [List.getElem?_eq_none (by simpa using lt)] at e
      cases e
  · rw [List.getElem?_set_ne hj] at e
    exact h i c' e
theorem NoOwn.wipe {ρ : List Cell} (h : NoOwn ρ) : ∀ vs : List Nat, NoOwn (wipeC ρ vs)
  | [] => h
  | v :: vs => (NoOwn.wipe h vs).set rfl v
theorem NoOwn.put {ρ : List Cell} (h : NoOwn ρ) (t : Tgt) (d : D) : NoOwn (t.put d ρ) := by
  cases t with
  | nm j => exact h.set rfl j
  | pr j1 j2 =>
    unfold Tgt.put
    split
    · exact h.set rfl _
    · exact (h.set rfl _).set rfl _
    · exact h
theorem Sl.drop {K : PySem.W.Frag} {W O : List Addr} {H : Hp} {σ : L2.St} {ρ : List Cell} (s : Sl K W O H σ ρ) : Sl K W O H σ (ρ.map Cell.drop) := ⟨fun i c e => by
  rw [List.getElem?_map] at e
  cases h : ρ[i]? with
  | none =>
    rw [h] at e
    cases e
  | some c' =>
    rw [h] at e
    cases e
    have q := s.at_ i c' h
    cases c' with
    | own _ => trivial
    | dic _ => trivial
    | _ => exact q, s.wk, s.ok, by rw [s.len, List.length_map]⟩
theorem Sl.mono2 {K : PySem.W.Frag} {W O O' : List Addr} {H H' : Hp} {σ : L2.St} {ρ : List Cell} (s : Sl K W O H σ ρ) (n : NoOwn ρ) (e : Ex (hid (W ++ O) H) (hid (W ++ O') H')) (wk : WOk W H') (ok : ∀ a ∈ O', a ∉ W ∧ ∃ o, H' a = some o ∧ Sta o) : Sl K W O' H' σ ρ := ⟨fun i c h => by
  have q := s.at_ i c h
  have z := n i c h
  cases c with
  | un => trivial
  | da d =>
    obtain ⟨v, h1, h2⟩ := q
    exact ⟨v, h1, h2.mono e⟩
  | own _ => cases z
  | dic _ => cases z
  | pin a ds => exact ⟨q.1, q.2.mono e⟩
  | scr a ns => exact ⟨q.1, q.2.mono e⟩
  | well => exact q, wk, ok, s.len⟩
/-- the items made of one item of the first clause -/
def innerD (ds1 : D → List D) (p2 : D → D → Bool) (g2 : D → D → D) (d : D) : List D := ((ds1 d).filter (p2 d)).map (g2 d)
/-- the block's cells behind the first target -/
def blk1 (ρ : List Cell) (vs : List Nat) (t : Tgt) (d : D) : List Cell := t.put d (wipeC (ρ.map Cell.drop) vs)
def blk2 (ρ : List Cell) (vs vs1 : List Nat) (t t1 : Tgt) (d e : D) : List Cell := t1.put e (wipeC (blk1 ρ vs t d) vs1)
theorem lc2_read (hi : ITD X W ρ 0 tg iter ds) (hj : ∀ j ∈ t.js, j ∈ own.map (·.2)) (hf : ∀ d ∈ ds, t.fits d = true) (hj1 : ∀ j ∈ t1.js, j ∈ vs1)
    (hi1 : ∀ d ∈ ds, Bk X scope fun Y => ITD Y W (blk1 ρ (own.map (·.2)) t d) 1 tg1 iter1 (ds1 d)) (hf1 : ∀ d ∈ ds, ∀ e ∈ ds1 d, t1.fits e = true)
    (ht : ∀ d ∈ ds, ∀ e ∈ ds1 d, Bk X scope fun Y => Ts Y W (blk2 ρ (own.map (·.2)) vs1 t t1 d e) ifs1 fun z => z = p2 d e)
    (he : ∀ d ∈ ds, ∀ e ∈ ds1 d, p2 d e = true → Bk X scope fun Y => ED Y W (blk2 ρ (own.map (·.2)) vs1 t t1 d e) 0 elt (g2 d e))
    (hl : ∀ d ∈ ds, ∀ e ∈ ds1 d, p2 d e = true → isL (g2 d e) = false) (hz : (ds.flatMap fun d => ds1 d).length ≤ 90000) {O : List Addr} {σ : L2.St} {H : Hp} (s : Sl X.K W O H σ ρ) (Q : VK) (q : ∀ v H' d, d = .lst (ds.flatMap (innerD ds1 p2 g2)) → Res X.K W O H f v d H' → Q v H') :
    tLc2 (IV X tg iter) (t.g X.K) tYes (bI X scope tg1 iter1) (t1.g X.K) (bT X scope ifs1) (bE X scope elt) (own.map (·.2)) vs1 σ H Q := by
  refine hi O σ H s _ fun J H1 ds' pe w1 _ e1 wk1 => ?_
  subst pe
  intro Dl nD
  have nW : Dl ∉ W := new_out wk1 nD
  have sl1 : Sl X.K W O H1 σ ρ := s.mono e1 wk1
  have nO : Dl ∉ W ++ O := fun m => by
    rcases List.mem_append.mp m with m | m
    · exact nW m
    · obtain ⟨o, q, _⟩ := sl1.okk Dl m
      rw [nD] at q
      cases q
  have small : ∀ i, ((ds'.take i).flatMap (innerD ds1 p2 g2)).length ≤ ((ds'.take i).flatMap fun d => ds1 d).length := fun i => by
    rw [List.length_flatMap, List.length_flatMap]
    generalize ds'.take i = zs
    induction zs with
    | nil => exact Nat.le_refl _
    | cons z zs ih =>
      rw [List.map_cons, List.map_cons, List.sum_cons, List.sum_cons]
      have h1 : (innerD ds1 p2 g2 z).length ≤ (ds1 z).length := by
        unfold innerD
        rw [List.length_map]
        exact List.length_filter_le _ _
      omega
  have part : ∀ i d, ds'[i]? = some d → ((ds'.take i).flatMap fun d => ds1 d).length + (ds1 d).length ≤ 90000 := fun i d e => by
    have h1 : ds'.take (i + 1) = ds'.take i ++ [d] := by
      rw [List.take_add_one, e]
      rfl
    have h2 : ds'.flatMap (fun d => ds1 d) = (ds'.take (i + 1)).flatMap (fun d => ds1 d) ++ (ds'.drop (i + 1)).flatMap fun d => ds1 d := by
      rw [← List.flatMap_append, List.take_append_drop]
    rw [h2, h1, List.flatMap_append, List.length_append, List.length_append, List.flatMap_singleton] at hz
    omega
  -- all but the new list stays
  have slD : ∀ H2, Ex (hid W H1) (hid W H2) → WOk W H2 → (∃ vs, H2 Dl = some (.lst vs)) → Sl X.K W (Dl :: O) H2 σ (ρ.map Cell.drop) := fun H2 e w ⟨vs, hv⟩ => by
    refine sl1.drop.mono2 (noOwn_drop ρ) (fun a o h => ?_) w fun a m => ?_
    · obtain ⟨h1, h2⟩ := hid_some h
      have na : a ≠ Dl := fun z => by
        rw [z, nD] at h2
        cases h2
      rw [hid_out fun m => ?_]
      · exact (hid_some (e a o (by rw [hid_out fun m => h1 (List.mem_append_left _ m)]; exact h2))).2
      · rcases List.mem_append.mp m with m | m
        · exact h1 (List.mem_append_left _ m)
        · rcases List.mem_cons.mp m with m | m
          · exact na m
          · exact h1 (List.mem_append_right _ m)
    · rcases List.mem_cons.mp m with m | m
      · rw [m]
        exact ⟨nW, _, hv, trivial⟩
      · obtain ⟨n, o, h2, h3⟩ := sl1.ok a m
        exact ⟨n, o, (hid_some (e a o (by rw [hid_out n]; exact h2))).2, h3⟩
  refine ⟨fun i m H' => m = ds'.length - i ∧ i ≤ ds'.length ∧ Lv X.K W H1 Dl ((ds'.take i).flatMap (innerD ds1 p2 g2)) H', ⟨ds'.length, rfl, Nat.zero_le _, hid_new nD, wok_upd wk1 nD, [], upd_same, .nil⟩, ?_⟩
  rintro i m H2 ⟨rfl, hi, L⟩
  have gH2 : Ex (hid W H1) H2 := L.1.trans (hid_le W H2)
  by_cases hlt : i < ds'.length
  · refine .inr ⟨w1.goes i H2 hlt gH2, fun H' => Lv X.K W H1 Dl ((ds'.take (i + 1)).flatMap (innerD ds1 p2 g2)) H', fun H' L' => ⟨ds'.length - (i + 1), by omega, rfl, hlt, L'⟩, fun x H3 y => ?_⟩
    have y := w1.yields i H2 x H3 hlt gH2 y
    have s2 := slD H2 L.1 L.2.1 (by obtain ⟨_, _, vs, h, _⟩ := L; exact ⟨vs, h⟩)
    have s3 := s2.wipe (own.map (·.2))
    refine tgt_ok s3 y (L.1.tk.trans (tk_clean s3.okk)) hf (fun σ4 H4 d4 e4 s4 x4 wp4 _ => ⟨?_, ?_⟩) wipe_set
    · rw [wp4 _ hj, wipe_wipe]
    · have m4 : d4 ∈ ds' := List.mem_of_getElem? e4
      have n4 : NoOwn (t.put d4 (wipeC (ρ.map Cell.drop) (own.map (·.2)))) := ((noOwn_drop ρ).wipe _).put t d4
      have L4 : Lv X.K W H1 Dl ((ds'.take i).flatMap (innerD ds1 p2 g2)) H4 := L.more nW (hid_exH x4) s4.wk
      have tk : ds'.take (i + 1) = ds'.take i ++ [d4] := by
        rw [List.take_add_one, e4]
        rfl
      show bI X scope tg1 iter1 σ4 H4 _
      intro bs bH bC bcl bfp
      refine hi1 d4 m4 bs bH bC bcl bfp (Dl :: O) σ4 H4 s4 _ fun J1 H5 es pes _ wi1 e5 wk5 => ?_
      subst pes
      have wi1 : Wk X.K J1 (hid (W ++ (Dl :: O)) H5) (ds1 d4) := wi1 (Nat.le_refl 1)
      have L5 := L4.more nW e5 wk5
      have s5 := s4.mono e5 wk5
      refine ⟨fun j m H' => m = (ds1 d4).length - j ∧ j ≤ (ds1 d4).length ∧ Ex (hid (W ++ (Dl :: O)) H5) (hid (W ++ (Dl :: O)) H') ∧ (∀ a ∈ Dl :: O, a ∉ W ∧ ∃ o, H' a = some o ∧ Sta o) ∧ Lv X.K W H1 Dl ((ds'.take i).flatMap (innerD ds1 p2 g2) ++ (((ds1 d4).take j).filter (p2 d4)).map (g2 d4)) H',
        ⟨(ds1 d4).length, rfl, Nat.zero_le _, Ex.refl _, s5.ok, by simpa using L5⟩, ?_⟩
      rintro j k H6 ⟨rfl, hj6, x6, ok6, L6⟩
      have gH6 : Ex (hid (W ++ (Dl :: O)) H5) H6 := x6.trans (hid_le _ H6)
      by_cases hlt6 : j < (ds1 d4).length
      · refine .inr ⟨wi1.goes j H6 hlt6 gH6, fun H' => Ex (hid (W ++ (Dl :: O)) H5) (hid (W ++ (Dl :: O)) H') ∧ (∀ a ∈ Dl :: O, a ∉ W ∧ ∃ o, H' a = some o ∧ Sta o) ∧ Lv X.K W H1 Dl ((ds'.take i).flatMap (innerD ds1 p2 g2) ++ (((ds1 d4).take (j + 1)).filter (p2 d4)).map (g2 d4)) H', fun H' ⟨x', o', L'⟩ => ⟨(ds1 d4).length - (j + 1), by omega, rfl, hlt6, x', o', L'⟩, fun x H7 y1 => ?_⟩
        have y1 := wi1.yields j H6 x H7 hlt6 gH6 y1
        have s6 : Sl X.K W (Dl :: O) H6 σ4 (t.put d4 (wipeC (ρ.map Cell.drop) (own.map (·.2)))) := s5.mono2 n4 x6 L6.2.1 ok6
        have s7 := s6.wipe vs1
        refine tgt_ok s7 y1 x6.tk (hf1 d4 m4) (fun σ8 H8 e8 q8 s8 x8 wp8 _ => ⟨?_, ?_⟩) wipe_set
        · rw [wp8 _ hj1, wipe_wipe]
        · have m8 : e8 ∈ ds1 d4 := List.mem_of_getElem? q8
          have L8 := L6.more nW (hid_exH x8) s8.wk
          have tk1 : (ds1 d4).take (j + 1) = (ds1 d4).take j ++ [e8] := by
            rw [List.take_add_one, q8]
            rfl
          intro bs bH bC bcl bfp
          refine ht d4 m4 e8 m8 bs bH bC bcl bfp (Dl :: O) σ8 H8 s8 _ fun k H9 pk e9 wk9 => ?_
          subst pk
          have L9 := L8.more nW e9 wk9
          have s9 := s8.mono e9 wk9
          have x9 : Ex (hid (W ++ (Dl :: O)) H5) (hid (W ++ (Dl :: O)) H9) := (x6.trans (hid_exH x8)).trans (hid_ex e9 _)
          cases hp : p2 d4 e8 with
          | true =>
            show bE X scope elt σ8 H9 _
            intro bs bH bC bcl bfp
            refine he d4 m4 e8 m8 hp bs bH bC bcl bfp (Dl :: O) σ8 H9 s9 _ fun v Ha da pa ra => ?_
            subst pa
            have sa := s9.mono ra.ex ra.wk
            have len : ((ds'.take i).flatMap (innerD ds1 p2 g2) ++ (((ds1 d4).take j).filter (p2 d4)).map (g2 d4)).length < 100000 := by
              have h1 := small i
              have h2 := part i d4 e4
              have h3 := List.length_filter_le (p2 d4) ((ds1 d4).take j)
              rw [List.length_take] at h3
              rw [List.length_append, List.length_map]
              omega
            obtain ⟨acc, a1, a2, a3⟩ := L9.snoc nD nW ra (hl d4 m4 e8 m8 hp) len
            refine ⟨acc, a1, a2, ?_, fun a m => ?_, ?_⟩
            · rw [hid_upd_in (List.mem_append_right _ (List.mem_cons_self ..))]
              exact x9.trans (hid_ex ra.ex _)
            · obtain ⟨n, o, h2, h3⟩ := sa.ok a m
              refine ⟨n, ?_⟩
              by_cases z : a = Dl
              · rw [z]
                exact ⟨_, upd_same, trivial⟩
              · rw [upd_ne z]
                exact ⟨o, h2, h3⟩
            · rw [tk1, List.filter_append, List.map_append, List.filter_cons, if_pos hp, ← List.append_assoc]
              exact a3
          | false =>
            show Ex (hid (W ++ (Dl :: O)) H5) (hid (W ++ (Dl :: O)) H9) ∧ (∀ a ∈ Dl :: O, a ∉ W ∧ ∃ o, H9 a = some o ∧ Sta o) ∧ Lv X.K W H1 Dl ((ds'.take i).flatMap (innerD ds1 p2 g2) ++ (((ds1 d4).take (j + 1)).filter (p2 d4)).map (g2 d4)) H9
            refine ⟨x9, s9.ok, ?_⟩
            rw [tk1, List.filter_append, List.map_append, List.filter_cons, if_neg (by rw [hp]; exact Bool.false_ne_true)]
            simpa using L9
      · have e : j = (ds1 d4).length := by omega
        subst e
        refine .inl ⟨wi1.stops H6 gH6, ?_⟩
        rw [tk, List.flatMap_append, List.flatMap_singleton]
        rw [List.take_length] at L6
        exact L6
  · have e : i = ds'.length := by omega
    subst e
    refine .inl ⟨w1.stops H2 gH2, ?_⟩
    rw [List.take_length] at L
    obtain ⟨e2, wk2, vs, h1, h2⟩ := L
    have s2 : Sl X.K W O H2 σ ρ := sl1.mono e2 wk2
    refine q _ H2 _ rfl ⟨.ls (by rw [hid_out nW]; exact h1) h2, fun _ => .ls (by rw [hid_out nO]; exact h1) (h2.mono (tk_clean s2.okk)), fun _ es _ => ⟨Dl, rfl, ?_⟩, e1.trans e2, wk2⟩
    have b := e1.back (show hid W H1 Dl = none by rw [hid_out nW]; exact nD)
    rw [hid_out nW] at b
    exact b
theorem e_lc2 (hc : X.calm = true) (hN : X.N.Nodup) (hi : ITD X W ρ 0 tg iter ds) (ok : BlkOk X.N X.env.scope scope own) (hg : Bk X scope fun Y => PG Y tg (t.g X.K)) (hg1 : Bk X scope fun Y => PG Y tg1 (t1.g X.K)) (hv : ∀ j ∈ vs1, j ∈ own.map (·.2)) (hj : ∀ j ∈ t.js, j ∈ own.map (·.2)) (hf : ∀ d ∈ ds, t.fits d = true) (hj1 : ∀ j ∈ t1.js, j ∈ vs1)
    (hi1 : ∀ d ∈ ds, Bk X scope fun Y => ITD Y W (blk1 ρ (own.map (·.2)) t d) 1 tg1 iter1 (ds1 d)) (hf1 : ∀ d ∈ ds, ∀ e ∈ ds1 d, t1.fits e = true)
    (ht : ∀ d ∈ ds, ∀ e ∈ ds1 d, Bk X scope fun Y => Ts Y W (blk2 ρ (own.map (·.2)) vs1 t t1 d e) ifs1 fun z => z = p2 d e)
    (he : ∀ d ∈ ds, ∀ e ∈ ds1 d, p2 d e = true → Bk X scope fun Y => ED Y W (blk2 ρ (own.map (·.2)) vs1 t t1 d e) 0 elt (g2 d e))
    (hl : ∀ d ∈ ds, ∀ e ∈ ds1 d, p2 d e = true → isL (g2 d e) = false) (hz : (ds.flatMap fun d => ds1 d).length ≤ 90000) (hs : ∀ x, foldedSetIterable iter X.env x = pure x := by intro _; rfl) (hs1 : ∀ env x, foldedSetIterable iter1 env x = pure x := by intro _ _; rfl) :
    ED X W ρ f (.ListComp elt [⟨tg, iter, [], 0⟩, ⟨tg1, iter1, ifs1, 0⟩] scope pos) (.lst (ds.flatMap (innerD ds1 p2 g2))) := fun O σ H s Q q =>
  ⟨_, pe_lc2 hc hN iv_pi ok hv hg (fun _ _ _ _ _ => pts_nil) bI_ok hg1 bT_ok bE_ok hs hs1, lc2_read hi hj hf hj1 hi1 hf1 ht he hl hz s Q q⟩
end
end K19
end

section
set_option Elab.async false
set_option linter.all false
set_option maxRecDepth 100000
set_option maxHeartbeats 4000000
namespace K19
open PySem PySem.Spec PyProof.Rows L2

/-! ### statements: the slots' cells, what stood at the entry (H0) -/
structure S3 (K : PySem.W.Frag) (W O : List Addr) (H0 H : Hp) (σ : L2.St) (ρ : List Cell) : Prop where
  sl : Sl K W O H σ ρ
  new : ∀ a ∈ O, H0 a = none
  ex : Ex (hid W H0) (hid W H)
  inj : ∀ (i j : Nat) (c c' : Cell) (a : Addr), ρ[i]? = some c → ρ[j]? = some c' → c.isOwn = true → c'.isOwn = true → σ[i]? = some (some (.ref a)) → σ[j]? = some (some (.ref a)) → i = j
def R (X : Cx) (W : List Addr) (ρ : List Cell) (sts : List Stmt) (N : List Cell → Prop) (Rt : D → Prop) : Prop :=
  ∀ O H0 σ H, S3 X.K W O H0 H σ ρ → ∀ D : Ends, (∀ O' ρ' σ' H', N ρ' → S3 X.K W O' H0 H' σ' ρ' → D.nx σ' H') →
    (∀ d v H', Rt d → Da X.K (hid W H') v d → Fr H0 v d → Ex (hid W H0) (hid W H') → WOk W H' → D.rt v H') → SVs X sts D σ H
section
variable {K : PySem.W.Frag} {W O : List Addr} {H0 H H' : Hp} {σ : L2.St} {ρ : List Cell} {f : Nat} {v : V} {d : D} {i : Nat}
theorem S3.mono (s : S3 K W O H0 H σ ρ) (e : Ex (hid W H) (hid W H')) (wk : WOk W H') : S3 K W O H0 H' σ ρ := ⟨s.sl.mono e wk, s.new, s.ex.trans e, s.inj⟩
theorem own_set {c c' : Cell} {j : Nat} (h : (ρ.set i c)[j]? = some c') (ho : c'.isOwn = true) (hc : c.isOwn = false) : j ≠ i ∧ ρ[j]? = some c' := by
  by_cases e : i = j
  · subst e
    by_cases lt : i < ρ.length
    · rw [List.getElem?_set_self lt] at h
      cases h
      rw [hc] at ho
      cases ho
    · rw [List.getElem?_eq_none (by simpa using lt)] at h
      cases h
  · rw [List.getElem?_set_ne e] at h
    exact ⟨fun z => e z.symm, h⟩
/-- a slot stored that holds no owned thing -/
theorem S3.put (s : S3 K W O H0 H σ ρ) (h : Da K (hid (W ++ O) H) v d) (i : Nat) : S3 K W O H0 H (σ.set i (some v)) (ρ.set i (.da d)) :=
  ⟨s.sl.set h i, s.new, s.ex, fun j k c c' a h1 h2 o1 o2 e1 e2 => by
    obtain ⟨n1, g1⟩ := own_set h1 o1 rfl
    obtain ⟨n2, g2⟩ := own_set h2 o2 rfl
    rw [List.getElem?_set_ne (Ne.symm n1)] at e1
    rw [List.getElem?_set_ne (Ne.symm n2)] at e2
    exact s.inj j k c c' a g1 g2 o1 o2 e1 e2⟩
theorem S3.forget (s : S3 K W O H0 H σ ρ) (i : Nat) : S3 K W O H0 H σ (ρ.set i .un) := by
  refine ⟨⟨fun j c e => ?_, s.sl.wk, s.sl.ok, by simpa using s.sl.len⟩, s.new, s.ex, fun j k c c' a h1 h2 o1 o2 e1 e2 => ?_⟩
  · by_cases hj : i = j
    · subst hj
      by_cases lt : i < ρ.length
      · rw [List.getElem?_set_self lt] at e
        cases e
        trivial
      · rw [List.getElem?_eq_none (by simpa using lt)] at e
        cases e
    · rw [List.getElem?_set_ne hj] at e
      exact s.sl.at_ j c e
  · exact s.inj j k c c' a (own_set h1 o1 rfl).2 (own_set h2 o2 rfl).2 o1 o2 e1 e2
/-- more is hidden: a place that stood nowhere before -/
theorem S3.push {a : Addr} {o : HO} (s : S3 K W O H0 H σ ρ) (e : Ex (hid W H) (hid W H')) (wk : WOk W H') (n : H a = none) (h : H' a = some o) (so : Sta o) : S3 K W (a :: O) H0 H' σ ρ := by
  have nW : a ∉ W := new_out s.sl.wk n
  have e2 : Ex (hid (W ++ O) H) (hid (W ++ (a :: O)) H') := fun b u q => by
    obtain ⟨h1, h2⟩ := hid_some q
    have nb : b ≠ a := fun z => by
      rw [z, n] at h2
      cases h2
    rw [hid_out fun m => ?_]
    · exact (hid_some (e b u (by rw [hid_out fun m => h1 (List.mem_append_left _ m)]; exact h2))).2
    · rcases List.mem_append.mp m with m | m
      · exact h1 (List.mem_append_left _ m)
      · rcases List.mem_cons.mp m with m | m
        · exact nb m
        · exact h1 (List.mem_append_right _ m)
  have keep : ∀ b u, b ∈ O → H b = some u → H' b = some u := fun b u m q => (hid_some (e b u (by rw [hid_out (s.sl.ok b m).1]; exact q))).2
  refine ⟨⟨fun j c q => ?_, wk, fun b m => ?_, s.sl.len⟩, fun b m => ?_, s.ex.trans e, s.inj⟩
  · have z := s.sl.at_ j c q
    cases c with
    | un => trivial
    | da d =>
      obtain ⟨v, h1, h2⟩ := z
      exact ⟨v, h1, h2.mono e2⟩
    | own ds =>
      obtain ⟨b, xs, h1, h2, h3, h4⟩ := z
      exact ⟨b, xs, h1, List.mem_cons_of_mem _ h2, keep b _ h2 h3, h4.mono e2.tk⟩
    | dic ks =>
      obtain ⟨b, xs, h1, h2, h3, h4⟩ := z
      exact ⟨b, xs, h1, List.mem_cons_of_mem _ h2, keep b _ h2 h3, h4.mono e2.tk⟩
    | pin b ds => exact ⟨z.1, z.2.mono e2⟩
    | scr b ns => exact ⟨z.1, z.2.mono e2⟩
    | well => exact z
  · rcases List.mem_cons.mp m with m | m
    · rw [m]
      exact ⟨nW, o, h, so⟩
    · obtain ⟨h1, u, h2, h3⟩ := s.sl.ok b m
      exact ⟨h1, u, keep b u m h2, h3⟩
  · rcases List.mem_cons.mp m with m | m
    · rw [m]
      have q := s.ex.back (show hid W H a = none by rw [hid_out nW]; exact n)
      rw [hid_out nW] at q
      exact q
    · exact s.new b m
/-- a new thing is stored that the slot owns -/
theorem S3.take {a : Addr} {c : Cell} (s : S3 K W O H0 H σ ρ) (ha : a ∈ O) (hc : CellOk K W O H (some (some (.ref a))) c) (no : ∀ (j : Nat) (c' : Cell), ρ[j]? = some c' → c'.isOwn = true → σ[j]? ≠ some (some (.ref a))) (i : Nat) : S3 K W O H0 H (σ.set i (some (.ref a))) (ρ.set i c) := by
  refine ⟨⟨fun j c' e => ?_, s.sl.wk, s.sl.ok, by simpa using s.sl.len⟩, s.new, s.ex, fun j k c1 c2 b h1 h2 o1 o2 e1 e2 => ?_⟩
  · by_cases hj : i = j
    · subst hj
      by_cases lt : i < ρ.length
      · rw [List.getElem?_set_self lt] at e
        cases e
        rw [List.getElem?_set_self (by rw [s.sl.len]; exact lt)]
        exact hc
      · rw [List.getElem?_eq_none (by simpa using lt)] at e
        cases e
    · rw [List.getElem?_set_ne hj] at e ⊢
      exact s.sl.at_ j c' e
  · by_cases h1i : i = j
    · by_cases h2i : i = k
      · rw [← h1i, ← h2i]
      · exfalso
        subst h1i
        have lt : i < σ.length := by
          by_cases lt : i < ρ.length
          · rw [s.sl.len]
            exact lt
          · rw [List.getElem?_eq_none (by simpa using lt)] at h1
            cases h1
        rw [List.getElem?_set_self lt] at e1
        cases e1
        rw [List.getElem?_set_ne h2i] at h2 e2
        exact no k c2 h2 o2 e2
    · rw [List.getElem?_set_ne h1i] at h1 e1
      by_cases h2i : i = k
      · exfalso
        subst h2i
        have lt : i < σ.length := by
          by_cases lt : i < ρ.length
          · rw [s.sl.len]
            exact lt
          · rw [List.getElem?_eq_none (by simpa using lt)] at h2
            cases h2
        rw [List.getElem?_set_self lt] at e2
        cases e2
        exact no j c1 h1 o1 e1
      · rw [List.getElem?_set_ne h2i] at h2 e2
        exact s.inj j k c1 c2 b h1 h2 o1 o2 e1 e2
/-- an owned cell's place is tracked, so it is no new place -/
theorem S3.not_new {a : Addr} (s : S3 K W O H0 H σ ρ) (n : H a = none) : ∀ (j : Nat) (c' : Cell), ρ[j]? = some c' → c'.isOwn = true → σ[j]? ≠ some (some (.ref a)) := fun j c h o e => by
  have z := s.sl.at_ j c h
  cases c with
  | own ds =>
    obtain ⟨b, xs, h1, h2, h3, h4⟩ := z
    rw [e] at h1
    cases h1
    rw [n] at h3
    cases h3
  | dic ds =>
    obtain ⟨b, xs, h1, h2, h3, h4⟩ := z
    rw [e] at h1
    cases h1
    rw [n] at h3
    cases h3
  | _ => cases o
/-- what a fresh list gives -/
theorem S3.own {ds : List D} (s : S3 K W O H0 H σ ρ) (r : Res K W O H 2 v (.lst ds) H') (i : Nat) : ∃ a, v = .ref a ∧ a ∉ O ∧ H a = none ∧ S3 K W (a :: O) H0 H' σ ρ ∧ S3 K W (a :: O) H0 H' (σ.set i (some v)) (ρ.set i (.own ds)) := by
  obtain ⟨a, rfl, n⟩ := r.fr (Nat.le_refl _) ds rfl
  obtain ⟨a', xs, e, h1, h2⟩ := r.da.ls_inv
  cases e
  obtain ⟨nW, h1⟩ := hid_some h1
  have nO : a ∉ O := fun m => by
    obtain ⟨o, q, _⟩ := s.sl.okk a m
    rw [n] at q
    cases q
  have s1 := s.push r.ex r.wk n h1 trivial
  have co : CellOk K W (a :: O) H' (some (some (.ref a))) (.own ds) := ⟨a, xs, rfl, List.mem_cons_self .., h1, h2.mono (tk_clean s1.sl.okk)⟩
  exact ⟨a, rfl, nO, n, s1, s1.take (List.mem_cons_self ..) co (s.not_new n) i⟩
end

section
variable {X : Cx} {W : List Addr} {ρ : List Cell} {f f1 f2 f3 : Nat} {e a b c tg iter : Expr} {es : List Expr} {P P1 P2 P3 : D → Prop} {d d1 d2 d3 : D} {pos p pos' : Pos} {ds : List D} {rest body els : List Stmt} {N N1 : List Cell → Prop} {Rt : D → Prop} {x y : Str}
theorem R.imp (h : R X W ρ body N Rt) (k : ∀ ρ', N ρ' → N1 ρ') : R X W ρ body N1 Rt := fun O H0 σ H s D nx rt => h O H0 σ H s D (fun O' ρ' σ' H' n s' => nx O' ρ' σ' H' (k _ n) s') rt
theorem R.forget (i : Nat) (h : R X W (ρ.set i .un) body N Rt) : R X W ρ body N Rt := fun O H0 σ H s D nx rt => h O H0 σ H (s.forget i) D nx rt
theorem r_nil (h : N ρ) : R X W ρ [] N Rt := fun O H0 σ H s D nx rt => ⟨_, pss_nil, nx O ρ σ H h s⟩
theorem r_ret (h : E X W ρ 2 e Rt) : R X W ρ (.Return (some e) pos :: rest) N Rt := fun O H0 σ H s D nx rt => by
  refine ⟨_, pss_cons (ps_ret ev_pe) pss_never, ?_⟩
  exact h O σ H s.sl _ fun v H' d pd r => rt d v H' pd r.da ((r.fr (Nat.le_refl _)).back s.ex s.sl.wk) (s.ex.trans r.ex) r.wk
theorem r_retI (h : E X W ρ 0 e P) (k : ∀ d, P d → isL d = false ∧ Rt d) : R X W ρ (.Return (some e) pos :: rest) N Rt := fun O H0 σ H s D nx rt => by
  refine ⟨_, pss_cons (ps_ret ev_pe) pss_never, ?_⟩
  exact h O σ H s.sl _ fun v H' d pd r => rt d v H' (k d pd).2 r.da (Fr.im (k d pd).1) (s.ex.trans r.ex) r.wk
theorem r_retD (h : ED X W ρ 0 e d) (l : isL d = false) (k : Rt d) : R X W ρ (.Return (some e) pos :: rest) N Rt := r_retI h fun z q => by
  rw [q]
  exact ⟨l, k⟩
/-- an owned list handed back -/
theorem r_retOwn (i : Nat) (h : ρ[i]? = some (.own ds)) (k : Rt (.lst ds)) (hN : X.N[i]? = some x := by rfl) (hv : Vis X.env.scope x := by first | exact Or.inl rfl | exact Or.inr (Or.inl rfl) | exact Or.inr (Or.inr rfl))
    (hd : (x == ("__debug__" : Str)) = false := by decide) (hcd : (x == ("__classdict__" : Str)) = false := by decide) : R X W ρ (.Return (some (.Name x p)) pos :: rest) N Rt := fun O H0 σ H s D nx rt => by
  obtain ⟨a, xs, h1, h2, h3, h4⟩ := s.sl.at_ i _ h
  refine ⟨_, pss_cons (ps_ret (pe_var hN hv hd hcd)) pss_never, _, h1, ?_⟩
  exact rt _ _ H k (.ls (by rw [hid_out (s.sl.ok a h2).1]; exact h3) (h4.mono (hid_app W O H).tk)) (fun _ _ => ⟨a, rfl, s.new a h2⟩) s.ex s.sl.wk
/-- name = e -/
theorem r_set (i : Nat) (h : E X W ρ 1 e P) (k : ∀ d, P d → R X W (ρ.set i (.da d)) rest N Rt) (hN : X.N.Nodup) (hi : X.N[i]? = some x := by rfl) (hx : Loc X.env.scope x := by first | exact Or.inl rfl | exact Or.inr rfl) (hs : swapsWith e (some (.Name x pos')) pos.line X.env = pure false := by rfl)
    (hf : X.fn x = true ∨ X.env.scope.names.lookup x = some .local := by first | exact .inl rfl | exact .inr rfl) : R X W ρ (.Assign [.Name x pos'] e pos :: rest) N Rt := fun O H0 σ H s D nx rt => by
  refine ⟨_, pss_cons (ps_set hN hi hx ev_pe hs hf) svs_pss, ?_⟩
  refine h O σ H s.sl _ fun v H' d pd r => ?_
  exact k d pd O H0 _ H' ((s.mono r.ex r.wk).put (r.cl (Nat.le_refl _)) i) D nx rt
theorem r_setD (i : Nat) (h : ED X W ρ 1 e d) (k : R X W (ρ.set i (.da d)) rest N Rt) (hN : X.N.Nodup) (hi : X.N[i]? = some x := by rfl) (hx : Loc X.env.scope x := by first | exact Or.inl rfl | exact Or.inr rfl) (hs : swapsWith e (some (.Name x pos')) pos.line X.env = pure false := by rfl)
    (hf : X.fn x = true ∨ X.env.scope.names.lookup x = some .local := by first | exact .inl rfl | exact .inr rfl) : R X W ρ (.Assign [.Name x pos'] e pos :: rest) N Rt := r_set i h (fun z q => by rw [q]; exact k) hN hi hx hs hf
/-- name = a fresh list -/
theorem r_own (i : Nat) (h : ED X W ρ 2 e (.lst ds)) (k : R X W (ρ.set i (.own ds)) rest N Rt) (hN : X.N.Nodup) (hi : X.N[i]? = some x := by rfl) (hx : Loc X.env.scope x := by first | exact Or.inl rfl | exact Or.inr rfl) (hs : swapsWith e (some (.Name x pos')) pos.line X.env = pure false := by rfl)
    (hf : X.fn x = true ∨ X.env.scope.names.lookup x = some .local := by first | exact .inl rfl | exact .inr rfl) : R X W ρ (.Assign [.Name x pos'] e pos :: rest) N Rt := fun O H0 σ H s D nx rt => by
  refine ⟨_, pss_cons (ps_set hN hi hx ev_pe hs hf) svs_pss, ?_⟩
  refine h O σ H s.sl _ fun v H' d pd r => ?_
  subst pd
  obtain ⟨a, e1, _, _, _, s2⟩ := s.own r i
  exact k _ H0 _ H' s2 D nx rt
/-- if c: .. else: .. -/
theorem r_if {P : Bool → Prop} (h : T X W ρ c P) (k1 : P true → R X W ρ body (fun ρ' => R X W ρ' rest N Rt) Rt) (k2 : P false → R X W ρ els (fun ρ' => R X W ρ' rest N Rt) Rt) : R X W ρ (.If c body els pos :: rest) N Rt := fun O H0 σ H s D nx rt => by
  refine ⟨_, pss_cons (ps_if tv_pt svs_pss svs_pss) svs_pss, ?_⟩
  refine h O σ H s.sl _ fun k H' pk e1 w1 => ?_
  cases k with
  | true =>
    show SVs X body { D with nx := SVs X rest D } σ H'
    exact k1 pk O H0 σ H' (s.mono e1 w1) _ (fun O' ρ' σ' H2 n s' => n O' H0 σ' H2 s' D nx rt) rt
  | false =>
    show SVs X els { D with nx := SVs X rest D } σ H'
    exact k2 pk O H0 σ H' (s.mono e1 w1) _ (fun O' ρ' σ' H2 n s' => n O' H0 σ' H2 s' D nx rt) rt
/-- if c: .. (the answer known) -/
theorem r_ifT (h : TD X W ρ c true) (k : R X W ρ body (fun ρ' => R X W ρ' rest N Rt) Rt) : R X W ρ (.If c body els pos :: rest) N Rt := r_if h (fun _ => k) fun z => by cases z
theorem r_ifF (h : TD X W ρ c false) (k : R X W ρ els (fun ρ' => R X W ρ' rest N Rt) Rt) : R X W ρ (.If c body els pos :: rest) N Rt := r_if h (fun z => by cases z) fun _ => k
/-- if c: .. without else, the rest behind -/
theorem r_ifN (h : TD X W ρ c false) (k : R X W ρ rest N Rt) : R X W ρ (.If c body [] pos :: rest) N Rt := r_ifF h (r_nil k)
theorem put_out {t : Tgt} {d4 : D} {ρ' : List Cell} (hjs : ∀ j ∈ t.js, ∃ c, ρ'[j]? = some c ∧ c.isOwn = false) (fit : t.fits d4 = true) : ∀ (j : Nat) (c : Cell), (t.put d4 ρ')[j]? = some c → c.isOwn = true → j ∉ t.js ∧ ρ'[j]? = some c := fun j c h o => by
  cases t with
  | nm j1 =>
    obtain ⟨n1, g1⟩ := own_set h o rfl
    exact ⟨fun m => n1 (by simpa [Tgt.js] using m), g1⟩
  | pr j1 j2 =>
    cases d4 with
    | tup m l =>
      match l, fit, h with
      | [d1, d2], _, h =>
        obtain ⟨n2, g2⟩ := own_set h o rfl
        obtain ⟨n1, g1⟩ := own_set g2 o rfl
        refine ⟨fun m => ?_, g1⟩
        have : j = j1 ∨ j = j2 := by simpa [Tgt.js] using m
        exact this.elim n1 n2
    | _ => cases fit
/-- for over a list that is drawn -/
theorem for_coreN {t : Tgt} {Pl : List D → Prop} (hi : IT X W ρ 1 tg iter Pl) (hg : PG X tg (t.g X.K)) (hc : X.calm = true) (hp : PassesOwn (model X.prog X.w) X.A X.env X.xe) (hs : ∀ x, foldedSetIterable iter X.env x = pure x) {O : List Addr} {H0 H : Hp} {σ : L2.St} (s : S3 X.K W O H0 H σ ρ) (D : Ends)
    (all : ∀ ds, Pl ds → ∃ J : Nat → List Cell → Prop, (∀ d ∈ ds, t.fits d = true) ∧ J 0 ρ ∧ (∀ i d ρ', ds[i]? = some d → J i ρ' → (∀ j ∈ t.js, ∃ c, ρ'[j]? = some c ∧ c.isOwn = false) ∧ R X W (t.put d ρ') body (J (i + 1)) Rt) ∧ ∀ O' ρ' σ' H', J ds.length ρ' → S3 X.K W O' H0 H' σ' ρ' → SVs X rest D σ' H')
    (rt : ∀ d v H', Rt d → Da X.K (hid W H') v d → Fr H0 v d → Ex (hid W H0) (hid W H') → WOk W H' → D.rt v H') : SVs X (.For tg iter body [] pos :: rest) D σ H := by
  refine ⟨_, pss_cons (ps_for hp hc iv_pi hg svs_pss hs) svs_pss, ?_⟩
  refine hi O σ H s.sl _ fun J1 H1 ds' pe _ w1 e1 wk1 => ?_
  obtain ⟨J, hf, h0, hb, hd⟩ := all ds' pe
  have w1 : Wk X.K J1 (hid (W ++ O) H1) ds' := w1 (Nat.le_refl _)
  have s1 := s.mono e1 wk1
  -- within the loop what stands now is the entry
  have nb : ∀ a, (hid (W ++ O) H1) a = none → a ∉ W → H0 a = none := fun a n nW => by
    cases q : H0 a with
    | none => rfl
    | some o =>
      have h1 := s1.ex a o (by rw [hid_out nW]; exact q)
      have nO : a ∉ O := fun m => by
        rw [s.new a m] at q
        cases q
      rw [hid_out fun m => (List.mem_append.mp m).elim nW nO] at n
      rw [(hid_some h1).2] at n
      cases n
  have ebase : Ex (hid W H0) (hid W (hid (W ++ O) H1)) := fun a o q => by
    obtain ⟨nW, q⟩ := hid_some q
    rw [hid_out nW]
    cases z : (hid (W ++ O) H1) a with
    | none =>
      rw [nb a z nW] at q
      cases q
    | some u =>
      have h1 := (hid_some (s1.ex a o (by rw [hid_out nW]; exact q))).2
      rw [(hid_some z).2] at h1
      exact h1
  have bW : hid W (hid (W ++ O) H1) = hid (W ++ O) H1 := by
    funext a
    by_cases m : a ∈ W
    · rw [hid_in m, hid_in (List.mem_append_left _ m)]
    · rw [hid_out m]
  have sB : S3 X.K W O (hid (W ++ O) H1) H1 σ ρ := ⟨s1.sl, fun a m => hid_in (List.mem_append_right _ m), by rw [bW]; exact hid_app W O H1, s1.inj⟩
  have back : ∀ {O' ρ' σ' H'}, S3 X.K W O' (hid (W ++ O) H1) H' σ' ρ' → S3 X.K W O' H0 H' σ' ρ' := fun {O' ρ' σ' H'} q => ⟨q.sl, fun a m => nb a (q.new a m) (q.sl.ok a m).1, ebase.trans q.ex, q.inj⟩
  refine for_it w1 (fun i σ' H' => ∃ O' ρ', J i ρ' ∧ S3 X.K W O' (hid (W ++ O) H1) H' σ' ρ') ⟨O, ρ, h0, sB⟩ (fun i σ' H' _ ⟨O', ρ', _, q⟩ => by
    have z := q.ex
    rw [bW] at z
    exact z.trans (hid_le W H')) (fun i x σ' H2 H3 hi ⟨O', ρ', hJ, q⟩ y => ?_) (fun σ' H' ⟨O', ρ', hJ, q⟩ => hd O' ρ' σ' H' hJ (back q))
  have z := q.ex
  rw [bW] at z
  obtain ⟨d0, e0, _⟩ := id y
  have hjs := (hb i d0 ρ' e0 hJ).1
  refine tgt_ok q.sl y (z.tk.trans (tk_clean q.sl.okk)) hf (fun σ4 H4 d4 e4 s4 x4 _ st4 => ?_) wipe_set
  have q4 : S3 X.K W O' (hid (W ++ O) H1) H4 σ4 (t.put d4 ρ') := by
    refine ⟨s4, q.new, q.ex.trans (hid_exH x4), fun j k c c' a h1 h2 o1 o2 e1 e2 => ?_⟩
    have out : ∀ (j : Nat) (c : Cell), (t.put d4 ρ')[j]? = some c → c.isOwn = true → j ∉ t.js ∧ ρ'[j]? = some c := put_out hjs (hf d4 (List.mem_of_getElem? e4))
    obtain ⟨m1, g1⟩ := out j c h1 o1
    obtain ⟨m2, g2⟩ := out k c' h2 o2
    rw [st4 j m1] at e1
    rw [st4 k m2] at e2
    exact q.inj j k c c' a g1 g2 o1 o2 e1 e2
  refine (hb i d4 ρ' e4 hJ).2 O' (hid (W ++ O) H1) σ4 H4 q4 _ (fun O5 ρ5 σ5 H5 n5 s5 => ⟨O5, ρ5, n5, s5⟩) fun d v H5 rd da fr ex wk => ?_
  refine rt d v H5 rd da (fun es ee => ?_) (ebase.trans ex) wk
  obtain ⟨a, ea, na⟩ := fr es ee
  refine ⟨a, ea, nb a na fun m => ?_⟩
  subst ea ee
  obtain ⟨a', xs, q1, q2, _⟩ := da.ls_inv
  cases q1
  exact (hid_some q2).1 m
/-- for -/
theorem for_core {t : Tgt} (hi : ITD X W ρ 1 tg iter ds) (hf : ∀ d ∈ ds, t.fits d = true) (hg : PG X tg (t.g X.K)) (J : Nat → List Cell → Prop) (h0 : J 0 ρ) (hb : ∀ i d ρ', ds[i]? = some d → J i ρ' → (∀ j ∈ t.js, ∃ c, ρ'[j]? = some c ∧ c.isOwn = false) ∧ R X W (t.put d ρ') body (J (i + 1)) Rt)
    (hc : X.calm = true) (hp : PassesOwn (model X.prog X.w) X.A X.env X.xe) (hs : ∀ x, foldedSetIterable iter X.env x = pure x) {O : List Addr} {H0 H : Hp} {σ : L2.St} (s : S3 X.K W O H0 H σ ρ) (D : Ends) (hd : ∀ O' ρ' σ' H', J ds.length ρ' → S3 X.K W O' H0 H' σ' ρ' → SVs X rest D σ' H')
    (rt : ∀ d v H', Rt d → Da X.K (hid W H') v d → Fr H0 v d → Ex (hid W H0) (hid W H') → WOk W H' → D.rt v H') : SVs X (.For tg iter body [] pos :: rest) D σ H :=
  for_coreN (fun O σ H s R q => hi O σ H s R q) hg hc hp hs s D (fun ds' e => ⟨J, by subst e; exact ⟨hf, h0, hb, hd⟩⟩) rt
/-- for over a drawn list, as a rule -/
theorem r_forN {t : Tgt} {Pl : List D → Prop} (hi : IT X W ρ 1 tg iter Pl) (hg : PG X tg (t.g X.K)) (all : ∀ ds, Pl ds → ∃ J : Nat → List Cell → Prop, (∀ d ∈ ds, t.fits d = true) ∧ J 0 ρ ∧ (∀ i d ρ', ds[i]? = some d → J i ρ' → (∀ j ∈ t.js, ∃ c, ρ'[j]? = some c ∧ c.isOwn = false) ∧ R X W (t.put d ρ') body (J (i + 1)) Rt) ∧ ∀ ρ', J ds.length ρ' → R X W ρ' rest N Rt)
    (hc : X.calm = true := by rfl) (hp : PassesOwn (model X.prog X.w) X.A X.env X.xe := by exact PassesOwn.never) (hs : ∀ x, foldedSetIterable iter X.env x = pure x := by intro _; rfl) : R X W ρ (.For tg iter body [] pos :: rest) N Rt := fun O H0 σ H s D nx rt =>
  for_coreN hi hg hc hp hs s D (fun ds e => by
    obtain ⟨J, h1, h2, h3, h4⟩ := all ds e
    exact ⟨J, h1, h2, h3, fun O' ρ' σ' H' hJ q => h4 ρ' hJ O' H0 σ' H' q D nx rt⟩) rt
/-- for -/
theorem r_for {t : Tgt} (hi : ITD X W ρ 1 tg iter ds) (hf : ∀ d ∈ ds, t.fits d = true) (hg : PG X tg (t.g X.K)) (J : Nat → List Cell → Prop) (h0 : J 0 ρ) (hb : ∀ i d ρ', ds[i]? = some d → J i ρ' → (∀ j ∈ t.js, ∃ c, ρ'[j]? = some c ∧ c.isOwn = false) ∧ R X W (t.put d ρ') body (J (i + 1)) Rt) (hd : ∀ ρ', J ds.length ρ' → R X W ρ' rest N Rt)
    (hc : X.calm = true) (hp : PassesOwn (model X.prog X.w) X.A X.env X.xe := by exact PassesOwn.never) (hs : ∀ x, foldedSetIterable iter X.env x = pure x := by intro _; rfl) : R X W ρ (.For tg iter body [] pos :: rest) N Rt := fun O H0 σ H s D nx rt =>
  for_core hi hf hg J h0 hb hc hp hs s D (fun O' ρ' σ' H' hJ q => hd ρ' hJ O' H0 σ' H' q D nx rt) rt
theorem wk_own {K : PySem.W.Frag} {B : Hp} {a : Addr} {ds : List D} (h : Da K B (.ref a) (.lst ds)) : Wk K (Itl K a) B ds := wk_list h
/-- a pinned list is owned again -/
theorem S3.unpin {K : PySem.W.Frag} {W O : List Addr} {H0 H : Hp} {σ : L2.St} {ρ : List Cell} {i : Nat} {a : Addr} {ds : List D} (s : S3 K W O H0 H σ ρ) (hp : ρ[i]? = some (.pin a ds)) (n : H0 a = none) (hl : ∀ (j : Nat) (c : Cell), ρ[j]? = some c → j ≠ i → (∀ d, c = .da d → isL d = false) ∧ (∀ b es, c = .pin b es → b ≠ a)) : S3 K W (a :: O) H0 H σ (ρ.set i (.own ds)) := by
  obtain ⟨hs, hd⟩ := s.sl.at_ i _ hp
  obtain ⟨a', xs, e, h1, h2⟩ := hd.ls_inv
  cases e
  obtain ⟨nWO, h1⟩ := hid_some h1
  have nW : a ∉ W := fun m => nWO (List.mem_append_left _ m)
  have nO : a ∉ O := fun m => nWO (List.mem_append_right _ m)
  have okk : ∀ b ∈ a :: O, ∃ o, H b = some o ∧ Sta o := fun b m => by
    rcases List.mem_cons.mp m with m | m
    · rw [m]
      exact ⟨_, h1, trivial⟩
    · exact s.sl.okk b m
  have tk : TK K (hid (W ++ O) H) (hid (W ++ (a :: O)) H) := ((hid_app W O H).tk).trans (tk_clean okk)
  refine ⟨⟨fun j c e => ?_, s.sl.wk, fun b m => ?_, by simpa using s.sl.len⟩, fun b m => ?_, s.ex, fun j k c c' b e1 e2 o1 o2 g1 g2 => ?_⟩
  · by_cases hj : i = j
    · subst hj
      by_cases lt : i < ρ.length
      · rw [List.getElem?_set_self lt] at e
        cases e
        exact ⟨a, xs, hs, List.mem_cons_self .., h1, h2.mono tk⟩
      · rw [List.getElem?_eq_none (by simpa using lt)] at e
        cases e
    · rw [List.getElem?_set_ne hj] at e
      obtain ⟨l1, l2⟩ := hl j c e fun z => hj z.symm
      have z := s.sl.at_ j c e
      cases c with
      | un => trivial
      | da d =>
        obtain ⟨v, z1, z2⟩ := z
        exact ⟨v, z1, .im ((z2.im_of (l1 d rfl)).mono tk)⟩
      | own es =>
        obtain ⟨b, ys, z1, z2, z3, z4⟩ := z
        exact ⟨b, ys, z1, List.mem_cons_of_mem _ z2, z3, z4.mono tk⟩
      | dic es =>
        obtain ⟨b, ys, z1, z2, z3, z4⟩ := z
        exact ⟨b, ys, z1, List.mem_cons_of_mem _ z2, z3, z4.mono tk⟩
      | scr b ns =>
        refine ⟨z.1, z.2.elim (fun ⟨o, q⟩ => .inl ⟨o, ?_⟩) .inr⟩
        obtain ⟨n2, q2⟩ := hid_some q
        rw [hid_out fun m => ?_]
        · exact q2
        · rcases List.mem_append.mp m with m | m
          · exact n2 (List.mem_append_left _ m)
          · rcases List.mem_cons.mp m with m | m
            · rw [m, h1] at q2
              cases q2
            · exact n2 (List.mem_append_right _ m)
      | pin b es =>
        have nb := l2 b es rfl
        obtain ⟨z1, z2⟩ := z
        obtain ⟨b', ys, q1, q2, q3⟩ := z2.ls_inv
        cases q1
        obtain ⟨n2, q2⟩ := hid_some q2
        refine ⟨z1, .ls ?_ (q3.mono tk)⟩
        rw [hid_out fun m => ?_]
        · exact q2
        · rcases List.mem_append.mp m with m | m
          · exact n2 (List.mem_append_left _ m)
          · rcases List.mem_cons.mp m with m | m
            · exact nb m
            · exact n2 (List.mem_append_right _ m)
      | well => exact z
  · rcases List.mem_cons.mp m with m | m
    · rw [m]
      exact ⟨nW, _, h1, trivial⟩
    · exact s.sl.ok b m
  · rcases List.mem_cons.mp m with m | m
    · rw [m]
      exact n
    · exact s.new b m
  · have adr : ∀ (l : Nat) (c2 : Cell), (ρ.set i (.own ds))[l]? = some c2 → c2.isOwn = true → σ[l]? = some (some (.ref b)) → (l = i ∧ b = a) ∨ (l ≠ i ∧ ρ[l]? = some c2 ∧ b ∈ O) := fun l c2 q o g => by
      by_cases hl' : i = l
      · subst hl'
        rw [hs] at g
        cases g
        exact .inl ⟨rfl, rfl⟩
      · rw [List.getElem?_set_ne hl'] at q
        refine .inr ⟨fun z => hl' z.symm, q, ?_⟩
        have z := s.sl.at_ l c2 q
        cases c2 with
        | own es =>
          obtain ⟨b', ys, z1, z2, _, _⟩ := z
          rw [g] at z1
          cases z1
          exact z2
        | dic es =>
          obtain ⟨b', ys, z1, z2, _, _⟩ := z
          rw [g] at z1
          cases z1
          exact z2
        | _ => cases o
    rcases adr j c e1 o1 g1 with ⟨r1, r2⟩ | ⟨r1, r2, r3⟩
    · rcases adr k c' e2 o2 g2 with ⟨t1, t2⟩ | ⟨t1, t2, t3⟩
      · rw [r1, t1]
      · rw [r2] at t3
        exact absurd t3 nO
    · rcases adr k c' e2 o2 g2 with ⟨t1, t2⟩ | ⟨t1, t2, t3⟩
      · rw [t2] at r3
        exact absurd r3 nO
      · exact s.inj j k c c' b r2 t2 o1 o2 g1 g2
/-- an owned list is pinned -/
theorem S3.pin {K : PySem.W.Frag} {W O : List Addr} {H0 H : Hp} {σ : L2.St} {ρ : List Cell} {i : Nat} {ds : List D} (s : S3 K W O H0 H σ ρ) (hp : ρ[i]? = some (.own ds)) : ∃ a, H0 a = none ∧ (∀ (j : Nat) (b : Addr) (es : List D), ρ[j]? = some (.pin b es) → b ≠ a) ∧ S3 K W (O.filter fun b => !decide (b = a)) H0 H σ (ρ.set i (.pin a ds)) := by
  obtain ⟨a, xs, h1, h2, h3, h4⟩ := s.sl.at_ i _ hp
  have nW := (s.sl.ok a h2).1
  have sub : ∀ b, b ∈ O.filter (fun b => !decide (b = a)) ↔ b ∈ O ∧ b ≠ a := fun b => by
    rw [List.mem_filter]
    simp
  have ex : Ex (hid (W ++ O) H) (hid (W ++ O.filter fun b => !decide (b = a)) H) := fun b o q => by
    obtain ⟨n, q⟩ := hid_some q
    rw [hid_out fun m => ?_]
    · exact q
    · rcases List.mem_append.mp m with m | m
      · exact n (List.mem_append_left _ m)
      · exact n (List.mem_append_right _ ((sub b).mp m).1)
  have lt : i < ρ.length := (List.getElem?_eq_some_iff.mp hp).1
  have pn : ∀ (j : Nat) (b : Addr) (es : List D), ρ[j]? = some (.pin b es) → b ≠ a := fun j b es e z => by
    obtain ⟨_, q⟩ := s.sl.at_ j _ e
    obtain ⟨b', ys, q1, q2, q3⟩ := q.ls_inv
    cases q1
    obtain ⟨n2, q2⟩ := hid_some q2
    rw [z] at n2
    exact n2 (List.mem_append_right _ h2)
  refine ⟨a, s.new a h2, pn, ⟨⟨fun j c e => ?_, s.sl.wk, fun b m => s.sl.ok b ((sub b).mp m).1, by simpa using s.sl.len⟩, fun b m => s.new b ((sub b).mp m).1, s.ex, fun j k c c' b e1 e2 o1 o2 g1 g2 => ?_⟩⟩
  · by_cases hj : i = j
    · subst hj
      rw [List.getElem?_set_self lt] at e
      cases e
      refine ⟨h1, .ls ?_ (h4.mono ex.tk)⟩
      rw [hid_out fun m => ?_]
      · exact h3
      · rcases List.mem_append.mp m with m | m
        · exact nW m
        · exact ((sub a).mp m).2 rfl
    · rw [List.getElem?_set_ne hj] at e
      have z := s.sl.at_ j c e
      have other : c.isOwn = true → ∀ b, σ[j]? = some (some (.ref b)) → b ≠ a := fun oc b eb e' => by
        subst e'
        exact hj (s.inj i j _ c b hp e rfl oc h1 eb)
      cases c with
      | un => trivial
      | da d =>
        obtain ⟨v, z1, z2⟩ := z
        exact ⟨v, z1, z2.mono ex⟩
      | own es =>
        obtain ⟨b, ys, z1, z2, z3, z4⟩ := z
        exact ⟨b, ys, z1, (sub b).mpr ⟨z2, other rfl b z1⟩, z3, z4.mono ex.tk⟩
      | dic es =>
        obtain ⟨b, ys, z1, z2, z3, z4⟩ := z
        exact ⟨b, ys, z1, (sub b).mpr ⟨z2, other rfl b z1⟩, z3, z4.mono ex.tk⟩
      | pin b es => exact ⟨z.1, z.2.mono ex⟩
      | scr b ns => exact ⟨z.1, z.2.mono ex⟩
      | well => exact z
  · obtain ⟨n1, e1⟩ := own_set e1 o1 rfl
    obtain ⟨n2, e2⟩ := own_set e2 o2 rfl
    exact s.inj j k c c' b e1 e2 o1 o2 g1 g2
theorem e_pin {a : Addr} (i : Nat) (h : ρ[i]? = some (.pin a ds)) (hN : X.N[i]? = some x := by rfl) (hv : Vis X.env.scope x := by first | exact Or.inl rfl | exact Or.inr (Or.inl rfl) | exact Or.inr (Or.inr rfl))
    (hd : (x == ("__debug__" : Str)) = false := by decide) (hcd : (x == ("__classdict__" : Str)) = false := by decide) : ED X W ρ 1 (.Name x pos) (.lst ds) := fun O σ H s Q q => by
  obtain ⟨h1, h2⟩ := s.at_ i _ h
  exact ⟨_, pe_var hN hv hd hcd, _, h1, q _ H _ rfl ⟨h2.mono (hid_app W O H), fun _ => h2, fun z => absurd z (by decide), Ex.refl _, s.wk⟩⟩
/-- for over an owned list: pinned meanwhile -/
theorem r_forOwn {t : Tgt} {y : Str} {py : Pos} (i : Nat) (ho : ρ[i]? = some (.own ds)) (hf : ∀ d ∈ ds, t.fits d = true) (hg : PG X tg (t.g X.K)) (J : Addr → Nat → List Cell → Prop) (h0 : ∀ a, (∀ (j : Nat) (b : Addr) (es : List D), ρ[j]? = some (.pin b es) → b ≠ a) → J a 0 (ρ.set i (.pin a ds))) (hb : ∀ a n d ρ', ds[n]? = some d → J a n ρ' → (∀ j ∈ t.js, ∃ c, ρ'[j]? = some c ∧ c.isOwn = false) ∧ R X W (t.put d ρ') body (J a (n + 1)) Rt)
    (hd : ∀ a ρ', J a ds.length ρ' → ρ'[i]? = some (.pin a ds) ∧ (∀ (j : Nat) (c : Cell), ρ'[j]? = some c → j ≠ i → (∀ d, c = .da d → isL d = false) ∧ (∀ b es, c = .pin b es → b ≠ a)) ∧ R X W (ρ'.set i (.own ds)) rest N Rt) (hc : X.calm = true)
    (hN : X.N[i]? = some y := by rfl) (hv : Vis X.env.scope y := by first | exact Or.inl rfl | exact Or.inr (Or.inl rfl) | exact Or.inr (Or.inr rfl)) (hdd : (y == ("__debug__" : Str)) = false := by decide) (hcd : (y == ("__classdict__" : Str)) = false := by decide)
    (hp : PassesOwn (model X.prog X.w) X.A X.env X.xe := by exact PassesOwn.never) (hs : ∀ x, foldedSetIterable (.Name y py) X.env x = pure x := by intro _; rfl) : R X W ρ (.For tg (.Name y py) body [] pos :: rest) N Rt := fun O H0 σ H s D nx rt => by
  obtain ⟨a, n, np, s1⟩ := s.pin ho
  have lt : i < ρ.length := (List.getElem?_eq_some_iff.mp ho).1
  refine for_core (t := t) (it_listD (e_pin i (List.getElem?_set_self lt) hN hv hdd hcd)) hf hg (J a) (h0 a np) (hb a) hc hp hs s1 D (fun O' ρ' σ' H' hJ q => ?_) rt
  obtain ⟨q1, q2, q3⟩ := hd a ρ' hJ
  exact q3 _ H0 σ' H' (q.unpin q1 n q2) D nx rt
/-- a list of the caller's: its place gets a name -/
theorem r_pinD (i : Nat) (ho : ρ[i]? = some (.da (.lst ds))) (k : ∀ a, R X W (ρ.set i (.pin a ds)) rest N Rt) : R X W ρ rest N Rt := fun O H0 σ H s D nx rt => by
  obtain ⟨v, h1, h2⟩ := s.sl.at_ i _ ho
  obtain ⟨a, xs, rfl, h3, h4⟩ := h2.ls_inv
  refine k a O H0 σ H ⟨⟨fun j c e => ?_, s.sl.wk, s.sl.ok, by simpa using s.sl.len⟩, s.new, s.ex, fun j k c c' b e1 e2 o1 o2 g1 g2 => ?_⟩ D nx rt
  · by_cases hj : i = j
    · subst hj
      rw [List.getElem?_set_self (List.getElem?_eq_some_iff.mp ho).1] at e
      cases e
      exact ⟨h1, h2⟩
    · rw [List.getElem?_set_ne hj] at e
      exact s.sl.at_ j c e
  · exact s.inj j k c c' b (own_set e1 o1 rfl).2 (own_set e2 o2 rfl).2 o1 o2 g1 g2
/-- xs.append(e), xs owned -/
theorem r_app (i : Nat) {p1 p2 p3 : Pos} (ho : ρ[i]? = some (.own ds)) (h : E X W ρ 0 e P) (hz : ds.length < 100000) (k : ∀ d, P d → isL d = false ∧ R X W (ρ.set i (.own (ds ++ [d]))) rest N Rt) (hN : X.N[i]? = some x := by rfl) (hv : Vis X.env.scope x := by first | exact Or.inl rfl | exact Or.inr (Or.inl rfl) | exact Or.inr (Or.inr rfl))
    (hd : (x == ("__debug__" : Str)) = false := by decide) (hcd : (x == ("__classdict__" : Str)) = false := by decide) (he : starEach (e :: []) X.env = (false, eval e X.env) :: starEach [] X.env := by rfl)
    (hbase : attributeBase (.Name x p1) "append" X.env (eval (.Name x p1) X.env) = eval (.Name x p1) X.env := by rfl)
    (hfew : ((backTo p3 (starEach (e :: []) X.env)).all (fun x => !x.1) && (backToKw p3 (keywordEach [] X.env)).all (fun x => x.1.isSome) && decide ((e :: ([] : List Expr)).length + ([] : List Keyword).length + (if ([] : List Keyword).isEmpty then 0 else 1) < 30)) = true := by rfl)
    (hline : (p2.endLine == p3.line) = true := by rfl) (hplain : (backTo p3 (starEach [] X.env)).any (·.1) = false := by rfl) (hsw : swapsWith (.Call (.Attribute (.Name x p1) "append" p2) [e] [] p3) none pos.line X.env = pure false := by rfl) :
    R X W ρ (.Expr (.Call (.Attribute (.Name x p1) "append" p2) [e] [] p3) pos :: rest) N Rt := fun O H0 σ H s D nx rt => by
  obtain ⟨l, xs, h1, h2, h3, h4⟩ := s.sl.at_ i _ ho
  refine ⟨_, pss_cons (ps_expr (pe_bm PySem.F.plainAttrs_list PySem.F.slot_list_append PySem.F.type_list_append mt_append (pe_var hN hv hd hcd) (pa_cons ev_pe pa_nil he) hbase hfew hline he hplain) hsw) svs_pss, ?_⟩
  refine ⟨_, h1, .inl ⟨rfl, _, SqL.of h3⟩, ?_⟩
  refine h O σ H s.sl _ fun v H1 d pd r => ?_
  obtain ⟨il, k⟩ := k d pd
  have s1 := s.mono r.ex r.wk
  obtain ⟨l', xs', h1', h2', h3', h4'⟩ := s1.sl.at_ i _ ho
  rw [h1] at h1'
  cases h1'
  refine ⟨l, xs', v, rfl, rfl, h3', by rw [h4'.length]; exact Nat.lt_of_lt_of_le hz (by decide), ?_⟩
  refine k O H0 σ _ ?_ D nx rt
  have inO : l ∈ W ++ O := List.mem_append_right _ h2
  have nW := (s1.sl.ok l h2).1
  have hb : hid (W ++ O) (upd H1 l (.lst (xs' ++ [v]))) = hid (W ++ O) H1 := hid_upd_in inO
  have iv : Im X.K (hid (W ++ O) H1) v d := (r.da.im_of il).mono (tk_clean s1.sl.okk)
  refine ⟨⟨fun j c q => ?_, fun a m => ?_, fun a m => ?_, by simpa using s1.sl.len⟩, s1.new, ?_, fun j k c c' a g1 g2 o1 o2 e1 e2 => ?_⟩
  · by_cases hj : i = j
    · subst hj
      by_cases lt : i < ρ.length
      · rw [List.getElem?_set_self lt] at q
        cases q
        exact ⟨l, _, h1, h2, upd_same, by rw [hb]; exact h4'.append (.cons iv .nil)⟩
      · rw [List.getElem?_eq_none (by simpa using lt)] at q
        cases q
    · rw [List.getElem?_set_ne hj] at q
      have z := s1.sl.at_ j c q
      have other : c.isOwn = true → ∀ b, σ[j]? = some (some (.ref b)) → b ≠ l := fun oc b eb e => by
        subst e
        exact hj (s1.inj i j _ c b ho q rfl oc h1 eb)
      cases c with
      | un => trivial
      | da d =>
        obtain ⟨u, z1, z2⟩ := z
        exact ⟨u, z1, by rw [hb]; exact z2⟩
      | own es =>
        obtain ⟨b, ys, z1, z2, z3, z4⟩ := z
        exact ⟨b, ys, z1, z2, by rw [upd_ne (other rfl b z1)]; exact z3, by rw [hb]; exact z4⟩
      | dic es =>
        obtain ⟨b, ys, z1, z2, z3, z4⟩ := z
        exact ⟨b, ys, z1, z2, by rw [upd_ne (other rfl b z1)]; exact z3, by rw [hb]; exact z4⟩
      | pin b es => exact ⟨z.1, by rw [hb]; exact z.2⟩
      | scr b ns => exact ⟨z.1, by rw [hb]; exact z.2⟩
      | well => exact z
  · obtain ⟨u, w', z, q, g⟩ := s1.sl.wk a m
    exact ⟨u, w', z, by rw [upd_ne fun e => nW (by rw [← e]; exact m)]; exact q, g⟩
  · obtain ⟨n, o, q, so⟩ := s1.sl.ok a m
    refine ⟨n, ?_⟩
    by_cases e : a = l
    · rw [e]
      exact ⟨_, upd_same, trivial⟩
    · rw [upd_ne e]
      exact ⟨o, q, so⟩
  · rw [hid_upd_out nW]
    refine Ex.mut s1.ex ?_
    rw [hid_out nW]
    exact s.new l h2
  · have back : ∀ (j : Nat) (c : Cell), (ρ.set i (.own (ds ++ [d])))[j]? = some c → c.isOwn = true → ∃ c0 : Cell, ρ[j]? = some c0 ∧ c0.isOwn = true := fun j c q o => by
      by_cases hj : i = j
      · subst hj
        exact ⟨_, ho, rfl⟩
      · rw [List.getElem?_set_ne hj] at q
        exact ⟨c, q, o⟩
    obtain ⟨c1, g1, o1⟩ := back j c g1 o1
    obtain ⟨c2, g2, o2⟩ := back k c' g2 o2
    exact s1.inj j k c1 c2 a g1 g2 o1 o2 e1 e2
end
end K19
end

section
set_option Elab.async false
set_option linter.all false
set_option maxRecDepth 100000
set_option maxHeartbeats 0
namespace K19
open PySem PySem.Spec PyProof.Rows L2
def top (i : Nat) : Stmt := PySem.Challenge.pw_belltables_k19_whole_classical_values_be.main.body.getD i (.Pass ⟨0, 0, 0, 0⟩)
def mkD (x : Str) (i : Nat) : He.DefD := ⟨(x, none), x, x, defArgs (top i), defBody (top i), defScope (top i), [], []⟩
def fn : List He.DefD := [mkD "is_whole" 2, mkD "is_between" 3, mkD "is_tuple_of" 4, mkD "is_ratio" 8, mkD "is_row" 9, mkD "ratio" 10, mkD "plus" 11, mkD "times" 12, mkD "is_less" 13, mkD "total" 14, mkD "dot" 15, mkD "is_lot_of" 20, mkD "is_part" 21, mkD "product_of" 22, mkD "are_outcomes" 23, mkD "are_contexts" 24, mkD "is_scenario_by" 25, mkD "sections_by" 26, mkD "all_of" 27, mkD "globals_of" 28, mkD "is_chances" 29, mkD "part_of" 30, mkD "marginal_by" 31, mkD "shared_by" 32, mkD "agree" 33, mkD "is_agreed" 34, mkD "check_scenario" 42, mkD "check_family" 43, mkD "check_agreed" 44, mkD "value_by" 46, mkD "worth_of" 47, mkD "are_wins" 49, mkD "is_game_by" 50, mkD "won_by" 51, mkD "game_value_by" 52, mkD "greatest_by" 53, mkD "classical_by" 54, mkD "check_game" 56, mkD "game_value" 57, mkD "classical_value" 58, mkD "_law_well" 60, mkD "_law_draw" 61, mkD "_law_one" 62, mkD "_law_dealt" 63, mkD "_law_frac" 64, mkD "_law_plus" 65, mkD "_law_times" 66, mkD "_law_below" 67, mkD "_law_total" 68, mkD "_law_contexts" 69, mkD "_law_is_within" 70, mkD "_law_scenario" 71, mkD "_law_sections" 72, mkD "_law_globals" 73, mkD "_law_place" 74, mkD "_law_family" 75, mkD "_law_joint" 76, mkD "_law_game" 77, mkD "_law_paid" 78, mkD "_law_worth" 79, mkD "_law_greatest" 80, mkD "_law_right" 81, mkD "law" 82]
def fa : List He.Fa := [.glo "is_whole", .glo "is_between", .glo "is_tuple_of", .glo "is_ratio", .glo "is_row", .glo "ratio", .glo "plus", .glo "times", .glo "is_less", .glo "total", .glo "dot", .glo "is_lot_of", .glo "is_part", .glo "product_of", .glo "are_outcomes", .glo "are_contexts", .glo "is_scenario_by", .glo "sections_by", .glo "all_of", .glo "globals_of", .glo "is_chances", .glo "part_of", .glo "marginal_by", .glo "shared_by", .glo "agree", .glo "is_agreed", .glo "check_scenario", .glo "check_family", .glo "check_agreed", .glo "value_by", .glo "worth_of", .glo "are_wins", .glo "is_game_by", .glo "won_by", .glo "game_value_by", .glo "greatest_by", .glo "classical_by", .glo "check_game", .glo "game_value", .glo "classical_value", .glo "_law_well", .glo "_law_draw", .glo "_law_one", .glo "_law_dealt", .glo "_law_frac", .glo "_law_plus", .glo "_law_times", .glo "_law_below", .glo "_law_total", .glo "_law_contexts", .glo "_law_is_within", .glo "_law_scenario", .glo "_law_sections", .glo "_law_globals", .glo "_law_place", .glo "_law_family", .glo "_law_joint", .glo "_law_game", .glo "_law_paid", .glo "_law_worth", .glo "_law_greatest", .glo "_law_right", .glo "law", .free "isinstance", .free "int", .free "bool", .free "tuple", .free "len", .free "all", .free "any", .free "zip", .free "range", .free "enumerate", .free "abs", .free "list", .free "sorted", .free "set", .free "sum", .free "max", .free "min", .free "divmod", .free "repr", .int "MOST_OBSERVABLES" 6, .int "MOST_OUTCOMES" 4, .int "MOST_GLOBAL" 64, .glo "ZERO", .glo "ONE"]
end K19
end

section
set_option Elab.async false
set_option linter.all false
set_option maxRecDepth 100000
set_option maxHeartbeats 4000000
namespace K19
open PySem PySem.Spec PyProof.Rows L2

/-! ### the defs as they stand behind the top -/
structure Ct (K : PySem.W.Frag) (mg : Str → Option Value) : Prop where
  g : Gm K mg
  fd : ∀ (j : Nat) (d : He.DefD), fn[j]? = some d → ∃ f fd, FunD K d.name d.qual d.params d.body d.scope [] [] f fd ∧ mg d.name = some (.ref f)
def cx (P : Program) (w : World) (K : PySem.W.Frag) (mg : Str → Option Value) (base : Heap) (N : List Str) (x : Str) (i : Nat) (f : Addr) (cdv : Value) (A : Around) (outer : List Env) (s : Shared) (H : Hp) (E : XK) : Cx :=
  (cxOf CX0 P w K mg base N x (defScope (top i)) f cdv A outer s H E).nox
/-- how a def's body binds -/
def Bnd (x : Str) (i : Nat) (ps : List Str) : Prop := ∀ (kV doc pm : Value) (an : Option Addr) (cdv ct : Value) (us : List Value), us.length = ps.length → bindArgs (PySem.W.fnOf x x (defArgs (top i)) (defBody (top i)) (defScope (top i)) .none kV doc pm an cdv ct) ⟨us, []⟩ = pure (ps.zip us)
section
variable {P : Program} {w : World} {K : PySem.W.Frag} {mg : Str → Option Value} {base : Heap} {N ps : List Str} {x : Str} {i j k : Nat}
def startC (N : List Str) (cs : List Cell) : List Cell := cs ++ List.replicate (N.length - cs.length) .un
theorem start_at {K : PySem.W.Frag} {W O : List Addr} {H : Hp} {N : List Str} {vs : List V} {cs : List Cell} (l : vs.length = cs.length) (h : ∀ (i : Nat) (c : Cell), cs[i]? = some c → ∃ v, vs[i]? = some v ∧ CellOk K W O H (some (some v)) c) (wk : WOk W H) (ok : ∀ a ∈ O, a ∉ W ∧ ∃ o, H a = some o ∧ Sta o) : Sl K W O H (L2.start N vs) (startC N cs) := by
  refine ⟨fun i c e => ?_, wk, ok, ?_⟩
  · unfold startC at e
    unfold L2.start
    by_cases lt : i < cs.length
    · rw [List.getElem?_append_left lt] at e
      obtain ⟨v, h1, h2⟩ := h i c e
      rw [List.getElem?_append_left (by rw [List.length_map, l]; exact lt), List.getElem?_map, h1]
      exact h2
    · rw [List.getElem?_append_right (Nat.le_of_not_lt lt)] at e
      have m := List.mem_of_getElem? e
      rw [List.mem_replicate] at m
      rw [m.2]
      trivial
  · unfold startC L2.start
    rw [List.length_append, List.length_append, List.length_map, List.length_replicate, List.length_replicate, l]
theorem DaL.get {K : PySem.W.Frag} {H : Hp} : ∀ {vs : List V} {ds : List D} {i : Nat} {d : D}, DaL K H vs ds → ds[i]? = some d → ∃ v, vs[i]? = some v ∧ Da K H v d
  | _, _, _, _, .nil, e => by simp at e
  | _, _, 0, _, .cons h l, e => by
    simp at e
    subst e
    exact ⟨_, rfl, h⟩
  | _, _, i + 1, d, .cons h l, e => by
    obtain ⟨v, h1, h2⟩ := DaL.get (i := i) (d := d) l (by simpa using e)
    exact ⟨v, by simpa using h1, h2⟩
/-- a def that does not draw -/
theorem mk_D {S : List D → D → Prop} (C : Ct K mg) (j : Nat) (hd : fn[j]? = some (mkD x i)) (N ps : List Str) (hS : FnScope N ps (defScope (top i))) (hb : Bnd x i ps) (hl : ∀ ds d, S ds d → ds.length = ps.length)
    (hbody : ∀ f cdv A outer s H E, Room k (cx P w K mg base N x i f cdv A outer s H E).A → N.Nodup → ∀ ds d, S ds d → R (cx P w K mg base N x i f cdv A outer s H E) [] (startC N (ds.map .da)) (defBody (top i)) (fun _ => d = .non) fun z => z = d) : Fc P w K mg base (k + 1) x (spD K S) := by
  obtain ⟨f, fd, F, hm⟩ := C.fd j _ hd
  refine ⟨f, fd, ps, F.ok (N := N) hS ?_ ?_, hm, F.kp, F.bindsN hb⟩
  · rintro vs H Q E ⟨ds, d, h1, h2, _⟩
    rw [h1.length, hl ds d h2]
  · intro cdv A outer s H vs Q E hr hsp
    obtain ⟨ds, d, h1, h2, h3⟩ := hsp
    have hr' : Room k (cx P w K mg base N x i f cdv A outer s H E).A := hr
    have b := hbody f cdv A outer s H E hr' hS.nd ds d h2
    have sl : Sl K [] [] H (L2.start N vs) (startC N (ds.map .da)) := by
      refine start_at (by rw [h1.length, List.length_map]) (fun i c e => ?_) (fun a m => by cases m) fun a m => by cases m
      rw [List.getElem?_map] at e
      cases q : ds[i]? with
      | none =>
        rw [q] at e
        cases e
      | some d1 =>
        rw [q] at e
        cases e
        obtain ⟨v, e1, e2⟩ := h1.get q
        refine ⟨v, e1, v, rfl, ?_⟩
        rw [List.nil_append, hid_nil]
        exact e2
    have s3 : S3 K [] [] H H (L2.start N vs) (startC N (ds.map .da)) := by
      refine ⟨sl, fun a m => (by cases m), Ex.refl _, fun i j c c' a e1 e2 o1 o2 _ _ => ?_⟩
      exfalso
      have m := List.mem_of_getElem? e1
      unfold startC at m
      rcases List.mem_append.mp m with m | m
      · obtain ⟨d1, _, q⟩ := List.mem_map.mp m
        rw [← q] at o1
        cases o1
      · rw [List.mem_replicate] at m
        rw [m.2] at o1
        cases o1
    suffices z : SVs (cx P w K mg base N x i f cdv A outer s H E) (defBody (top i)) { nx := fun _ H' => Q .non H', rt := Q } (L2.start N vs) H by
      obtain ⟨t, p, q⟩ := z
      exact ⟨t, p.nox, q⟩
    refine b [] H (L2.start N vs) H s3 { nx := fun _ H' => Q .non H', rt := Q } (fun O' ρ' σ' H' n s' => ?_) fun z v H' e da fr ex wk => ?_
    · have ex := s'.ex
      rw [hid_nil, hid_nil] at ex
      exact h3 .non H' (by rw [n]; exact .im .non) (Fr.im (by rw [n]; rfl)) ex
    · subst e
      rw [hid_nil] at da
      rw [hid_nil, hid_nil] at ex
      exact h3 v H' da fr ex
/-- a def that draws -/
theorem mk_W {S : List D → Prop} {Rs : List D → D → Prop} (C : Ct K mg) (j : Nat) (hd : fn[j]? = some (mkD x i)) (N ps : List Str) (hS : FnScope N ps (defScope (top i))) (hb : Bnd x i ps) (hl : ∀ ds, S ds → ds.length + 1 = ps.length)
    (hbody : ∀ f cdv A outer s H E, Room k (cx P w K mg base N x i f cdv A outer s H E).A → N.Nodup → ∀ wa ds, S ds → R (cx P w K mg base N x i f cdv A outer s H E) [wa] (startC N (.well :: ds.map .da)) (defBody (top i)) (fun _ => Rs ds .non) fun z => Rs ds z) : Fc P w K mg base (k + 1) x (spW K S Rs) := by
  obtain ⟨f, fd, F, hm⟩ := C.fd j _ hd
  refine ⟨f, fd, ps, F.ok (N := N) hS ?_ ?_, hm, F.kp, F.bindsN hb⟩
  · rintro vs H Q E ⟨wa, vr, ds, rfl, _, h1, h2, _⟩
    rw [List.length_cons, h1.length, hl ds h2]
  · intro cdv A outer s H vs Q E hr hsp
    obtain ⟨wa, vr, ds, rfl, wk, h1, h2, h3⟩ := hsp
    have hr' : Room k (cx P w K mg base N x i f cdv A outer s H E).A := hr
    have b := hbody f cdv A outer s H E hr' hS.nd wa ds h2
    have sl : Sl K [wa] [] H (L2.start N (.ref wa :: vr)) (startC N (.well :: ds.map .da)) := by
      refine start_at (by rw [List.length_cons, h1.length, List.length_cons, List.length_map]) (fun i c e => ?_) wk fun a m => by cases m
      cases i with
      | zero =>
        cases e
        exact ⟨.ref wa, rfl, wa, rfl, rfl⟩
      | succ i =>
        rw [List.getElem?_cons_succ, List.getElem?_map] at e
        cases q : ds[i]? with
        | none =>
          rw [q] at e
          cases e
        | some d1 =>
          rw [q] at e
          cases e
          obtain ⟨v, e1, e2⟩ := h1.get q
          refine ⟨v, by rw [List.getElem?_cons_succ]; exact e1, v, rfl, ?_⟩
          rw [List.append_nil]
          exact e2
    have s3 : S3 K [wa] [] H H (L2.start N (.ref wa :: vr)) (startC N (.well :: ds.map .da)) := by
      refine ⟨sl, fun a m => (by cases m), Ex.refl _, fun i j c c' a e1 e2 o1 o2 _ _ => ?_⟩
      exfalso
      have m := List.mem_of_getElem? e1
      unfold startC at m
      rcases List.mem_append.mp m with m | m
      · rcases List.mem_cons.mp m with m | m
        · rw [m] at o1
          cases o1
        · obtain ⟨d1, _, q⟩ := List.mem_map.mp m
          rw [← q] at o1
          cases o1
      · rw [List.mem_replicate] at m
        rw [m.2] at o1
        cases o1
    suffices z : SVs (cx P w K mg base N x i f cdv A outer s H E) (defBody (top i)) { nx := fun _ H' => Q .non H', rt := Q } (L2.start N (.ref wa :: vr)) H by
      obtain ⟨t, p, q⟩ := z
      exact ⟨t, p.nox, q⟩
    refine b [] H (L2.start N (.ref wa :: vr)) H s3 { nx := fun _ H' => Q .non H', rt := Q } (fun O' ρ' σ' H' n s' => ?_) fun z v H' e da fr ex wk => ?_
    · exact h3 .non H' _ n (.im .non) (Fr.im rfl) s'.ex s'.sl.wk
    · exact h3 v H' z e da fr ex wk
end
end K19
end

section
set_option Elab.async false
set_option linter.all false
set_option maxRecDepth 100000
set_option maxHeartbeats 4000000
namespace K19
open PySem PySem.Spec PyProof.Rows L2

/-! ### less known of a tuple's object -/
mutual
inductive Lq : D → D → Prop
  | refl (d : D) : Lq d d
  | any {m : Mk} {ds es : List D} : LqL ds es → Lq (.tup m ds) (.tup .any es)
  | same {m : Mk} {ds es : List D} : LqL ds es → Lq (.tup m ds) (.tup m es)
  | lst {ds es : List D} : LqL ds es → Lq (.lst ds) (.lst es)
inductive LqL : List D → List D → Prop
  | nil : LqL [] []
  | cons {d e : D} {ds es : List D} : Lq d e → LqL ds es → LqL (d :: ds) (e :: es)
end
theorem LqL.refl : ∀ ds : List D, LqL ds ds
  | [] => .nil
  | d :: ds => .cons (.refl d) (LqL.refl ds)
theorem LqL.map {α : Type} {f g : α → D} : ∀ (xs : List α), (∀ x ∈ xs, Lq (f x) (g x)) → LqL (xs.map f) (xs.map g)
  | [], _ => .nil
  | x :: xs, h => .cons (h x (List.mem_cons_self ..)) (LqL.map xs fun y m => h y (List.mem_cons_of_mem _ m))
mutual
theorem Im.lq {K : PySem.W.Frag} {H : Hp} : ∀ {v : V} {d e : D}, Im K H v d → Lq d e → Im K H v e
  | _, _, _, h, .refl _ => h
  | _, _, _, .tup h l, .any q => .tup (m := .any) h.sq (ImL.lq l q)
  | _, _, _, .tup h l, .same q => .tup h (ImL.lq l q)
theorem ImL.lq {K : PySem.W.Frag} {H : Hp} : ∀ {vs : List V} {ds es : List D}, ImL K H vs ds → LqL ds es → ImL K H vs es
  | _, _, _, .nil, .nil => .nil
  | _, _, _, .cons h l, .cons q r => .cons (Im.lq h q) (ImL.lq l r)
end
theorem Da.lq {K : PySem.W.Frag} {H : Hp} {v : V} {d e : D} (h : Da K H v d) (q : Lq d e) : Da K H v e := by
  cases h with
  | im h => exact .im (h.lq q)
  | ls h l =>
    cases q with
    | refl => exact .ls h l
    | lst q => exact .ls h (l.lq q)
theorem Lq.isL {d e : D} (q : Lq d e) : isL d = isL e := by
  cases q <;> rfl
theorem Fr.lq {H : Hp} {v : V} {d e : D} (q : Lq d e) (h : Fr H v d) : Fr H v e := fun ds z => by
  subst z
  cases q with
  | refl => exact h _ rfl
  | lst q => exact h _ rfl
theorem Res.lq {K : PySem.W.Frag} {W O : List Addr} {H H' : Hp} {f : Nat} {v : V} {d e : D} (q : Lq d e) (r : Res K W O H f v d H') : Res K W O H f v e H' :=
  ⟨r.da.lq q, fun z => (r.cl z).lq q, fun z => (r.fr z).lq q, r.ex, r.wk⟩
section
variable {X : Cx} {W : List Addr} {ρ : List Cell} {f f1 f2 f3 : Nat} {e a b c tg iter : Expr} {es : List Expr} {P P1 P2 P3 : D → Prop} {d d1 d2 d3 : D} {pos p : Pos} {ds : List D} {i j : Int} {k : Bool}
theorem E.lq (h : E X W ρ f e P) (k : ∀ d, P d → ∃ d', Lq d d' ∧ P1 d') : E X W ρ f e P1 := fun O σ H s Q q => h O σ H s Q fun v H' d p r => by
  obtain ⟨d', q1, q2⟩ := k d p
  exact q v H' d' q2 (r.lq q1)
theorem ED.lq (h : ED X W ρ f e d) (q : Lq d d1) : ED X W ρ f e d1 := E.lq h fun z e => ⟨d1, by rw [e]; exact q, rfl⟩
/-- what is no list -/
theorem ED.up (h : ED X W ρ f1 e d) (k : isL d = false) : ED X W ρ f e d := E.up h fun z e => by
  rw [e]
  exact k
end

/-! ### the forms of data -/
def nD (n : Nat) : D := .int (n : Int)
def nT (m : Mk) (c : List Nat) : D := .tup m (c.map nD)
/-- a fraction -/
def fr (q : Rat) : D := .tup .any [.int q.num, .int (q.den : Int)]
def row (qs : List Rat) : D := .tup .any (qs.map fr)
def rows (r : List (List Rat)) : D := .tup .any (r.map row)
/-- a scenario -/
def scD (os : List Nat) (cs : List (List Nat)) : D := .tup .any [nT .any os, .tup .any (cs.map (nT .lot))]
/-- a game -/
def gmD (qs : List Rat) (ws : List (List Nat)) : D := .tup .any [row qs, .tup .any (ws.map (nT .any))]
def Bd (b : Nat) (q : Rat) : Prop := q.num.natAbs ≤ 2 ^ b ∧ q.den ≤ 2 ^ b
theorem nodup_nil : True := trivial

/-! ### the first defs -/
section
variable {P : Program} {w : World} {K : PySem.W.Frag} {mg : Str → Option Value} {base : Heap}
theorem b1 {x a : Str} {i : Nat} (h : ∀ (kV doc pm : Value) (an : Option Addr) (cdv ct : Value) (u : Value), bindArgs (PySem.W.fnOf x x (defArgs (top i)) (defBody (top i)) (defScope (top i)) .none kV doc pm an cdv ct) ⟨[u], []⟩ = pure [(a, u)]) : Bnd x i [a] := fun kV doc pm an cdv ct us hl => by
  match us, hl with
  | [u], _ => exact h kV doc pm an cdv ct u
def Swhole : List D → D → Prop := fun ds d => ∃ i, ds = [.int i] ∧ d = .bl true
theorem f_is_whole (C : Ct K mg) : Fc P w K mg base 1 "is_whole" (spD K Swhole) := by
  refine mk_D C 0 rfl ["value"] ["value"] ⟨rfl, rfl, rfl, by decide +kernel, rfl, by decide +kernel, by decide +kernel⟩ (fun _ _ _ _ _ _ us hl => match us, hl with | [_], _ => rfl) (fun ds d s => ?_) ?_
  · obtain ⟨i, rfl, _⟩ := s
    rfl
  intro f cdv A outer s H E hr nd ds d sd
  obtain ⟨i, rfl, rfl⟩ := sd
  refine r_retD (d := .bl (true && !false)) ?_ rfl rfl
  refine e_and (e_isi C.g (e_name 0 rfl) rfl C.g.int rfl) fun _ => e_one (e_not (e_isi C.g (e_name 0 rfl) rfl C.g.bool rfl))
end
end K19
end

section
set_option Elab.async false
set_option linter.all false
set_option maxRecDepth 100000
set_option maxHeartbeats 4000000
namespace K19
open PySem PySem.Spec PyProof.Rows L2

theorem _root_.L2.Room.u64 {k : Nat} {A : Around} (h : Room k A) : A.units + 64 < cLine := by
  have := h.un
  omega
theorem _root_.L2.Room.u65 {k : Nat} {A : Around} (h : Room k A) : A.units + 65 < cLine := by
  have := h.un
  omega
theorem _root_.L2.Room.u0 {k : Nat} {A : Around} (h : Room k A) : A.units < cLine := by
  have := h.un
  omega
/-! ### comparisons once more -/
section
variable {X : Cx} {W : List Addr} {ρ : List Cell} {f f1 f2 f3 : Nat} {e a b c tg iter : Expr} {es : List Expr} {P P1 P2 P3 : D → Prop} {d d1 d2 d3 : D} {pos p : Pos} {ds : List D} {i j : Int} {k l : Bool}
theorem od_eqI : OpD X W rEq (.int i) (.int j) f fun z => z = .bl (i == j) := fun x y O σ H ρ hx hy s Q q => by
  rw [hx.int_inv, hy.int_inv]
  refine ⟨rfl, ?_⟩
  rw [dec_int]
  exact q _ H _ rfl (Res.here s (.bl _))
theorem od_neS {i j : Str} : OpD X W rNe (.str i) (.str j) f fun z => z = .bl (!(i == j)) := fun x y O σ H ρ hx hy s Q q => by
  rw [hx.str_inv, hy.str_inv]
  refine ⟨rfl, ?_⟩
  rw [dec_str]
  exact q _ H _ rfl (Res.here s (.bl _))
theorem e_chain {op op' : CmpOp} {r r' : R2} (ho : OpR X (compareOp op) r) (ho' : OpR X (compareOp op') r') (ha : ED X W ρ 0 a d1) (hb : ED X W ρ 0 b d2) (hc : ED X W ρ 0 c d3) (h1 : OpD X W r d1 d2 0 fun z => z = .bl k) (h2 : OpD X W r' d2 d3 f fun z => z = .bl l)
    (hm : lastMarks [op, op'] [b, c] = false := by with_unfolding_all rfl) : ED X W ρ f (.Compare a [op, op'] [b, c] pos) (.bl (k && l)) := fun O σ H s Q q => by
  refine ⟨_, pe_chain ho ho' ev_pe ev_pe ev_pe hm, ha O σ H s _ fun x H1 z1 p1 r1 => ?_⟩
  subst p1
  have s1 := s.mono r1.ex r1.wk
  refine hb O σ H1 s1 _ fun y H2 z2 p2 r2 => ?_
  subst p2
  have s2 := s1.mono r2.ex r2.wk
  refine h1 x y O σ H2 ρ (r1.da.mono r2.ex) r2.da s2 _ fun v H3 z3 p3 r3 => ?_
  subst p3
  have s3 := s2.mono r3.ex r3.wk
  refine ⟨k, r3.da.bl_inv, ?_⟩
  cases k with
  | false => exact q _ H3 _ rfl ((Res.here s3 (.bl _)).later ((r1.ex.trans r2.ex).trans r3.ex) r3.wk)
  | true =>
    refine hc O σ H3 s3 _ fun u H4 z4 p4 r4 => ?_
    subst p4
    exact h2 y u O σ H4 ρ (r2.da.mono (r3.ex.trans r4.ex)) r4.da (s3.mono r4.ex r4.wk) _ fun v' H5 z5 p5 r5 => q v' H5 z5 p5 (r5.later (((r1.ex.trans r2.ex).trans r3.ex).trans r4.ex) r4.wk)
end
theorem ixN_nat {n j : Nat} (h : j < n) : ixN n (j : Int) = some j := by
  unfold ixN
  rw [if_pos (by omega), if_pos (by omega)]
  rfl
/-! ### storing -/
def cellOf (f : Nat) (d : D) : Cell := match d with
  | .lst ds => if 2 ≤ f then .own ds else .da (.lst ds)
  | d => .da d
def pushO (f : Nat) (d : D) (v : V) (O : List Addr) : List Addr := match d, v with
  | .lst _, .ref a => if 2 ≤ f then a :: O else O
  | _, _ => O
section
variable {K : PySem.W.Frag} {W O : List Addr} {H0 H H' : Hp} {σ : L2.St} {ρ : List Cell} {f : Nat} {v : V} {d : D} {i : Nat}
theorem S3.store (s : S3 K W O H0 H σ ρ) (hf : 1 ≤ f) (r : Res K W O H f v d H') (i : Nat) : S3 K W (pushO f d v O) H0 H' σ ρ ∧ S3 K W (pushO f d v O) H0 H' (σ.set i (some v)) (ρ.set i (cellOf f d)) := by
  have plain : ∀ d, Res K W O H f v d H' → S3 K W O H0 H' σ ρ ∧ S3 K W O H0 H' (σ.set i (some v)) (ρ.set i (.da d)) := fun d r => ⟨s.mono r.ex r.wk, (s.mono r.ex r.wk).put (r.cl hf) i⟩
  cases d with
  | lst ds =>
    unfold pushO cellOf
    by_cases h2 : 2 ≤ f
    · obtain ⟨a, rfl, n, x1, s1, s2⟩ := s.own (ds := ds) (v := v) (H' := H') ⟨r.da, fun _ => r.cl hf, fun _ => r.fr h2, r.ex, r.wk⟩ i
      simp only [if_pos h2]
      exact ⟨s1, s2⟩
    · simp only [if_neg h2]
      cases v with
      | ref a => exact plain _ r
      | _ => exact plain _ r
  | _ => exact plain _ r
end
section
variable {X : Cx} {W : List Addr} {ρ : List Cell} {f f1 f2 f3 : Nat} {e a b c tg iter : Expr} {es : List Expr} {P P1 P2 P3 : D → Prop} {d d1 d2 d3 : D} {pos p pos' : Pos} {ds : List D} {rest body els : List Stmt} {N N1 : List Cell → Prop} {Rt : D → Prop} {x y z : Str}
/-- x, y = e1, e2 (two plain names); 2 as flag: a fresh list that its slot owns -/
theorem r_pair (i j : Nat) (f1 f2 : Nat) {px py pt : Pos} {kt k2 pt2} (ha : E X W ρ f1 a P1) (hb : E X W ρ f2 b P2) (k : ∀ d1 d2, P1 d1 → P2 d2 → R X W ((ρ.set i (cellOf f1 d1)).set j (cellOf f2 d2)) rest N Rt) (hN : X.N.Nodup) (hc : X.calm = true := by rfl) (g1 : 1 ≤ f1 := by decide) (g2 : 1 ≤ f2 := by decide)
    (hi : X.N[i]? = some x := by rfl) (hj : X.N[j]? = some y := by rfl) (hij : i ≠ j := by decide) (hx : X.env.scope.names.lookup x = some .local := by rfl) (hy : X.env.scope.names.lookup y = some .local := by rfl)
    (hw : swappedStores [.Tuple [.Name x px, .Name y py] kt pt] (.Tuple [a, b] k2 pt2) X.env = pure (some [x, y]) := by rfl) (hs : swapsWithSole [.Tuple [.Name x px, .Name y py] kt pt] (.Tuple [a, b] k2 pt2) pos.line X.env = pure false := by rfl)
    (s1 : starEach [a, b] X.env = (false, eval a X.env) :: starEach [b] X.env := by rfl) (s2 : starEach [b] X.env = (false, eval b X.env) :: starEach [] X.env := by rfl) :
    R X W ρ (.Assign [.Tuple [.Name x px, .Name y py] kt pt] (.Tuple [a, b] k2 pt2) pos :: rest) N Rt := fun O H0 σ H s D nx rt => by
  refine ⟨_, pss_cons (ps_par hc hN hi hj hij hx hy (pa_cons ev_pe (pa_cons ev_pe pa_nil s2) s1) hw hs) svs_pss, ?_⟩
  refine ha O σ H s.sl _ fun v1 H1 d1 p1 r1 => ?_
  obtain ⟨s1, t1⟩ := s.store g1 r1 i
  refine hb _ σ H1 s1.sl _ fun v2 H2 d2 p2 r2 => ?_
  obtain ⟨_, t2⟩ := t1.store g2 r2 j
  exact ⟨v1, v2, rfl, k d1 d2 p1 p2 _ H0 _ H2 t2 D nx rt⟩
/-- three -/
theorem r_tri (i j l : Nat) (f1 f2 f3 : Nat) {px py pz pt : Pos} {kt k2 pt2} (ha : E X W ρ f1 a P1) (hb : E X W ρ f2 b P2) (hd : E X W ρ f3 c P3) (k : ∀ d1 d2 d3, P1 d1 → P2 d2 → P3 d3 → R X W (((ρ.set i (cellOf f1 d1)).set j (cellOf f2 d2)).set l (cellOf f3 d3)) rest N Rt) (hN : X.N.Nodup) (hc : X.calm = true := by rfl) (g1 : 1 ≤ f1 := by decide) (g2 : 1 ≤ f2 := by decide) (g3 : 1 ≤ f3 := by decide)
    (hi : X.N[i]? = some x := by rfl) (hj : X.N[j]? = some y := by rfl) (hl : X.N[l]? = some z := by rfl) (hij : i ≠ j := by decide) (hil : i ≠ l := by decide) (hjl : j ≠ l := by decide) (hx : X.env.scope.names.lookup x = some .local := by rfl) (hy : X.env.scope.names.lookup y = some .local := by rfl) (hz : X.env.scope.names.lookup z = some .local := by rfl)
    (hw : swappedStores [.Tuple [.Name x px, .Name y py, .Name z pz] kt pt] (.Tuple [a, b, c] k2 pt2) X.env = pure (some [x, y, z]) := by rfl) (hs : swapsWithSole [.Tuple [.Name x px, .Name y py, .Name z pz] kt pt] (.Tuple [a, b, c] k2 pt2) pos.line X.env = pure false := by rfl)
    (s1 : starEach [a, b, c] X.env = (false, eval a X.env) :: starEach [b, c] X.env := by rfl) (s2 : starEach [b, c] X.env = (false, eval b X.env) :: starEach [c] X.env := by rfl) (s3 : starEach [c] X.env = (false, eval c X.env) :: starEach [] X.env := by rfl) :
    R X W ρ (.Assign [.Tuple [.Name x px, .Name y py, .Name z pz] kt pt] (.Tuple [a, b, c] k2 pt2) pos :: rest) N Rt := fun O H0 σ H s D nx rt => by
  refine ⟨_, pss_cons (ps_par3 hc hN hi hj hl hij hil hjl hx hy hz (pa_cons ev_pe (pa_cons ev_pe (pa_cons ev_pe pa_nil s3) s2) s1) hw hs) svs_pss, ?_⟩
  refine ha O σ H s.sl _ fun v1 H1 d1 p1 r1 => ?_
  obtain ⟨s1, t1⟩ := s.store g1 r1 i
  refine hb _ σ H1 s1.sl _ fun v2 H2 d2 p2 r2 => ?_
  obtain ⟨s2, _⟩ := s1.store g2 r2 j
  obtain ⟨_, t2⟩ := t1.store g2 r2 j
  refine hd _ σ H2 s2.sl _ fun v3 H3 d3 p3 r3 => ?_
  obtain ⟨_, t3⟩ := t2.store g3 r3 l
  exact ⟨v1, v2, v3, rfl, k d1 d2 d3 p1 p2 p3 _ H0 _ H3 t3 D nx rt⟩
/-- x, y = a pair -/
theorem r_unpack (i j : Nat) {px py pt : Pos} {kt} (h : E X W ρ 0 e P) (k : ∀ d, P d → ∃ m d1 d2, d = .tup m [d1, d2] ∧ R X W ((ρ.set i (.da d1)).set j (.da d2)) rest N Rt) (hN : X.N.Nodup) (hc : X.calm = true := by rfl)
    (hi : X.N[i]? = some x := by rfl) (hj : X.N[j]? = some y := by rfl) (hx : Loc X.env.scope x := by first | exact Or.inl rfl | exact Or.inr rfl) (hy : Loc X.env.scope y := by first | exact Or.inl rfl | exact Or.inr rfl)
    (hs : swapsWithSole [.Tuple [.Name x px, .Name y py] kt pt] e pos.line X.env = pure false := by rfl) (hw : swappedStores [.Tuple [.Name x px, .Name y py] kt pt] e X.env = pure none := by rfl)
    (h1 : (assignEach [.Tuple [.Name x px, .Name y py] kt pt] X.env).map (·.2) = [assign (.Tuple [.Name x px, .Name y py] kt pt) X.env] := by rfl)
    (hf : X.fn x = true ∨ X.env.scope.names.lookup x = some .local := by first | exact .inl rfl | exact .inr rfl) (hf2 : X.fn y = true ∨ X.env.scope.names.lookup y = some .local := by first | exact .inl rfl | exact .inr rfl) :
    R X W ρ (.Assign [.Tuple [.Name x px, .Name y py] kt pt] e pos :: rest) N Rt := fun O H0 σ H s D nx rt => by
  refine ⟨_, pss_cons (ps_asg ev_pe (pg_tup (n := 2) hc (pgs_cons (pg_name hN hi hx hf) (pgs_cons (pg_name hN hj hy hf2) pgs_nil))) hs hw h1) svs_pss, ?_⟩
  refine h O σ H s.sl _ fun v H1 d pd r => ?_
  obtain ⟨m, d1, d2, rfl, k⟩ := k d pd
  obtain ⟨a, xs, rfl, h1, h2⟩ := r.da.tup_inv
  have s1 := s.mono r.ex r.wk
  cases h2 with
  | cons q1 l1 =>
    cases l1 with
    | cons q2 l2 =>
      cases l2
      rename_i v1 v2
      refine ⟨a, [v1, v2], rfl, (hid_le W H1).tk _ _ .any h1.sq, rfl, v1, [v2], rfl, v2, [], rfl, rfl, ?_⟩
      exact k O H0 _ H1 ((s1.put (.im (q1.mono (tk_clean s1.sl.okk))) i).put (.im (q2.mono (tk_clean s1.sl.okk))) j) D nx rt
/-- an owned list moves -/
theorem r_move (i j : Nat) (ho : ρ[j]? = some (.own ds)) (k : R X W ((ρ.set j .un).set i (.own ds)) rest N Rt) (hN : X.N.Nodup) (hij : i ≠ j := by decide) (hi : X.N[i]? = some x := by rfl) (hj : X.N[j]? = some y := by rfl) (hx : Loc X.env.scope x := by first | exact Or.inl rfl | exact Or.inr rfl)
    (hv : Vis X.env.scope y := by first | exact Or.inl rfl | exact Or.inr (Or.inl rfl) | exact Or.inr (Or.inr rfl)) (hs : swapsWith (.Name y p) (some (.Name x pos')) pos.line X.env = pure false := by rfl) (hf : X.fn x = true ∨ X.env.scope.names.lookup x = some .local := by first | exact .inl rfl | exact .inr rfl)
    (hd : (y == ("__debug__" : Str)) = false := by decide) (hcd : (y == ("__classdict__" : Str)) = false := by decide) : R X W ρ (.Assign [.Name x pos'] (.Name y p) pos :: rest) N Rt := fun O H0 σ H s D nx rt => by
  obtain ⟨a, xs, h1, h2, h3, h4⟩ := s.sl.at_ j _ ho
  refine ⟨_, pss_cons (ps_set hN hi hx (pe_var hj hv hd hcd) hs hf) svs_pss, _, h1, ?_⟩
  refine k O H0 _ H ((s.forget j).take (c := .own ds) h2 ⟨a, xs, rfl, h2, h3, h4⟩ (fun l c' e oc z => ?_) i) D nx rt
  obtain ⟨n, e'⟩ := own_set e oc rfl
  exact n (s.inj l j c' _ a e' ho oc rfl z h1)
/-- e as a statement -/
theorem r_expr (h : E X W ρ 0 e P) (k : R X W ρ rest N Rt) (hs : swapsWith e none pos.line X.env = pure false := by rfl) : R X W ρ (.Expr e pos :: rest) N Rt := fun O H0 σ H s D nx rt => by
  refine ⟨_, pss_cons (ps_expr ev_pe hs) svs_pss, ?_⟩
  exact h O σ H s.sl _ fun v H1 d pd r => k O H0 σ H1 (s.mono r.ex r.wk) D nx rt
/-- while -/
theorem r_while (J : Nat → List Cell → Prop) (m0 : Nat) (h0 : J m0 ρ) (hb : ∀ m ρ', J m ρ' → ∃ Pb : Bool → Prop, T X W ρ' c Pb ∧ (Pb true → R X W ρ' body (fun ρ2 => ∃ m', m' < m ∧ J m' ρ2) Rt) ∧ (Pb false → R X W ρ' rest N Rt))
    (hp : PassesOwn (model X.prog X.w) X.A X.env X.xe := by exact PassesOwn.never) : R X W ρ (.While c body [] pos :: rest) N Rt := fun O H0 σ H s D nx rt => by
  refine ⟨_, pss_cons (ps_while hp tv_pt svs_pss) svs_pss, ?_⟩
  refine ⟨fun m σ' H' => ∃ O' ρ', J m ρ' ∧ S3 X.K W O' H0 H' σ' ρ', ⟨m0, O, ρ, h0, s⟩, fun m σ' H' ⟨O', ρ', hJ, s'⟩ => ?_⟩
  obtain ⟨Pb, t, k1, k2⟩ := hb m ρ' hJ
  refine t O' σ' H' s'.sl _ fun b H1 pb e1 w1 => ?_
  have s1 := s'.mono e1 w1
  cases b with
  | true =>
    rw [if_pos rfl]
    refine ⟨fun σ2 H2 => ∃ m', m' < m ∧ ∃ O2 ρ2, J m' ρ2 ∧ S3 X.K W O2 H0 H2 σ2 ρ2, fun σ2 H2 ⟨m', l, q⟩ => ⟨m', l, q⟩, ?_⟩
    exact k1 pb O' H0 σ' H1 s1 _ (fun O2 ρ2 σ2 H2 ⟨m', l, q⟩ s2 => ⟨m', l, O2, ρ2, q, s2⟩) rt
  | false =>
    rw [if_neg (by decide)]
    exact k2 pb O' H0 σ' H1 s1 D nx rt
/-- xs[e1] = e2, xs owned -/
theorem r_setItem (i : Nat) {p1 p2 : Pos} {ix : Expr} (ho : ρ[i]? = some (.own ds)) (h : E X W ρ 0 e P) (hx : E X W ρ 0 ix P1) (k : ∀ d d', P d → P1 d' → isL d = false ∧ ∃ n : Nat, d' = .int (n : Int) ∧ n < ds.length ∧ R X W (ρ.set i (.own (ds.set n d))) rest N Rt) (hN : X.N[i]? = some x := by rfl) (hv : Vis X.env.scope x := by first | exact Or.inl rfl | exact Or.inr (Or.inl rfl) | exact Or.inr (Or.inr rfl))
    (hd : (x == ("__debug__" : Str)) = false := by decide) (hcd : (x == ("__classdict__" : Str)) = false := by decide)
    (hs : swapsWithSole [.Subscript (.Name x p1) ix p2] e pos.line X.env = pure false := by rfl) (hw : swappedStores [.Subscript (.Name x p1) ix p2] e X.env = pure none := by rfl)
    (h1 : (assignEach [.Subscript (.Name x p1) ix p2] X.env).map (·.2) = [assign (.Subscript (.Name x p1) ix p2) X.env] := by rfl)
    (ha : ∀ v, assign (.Subscript (.Name x p1) ix p2) X.env v = (do
      let ov ← holding [v] (eval (.Name x p1) X.env)
      let iv ← holding [v, ov] (eval ix X.env)
      standAt p2
      holding [v, ov, iv] (setItem ov iv v)
      release [v, ov, iv] []) := by intro _; rfl) :
    R X W ρ (.Assign [.Subscript (.Name x p1) ix p2] e pos :: rest) N Rt := fun O H0 σ H s D nx rt => by
  obtain ⟨l, xs0, h1', h2, h3, h4⟩ := s.sl.at_ i _ ho
  refine ⟨_, pss_cons (ps_asg ev_pe (pg_sub (pe_var hN hv hd hcd) ev_pe set_list ha) hs hw h1) svs_pss, ?_⟩
  refine h O σ H s.sl _ fun v H1 d pd r => ?_
  have sB := s.mono r.ex r.wk
  refine ⟨_, h1', ?_⟩
  refine hx O σ H1 sB.sl _ fun v2 H2 d' pd' r2 => ?_
  obtain ⟨il, n, rfl, ln, k⟩ := k d d' pd pd'
  have s1 := sB.mono r2.ex r2.wk
  obtain ⟨l', xs', g1', h2', h3', h4'⟩ := s1.sl.at_ i _ ho
  rw [h1'] at g1'
  cases g1'
  refine ⟨l, xs', (n : Int), n, rfl, r2.da.int_inv, h3', ixN_nat (by rw [h4'.length]; exact ln), ?_⟩
  refine k O H0 σ _ ?_ D nx rt
  have inO : l ∈ W ++ O := List.mem_append_right _ h2
  have nW := (s1.sl.ok l h2).1
  have hb : hid (W ++ O) (upd H2 l (.lst (xs'.set n v))) = hid (W ++ O) H2 := hid_upd_in inO
  have iv : Im X.K (hid (W ++ O) H2) v d := ((r.da.mono r2.ex).im_of il).mono (tk_clean s1.sl.okk)
  refine ⟨⟨fun j c q => ?_, fun a m => ?_, fun a m => ?_, by simpa using s1.sl.len⟩, s1.new, ?_, fun j k c c' a g1 g2 o1 o2 e1 e2 => ?_⟩
  · by_cases hj : i = j
    · subst hj
      by_cases lt : i < ρ.length
      · rw [List.getElem?_set_self lt] at q
        cases q
        exact ⟨l, _, h1', h2, upd_same, by rw [hb]; exact h4'.set iv n⟩
      · rw [List.getElem?_eq_none (by simpa using lt)] at q
        cases q
    · rw [List.getElem?_set_ne hj] at q
      have z := s1.sl.at_ j c q
      have other : c.isOwn = true → ∀ b, σ[j]? = some (some (.ref b)) → b ≠ l := fun oc b eb e => by
        subst e
        exact hj (s1.inj i j _ c b ho q rfl oc h1' eb)
      cases c with
      | un => trivial
      | da d =>
        obtain ⟨u, z1, z2⟩ := z
        exact ⟨u, z1, by rw [hb]; exact z2⟩
      | own es =>
        obtain ⟨b, ys, z1, z2, z3, z4⟩ := z
        exact ⟨b, ys, z1, z2, by rw [upd_ne (other rfl b z1)]; exact z3, by rw [hb]; exact z4⟩
      | dic es =>
        obtain ⟨b, ys, z1, z2, z3, z4⟩ := z
        exact ⟨b, ys, z1, z2, by rw [upd_ne (other rfl b z1)]; exact z3, by rw [hb]; exact z4⟩
      | pin b es => exact ⟨z.1, by rw [hb]; exact z.2⟩
      | scr b ns => exact ⟨z.1, by rw [hb]; exact z.2⟩
      | well => exact z
  · obtain ⟨u, w', z, q, g⟩ := s1.sl.wk a m
    exact ⟨u, w', z, by rw [upd_ne fun e => nW (by rw [← e]; exact m)]; exact q, g⟩
  · obtain ⟨n, o, q, so⟩ := s1.sl.ok a m
    refine ⟨n, ?_⟩
    by_cases e : a = l
    · rw [e]
      exact ⟨_, upd_same, trivial⟩
    · rw [upd_ne e]
      exact ⟨o, q, so⟩
  · rw [hid_upd_out nW]
    refine Ex.mut s1.ex ?_
    rw [hid_out nW]
    exact s.new l h2
  · have back : ∀ (j : Nat) (c : Cell), (ρ.set i (.own (ds.set n d)))[j]? = some c → c.isOwn = true → ∃ c0 : Cell, ρ[j]? = some c0 ∧ c0.isOwn = true := fun j c q o => by
      by_cases hj : i = j
      · subst hj
        exact ⟨_, ho, rfl⟩
      · rw [List.getElem?_set_ne hj] at q
        exact ⟨c, q, o⟩
    obtain ⟨c1, g1, o1⟩ := back j c g1 o1
    obtain ⟨c2, g2, o2⟩ := back k c' g2 o2
    exact s1.inj j k c1 c2 a g1 g2 o1 o2 e1 e2
/-- y = [.. for .. in ..], y a plain local -/
theorem r_setLc (i : Nat) {t : Tgt} {elt : Expr} {ifs : List Expr} {scope : Scope} {own : List (Str × Nat)} {pp : D → Bool} {gg : D → D} {lpos py : Pos} (ff : Nat) (hi : ITD X W ρ 0 tg iter ds) (ok : BlkOk X.N X.env.scope scope own) (hg : Bk X scope fun Y => PG Y tg (t.g X.K)) (hj : ∀ j ∈ t.js, j ∈ own.map (·.2)) (hf : ∀ d ∈ ds, t.fits d = true)
    (ht : ∀ d ∈ ds, Bk X scope fun Y => Ts Y W (t.put d (wipeC ρ (own.map (·.2)))) ifs fun z => z = pp d) (he : ∀ d ∈ ds, pp d = true → Bk X scope fun Y => ED Y W (t.put d (wipeC ρ (own.map (·.2)))) 0 elt (gg d))
    (hl : ∀ d ∈ ds, pp d = true → isL (gg d) = false) (hz : ds.length ≤ 90000) (k : R X W (ρ.set i (cellOf ff (.lst ((ds.filter pp).map gg)))) rest N Rt) (hN : X.N.Nodup) (g1 : 1 ≤ ff := by decide) (hc : X.calm = true := by rfl) (hy : X.N[i]? = some y := by rfl) (hyl : X.env.scope.names.lookup y = some .local := by rfl)
    (hsw : swapsWith (.ListComp elt [⟨tg, iter, ifs, 0⟩] scope lpos) (some (.Name y py)) pos.line X.env = pure true := by exact sw_true rfl rfl rfl rfl) (hs : ∀ x, foldedSetIterable iter X.env x = pure x := by intro _; rfl) :
    R X W ρ (.Assign [.Name y py] (.ListComp elt [⟨tg, iter, ifs, 0⟩] scope lpos) pos :: rest) N Rt := fun O H0 σ H s D nx rt => by
  refine ⟨_, pss_cons (ps_setLc hc hN hy hyl hsw iv_pi ok hg bT_ok bE_ok hs) svs_pss, ?_⟩
  unfold tSeq tAsg
  refine lc_read (f := ff) hi hj hf ht he hl hz s.sl _ fun v H1 d pd r => ?_
  subst pd
  exact k _ H0 _ H1 (s.store g1 r i).2 D nx rt
/-- two clauses -/
theorem r_setLc2 (i : Nat) {t t1 : Tgt} {elt tg1 iter1 : Expr} {ifs1 : List Expr} {scope : Scope} {own : List (Str × Nat)} {ds1 : D → List D} {p2 : D → D → Bool} {g2 : D → D → D} {vs1 : List Nat} {lpos py : Pos} (ff : Nat) (hi : ITD X W ρ 0 tg iter ds) (ok : BlkOk X.N X.env.scope scope own) (hg : Bk X scope fun Y => PG Y tg (t.g X.K)) (hg1 : Bk X scope fun Y => PG Y tg1 (t1.g X.K)) (hv : ∀ j ∈ vs1, j ∈ own.map (·.2)) (hj : ∀ j ∈ t.js, j ∈ own.map (·.2)) (hf : ∀ d ∈ ds, t.fits d = true) (hj1 : ∀ j ∈ t1.js, j ∈ vs1)
    (hi1 : ∀ d ∈ ds, Bk X scope fun Y => ITD Y W (blk1 ρ (own.map (·.2)) t d) 1 tg1 iter1 (ds1 d)) (hf1 : ∀ d ∈ ds, ∀ e ∈ ds1 d, t1.fits e = true)
    (ht : ∀ d ∈ ds, ∀ e ∈ ds1 d, Bk X scope fun Y => Ts Y W (blk2 ρ (own.map (·.2)) vs1 t t1 d e) ifs1 fun z => z = p2 d e)
    (he : ∀ d ∈ ds, ∀ e ∈ ds1 d, p2 d e = true → Bk X scope fun Y => ED Y W (blk2 ρ (own.map (·.2)) vs1 t t1 d e) 0 elt (g2 d e))
    (hl : ∀ d ∈ ds, ∀ e ∈ ds1 d, p2 d e = true → isL (g2 d e) = false) (hz : (ds.flatMap fun d => ds1 d).length ≤ 90000) (k : R X W (ρ.set i (cellOf ff (.lst (ds.flatMap (innerD ds1 p2 g2))))) rest N Rt) (hN : X.N.Nodup) (gf : 1 ≤ ff := by decide) (hc : X.calm = true := by rfl) (hy : X.N[i]? = some y := by rfl) (hyl : X.env.scope.names.lookup y = some .local := by rfl)
    (hsw : swapsWith (.ListComp elt [⟨tg, iter, [], 0⟩, ⟨tg1, iter1, ifs1, 0⟩] scope lpos) (some (.Name y py)) pos.line X.env = pure true := by exact sw_true rfl rfl rfl rfl)
    (hs : ∀ x, foldedSetIterable iter X.env x = pure x := by intro _; rfl) (hs1 : ∀ env x, foldedSetIterable iter1 env x = pure x := by intro _ _; rfl) :
    R X W ρ (.Assign [.Name y py] (.ListComp elt [⟨tg, iter, [], 0⟩, ⟨tg1, iter1, ifs1, 0⟩] scope lpos) pos :: rest) N Rt := fun O H0 σ H s D nx rt => by
  refine ⟨_, pss_cons (ps_setLc2 hc hN hy hyl hsw iv_pi ok hv hg (fun _ _ _ _ _ => pts_nil) bI_ok hg1 bT_ok bE_ok hs hs1) svs_pss, ?_⟩
  unfold tSeq tAsg
  refine lc2_read (f := ff) hi hj hf hj1 hi1 hf1 ht he hl hz s.sl _ fun v H1 d pd r => ?_
  subst pd
  exact k _ H0 _ H1 (s.store gf r i).2 D nx rt
end
end K19
end

section
set_option Elab.async false
set_option linter.all false
set_option maxRecDepth 100000
set_option maxHeartbeats 4000000
namespace K19
open PySem PySem.Spec PyProof.Rows L2
/-! ### comprehensions over what a list of things stands for -/
open Classical in
noncomputable def lift {α β : Type} (xs : List α) (g0 : α → D) (h : α → β) (z : β) : D → β := fun d => if q : ∃ x, x ∈ xs ∧ g0 x = d then h q.choose else z
theorem lift_at {α β : Type} {xs : List α} {g0 : α → D} {h : α → β} {z : β} (inj : ∀ x ∈ xs, ∀ y ∈ xs, g0 x = g0 y → x = y) {x : α} (m : x ∈ xs) : lift xs g0 h z (g0 x) = h x := by
  have q : ∃ y, y ∈ xs ∧ g0 y = g0 x := ⟨x, m, rfl⟩
  unfold lift
  rw [dif_pos q]
  rw [inj _ q.choose_spec.1 x m q.choose_spec.2]
theorem lift_list {α : Type} {g0 gg : α → D} {p : α → Bool} {z1 : Bool} {z2 : D} (zs : List α) (inj : ∀ x ∈ zs, ∀ y ∈ zs, g0 x = g0 y → x = y) : ∀ xs : List α, (∀ x ∈ xs, x ∈ zs) → ((xs.map g0).filter (lift zs g0 p z1)).map (lift zs g0 gg z2) = (xs.filter p).map gg
  | [], _ => rfl
  | x :: xs, h => by
    have ih := lift_list (gg := gg) (p := p) (z1 := z1) (z2 := z2) zs inj xs fun y m => h y (List.mem_cons_of_mem _ m)
    have m := h x (List.mem_cons_self ..)
    rw [List.map_cons, List.filter_cons, List.filter_cons, lift_at inj m]
    cases p x with
    | true =>
      rw [if_pos rfl, if_pos rfl, List.map_cons, List.map_cons, ih, lift_at inj m]
    | false =>
      rw [if_neg (by decide), if_neg (by decide), ih]
section
variable {X : Cx} {W : List Addr} {ρ : List Cell} {f : Nat} {tg iter elt : Expr} {ifs : List Expr} {scope : Scope} {own : List (Str × Nat)} {t : Tgt} {pos : Pos} {α : Type} {xs : List α} {g0 gg : α → D} {p : α → Bool}
theorem e_lcA (hc : X.calm = true) (hN : X.N.Nodup) (hi : ITD X W ρ 0 tg iter (xs.map g0)) (ok : BlkOk X.N X.env.scope scope own) (hg : Bk X scope fun Y => PG Y tg (t.g X.K)) (hj : ∀ j ∈ t.js, j ∈ own.map (·.2)) (hf : ∀ x ∈ xs, t.fits (g0 x) = true) (inj : ∀ x ∈ xs, ∀ y ∈ xs, g0 x = g0 y → x = y)
    (ht : ∀ x ∈ xs, Bk X scope fun Y => Ts Y W (t.put (g0 x) (wipeC ρ (own.map (·.2)))) ifs fun z => z = p x) (he : ∀ x ∈ xs, p x = true → Bk X scope fun Y => ED Y W (t.put (g0 x) (wipeC ρ (own.map (·.2)))) 0 elt (gg x))
    (hl : ∀ x ∈ xs, p x = true → isL (gg x) = false) (hz : xs.length ≤ 90000) (hs : ∀ x, foldedSetIterable iter X.env x = pure x := by intro _; rfl) : ED X W ρ f (.ListComp elt [⟨tg, iter, ifs, 0⟩] scope pos) (.lst ((xs.filter p).map gg)) := by
  rw [← lift_list (p := p) (z1 := false) (z2 := .non) xs inj xs fun _ m => m]
  refine e_lc (t := t) (own := own) hc hN hi ok hg hj (fun d m => ?_) (fun d m => ?_) (fun d m e => ?_) (fun d m e => ?_) (by rw [List.length_map]; exact hz) hs
  · obtain ⟨x, mx, rfl⟩ := List.mem_map.mp m
    exact hf x mx
  · obtain ⟨x, mx, rfl⟩ := List.mem_map.mp m
    rw [lift_at inj mx]
    exact ht x mx
  · obtain ⟨x, mx, rfl⟩ := List.mem_map.mp m
    rw [lift_at inj mx] at e ⊢
    exact he x mx e
  · obtain ⟨x, mx, rfl⟩ := List.mem_map.mp m
    rw [lift_at inj mx] at e ⊢
    exact hl x mx e
theorem e_lcA0 (hc : X.calm = true) (hN : X.N.Nodup) (hi : ITD X W ρ 0 tg iter (xs.map g0)) (ok : BlkOk X.N X.env.scope scope own) (hg : Bk X scope fun Y => PG Y tg (t.g X.K)) (hj : ∀ j ∈ t.js, j ∈ own.map (·.2)) (hf : ∀ x ∈ xs, t.fits (g0 x) = true) (inj : ∀ x ∈ xs, ∀ y ∈ xs, g0 x = g0 y → x = y)
    (he : ∀ x ∈ xs, Bk X scope fun Y => ED Y W (t.put (g0 x) (wipeC ρ (own.map (·.2)))) 0 elt (gg x))
    (hl : ∀ x ∈ xs, isL (gg x) = false) (hz : xs.length ≤ 90000) (hs : ∀ x, foldedSetIterable iter X.env x = pure x := by intro _; rfl) : ED X W ρ f (.ListComp elt [⟨tg, iter, [], 0⟩] scope pos) (.lst (xs.map gg)) := by
  have h := e_lcA (f := f) (pos := pos) (p := fun _ => true) hc hN hi ok hg hj hf inj (fun _ _ _ _ _ _ _ => ts_nil) (fun x m _ => he x m) (fun x m _ => hl x m) hz hs
  rw [List.filter_eq_self.mpr fun _ _ => rfl] at h
  exact h
variable {x y : Str} {rest : List Stmt} {N : List Cell → Prop} {Rt : D → Prop}
theorem r_setLcA (i : Nat) {lpos py : Pos} (ff : Nat) (hi : ITD X W ρ 0 tg iter (xs.map g0)) (ok : BlkOk X.N X.env.scope scope own) (hg : Bk X scope fun Y => PG Y tg (t.g X.K)) (hj : ∀ j ∈ t.js, j ∈ own.map (·.2)) (hf : ∀ x ∈ xs, t.fits (g0 x) = true) (inj : ∀ x ∈ xs, ∀ y ∈ xs, g0 x = g0 y → x = y)
    (he : ∀ x ∈ xs, Bk X scope fun Y => ED Y W (t.put (g0 x) (wipeC ρ (own.map (·.2)))) 0 elt (gg x)) (hl : ∀ x ∈ xs, isL (gg x) = false) (hz : xs.length ≤ 90000) (k : R X W (ρ.set i (cellOf ff (.lst (xs.map gg)))) rest N Rt) (hN : X.N.Nodup) (g1 : 1 ≤ ff := by decide) (hc : X.calm = true := by rfl) (hy : X.N[i]? = some y := by rfl) (hyl : X.env.scope.names.lookup y = some .local := by rfl)
    (hsw : swapsWith (.ListComp elt [⟨tg, iter, [], 0⟩] scope lpos) (some (.Name y py)) pos.line X.env = pure true := by exact sw_true rfl rfl rfl rfl) (hs : ∀ x, foldedSetIterable iter X.env x = pure x := by intro _; rfl) :
    R X W ρ (.Assign [.Name y py] (.ListComp elt [⟨tg, iter, [], 0⟩] scope lpos) pos :: rest) N Rt := by
  have e := lift_list (gg := gg) (p := fun _ => true) (z1 := false) (z2 := .non) xs inj xs fun _ m => m
  rw [List.filter_eq_self.mpr fun _ _ => rfl] at e
  rw [← e] at k
  refine r_setLc (t := t) (own := own) (pp := lift xs g0 (fun _ => true) false) (gg := lift xs g0 gg .non) i ff hi ok hg hj (fun d m => ?_) (fun d m => ?_) (fun d m _ => ?_) (fun d m _ => ?_) (by rw [List.length_map]; exact hz) k hN g1 hc hy hyl hsw hs
  · obtain ⟨x, mx, rfl⟩ := List.mem_map.mp m
    exact hf x mx
  · obtain ⟨x, mx, rfl⟩ := List.mem_map.mp m
    rw [lift_at inj mx]
    exact fun _ _ _ _ _ => ts_nil
  · obtain ⟨x, mx, rfl⟩ := List.mem_map.mp m
    rw [lift_at inj mx]
    exact he x mx
  · obtain ⟨x, mx, rfl⟩ := List.mem_map.mp m
    rw [lift_at inj mx]
    exact hl x mx
/-! ### two clauses -/
variable {t1 : Tgt} {tg1 iter1 : Expr} {ifs1 : List Expr} {β : Type} {ys : α → List β} {g1 : β → D} {p2 : α → β → Bool} {g2 : α → β → D} {vs1 : List Nat}
theorem inner_list {zs : List α} (inj : ∀ x ∈ zs, ∀ y ∈ zs, g0 x = g0 y → x = y) (inj1 : ∀ x ∈ zs, ∀ y ∈ ys x, ∀ z ∈ ys x, g1 y = g1 z → y = z) (ds1 : D → List D) (P2 : D → D → Bool) (G2 : D → D → D) (h1 : ∀ x ∈ zs, ds1 (g0 x) = (ys x).map g1) (h2 : ∀ x ∈ zs, ∀ d, P2 (g0 x) d = lift (ys x) g1 (p2 x) false d) (h3 : ∀ x ∈ zs, ∀ d, G2 (g0 x) d = lift (ys x) g1 (g2 x) .non d) :
    ∀ xs : List α, (∀ x ∈ xs, x ∈ zs) → (xs.map g0).flatMap (innerD ds1 P2 G2) = xs.flatMap fun x => ((ys x).filter (p2 x)).map (g2 x)
  | [], _ => rfl
  | x :: xs, h => by
    have m := h x (List.mem_cons_self ..)
    have ih := inner_list inj inj1 ds1 P2 G2 h1 h2 h3 xs fun y m => h y (List.mem_cons_of_mem _ m)
    rw [List.map_cons, List.flatMap_cons, List.flatMap_cons, ih]
    congr 1
    unfold innerD
    rw [h1 x m]
    have e2 : P2 (g0 x) = lift (ys x) g1 (p2 x) false := funext (h2 x m)
    have e3 : G2 (g0 x) = lift (ys x) g1 (g2 x) .non := funext (h3 x m)
    rw [e2, e3]
    exact lift_list (ys x) (inj1 x m) (ys x) fun _ q => q
theorem e_lc2A (hc : X.calm = true) (hN : X.N.Nodup) (hi : ITD X W ρ 0 tg iter (xs.map g0)) (ok : BlkOk X.N X.env.scope scope own) (hg : Bk X scope fun Y => PG Y tg (t.g X.K)) (hg1 : Bk X scope fun Y => PG Y tg1 (t1.g X.K)) (hv : ∀ j ∈ vs1, j ∈ own.map (·.2)) (hj : ∀ j ∈ t.js, j ∈ own.map (·.2)) (hf : ∀ x ∈ xs, t.fits (g0 x) = true) (hj1 : ∀ j ∈ t1.js, j ∈ vs1)
    (inj : ∀ x ∈ xs, ∀ y ∈ xs, g0 x = g0 y → x = y) (inj1 : ∀ x ∈ xs, ∀ y ∈ ys x, ∀ z ∈ ys x, g1 y = g1 z → y = z)
    (hi1 : ∀ x ∈ xs, Bk X scope fun Y => ITD Y W (blk1 ρ (own.map (·.2)) t (g0 x)) 1 tg1 iter1 ((ys x).map g1)) (hf1 : ∀ x ∈ xs, ∀ y ∈ ys x, t1.fits (g1 y) = true)
    (ht : ∀ x ∈ xs, ∀ y ∈ ys x, Bk X scope fun Y => Ts Y W (blk2 ρ (own.map (·.2)) vs1 t t1 (g0 x) (g1 y)) ifs1 fun z => z = p2 x y)
    (he : ∀ x ∈ xs, ∀ y ∈ ys x, p2 x y = true → Bk X scope fun Y => ED Y W (blk2 ρ (own.map (·.2)) vs1 t t1 (g0 x) (g1 y)) 0 elt (g2 x y))
    (hl : ∀ x ∈ xs, ∀ y ∈ ys x, p2 x y = true → isL (g2 x y) = false) (hz : (xs.flatMap ys).length ≤ 90000) (hs : ∀ x, foldedSetIterable iter X.env x = pure x := by intro _; rfl) (hs1 : ∀ env x, foldedSetIterable iter1 env x = pure x := by intro _ _; rfl) :
    ED X W ρ f (.ListComp elt [⟨tg, iter, [], 0⟩, ⟨tg1, iter1, ifs1, 0⟩] scope pos) (.lst (xs.flatMap fun x => ((ys x).filter (p2 x)).map (g2 x))) := by
  have a1 : ∀ x ∈ xs, lift xs g0 (fun x => (ys x).map g1) [] (g0 x) = (ys x).map g1 := fun x m => lift_at inj m
  have a2 : ∀ x ∈ xs, ∀ d, lift xs g0 (fun x => lift (ys x) g1 (p2 x) false) (fun _ => false) (g0 x) d = lift (ys x) g1 (p2 x) false d := fun x m d => by rw [lift_at inj m]
  have a3 : ∀ x ∈ xs, ∀ d, lift xs g0 (fun x => lift (ys x) g1 (g2 x) .non) (fun _ => .non) (g0 x) d = lift (ys x) g1 (g2 x) .non d := fun x m d => by rw [lift_at inj m]
  rw [← inner_list inj inj1 _ _ _ a1 a2 a3 xs fun _ m => m]
  refine e_lc2 (t := t) (t1 := t1) (own := own) (vs1 := vs1) hc hN hi ok hg hg1 hv hj (fun d m => ?_) hj1 (fun d m => ?_) (fun d m e m1 => ?_) (fun d m e m1 => ?_) (fun d m e m1 q => ?_) (fun d m e m1 q => ?_) ?_ hs hs1
  · obtain ⟨x, mx, rfl⟩ := List.mem_map.mp m
    exact hf x mx
  · obtain ⟨x, mx, rfl⟩ := List.mem_map.mp m
    rw [a1 x mx]
    exact hi1 x mx
  · obtain ⟨x, mx, rfl⟩ := List.mem_map.mp m
    rw [a1 x mx] at m1
    obtain ⟨y, my, rfl⟩ := List.mem_map.mp m1
    exact hf1 x mx y my
  · obtain ⟨x, mx, rfl⟩ := List.mem_map.mp m
    rw [a1 x mx] at m1
    obtain ⟨y, my, rfl⟩ := List.mem_map.mp m1
    rw [a2 x mx, lift_at (inj1 x mx) my]
    exact ht x mx y my
  · obtain ⟨x, mx, rfl⟩ := List.mem_map.mp m
    rw [a1 x mx] at m1
    obtain ⟨y, my, rfl⟩ := List.mem_map.mp m1
    rw [a2 x mx, lift_at (inj1 x mx) my] at q
    rw [a3 x mx, lift_at (inj1 x mx) my]
    exact he x mx y my q
  · obtain ⟨x, mx, rfl⟩ := List.mem_map.mp m
    rw [a1 x mx] at m1
    obtain ⟨y, my, rfl⟩ := List.mem_map.mp m1
    rw [a2 x mx, lift_at (inj1 x mx) my] at q
    rw [a3 x mx, lift_at (inj1 x mx) my]
    exact hl x mx y my q
  · refine Nat.le_trans (Nat.le_of_eq ?_) hz
    have : ∀ zs : List α, (∀ x ∈ zs, x ∈ xs) → ((zs.map g0).flatMap fun d => lift xs g0 (fun x => (ys x).map g1) [] d).length = (zs.flatMap ys).length := by
      intro zs
      induction zs with
      | nil => intro _; rfl
      | cons z zs ih =>
        intro h
        rw [List.map_cons, List.flatMap_cons, List.flatMap_cons, List.length_append, List.length_append, ih fun y m => h y (List.mem_cons_of_mem _ m), a1 z (h z (List.mem_cons_self ..)), List.length_map]
    exact this xs fun _ m => m
theorem r_setLc2A (i : Nat) {lpos py : Pos} (ff : Nat) (hi : ITD X W ρ 0 tg iter (xs.map g0)) (ok : BlkOk X.N X.env.scope scope own) (hg : Bk X scope fun Y => PG Y tg (t.g X.K)) (hg1 : Bk X scope fun Y => PG Y tg1 (t1.g X.K)) (hv : ∀ j ∈ vs1, j ∈ own.map (·.2)) (hj : ∀ j ∈ t.js, j ∈ own.map (·.2)) (hf : ∀ x ∈ xs, t.fits (g0 x) = true) (hj1 : ∀ j ∈ t1.js, j ∈ vs1)
    (inj : ∀ x ∈ xs, ∀ y ∈ xs, g0 x = g0 y → x = y) (inj1 : ∀ x ∈ xs, ∀ y ∈ ys x, ∀ z ∈ ys x, g1 y = g1 z → y = z)
    (hi1 : ∀ x ∈ xs, Bk X scope fun Y => ITD Y W (blk1 ρ (own.map (·.2)) t (g0 x)) 1 tg1 iter1 ((ys x).map g1)) (hf1 : ∀ x ∈ xs, ∀ y ∈ ys x, t1.fits (g1 y) = true)
    (he : ∀ x ∈ xs, ∀ y ∈ ys x, Bk X scope fun Y => ED Y W (blk2 ρ (own.map (·.2)) vs1 t t1 (g0 x) (g1 y)) 0 elt (g2 x y))
    (hl : ∀ x ∈ xs, ∀ y ∈ ys x, isL (g2 x y) = false) (hz : (xs.flatMap ys).length ≤ 90000) (k : R X W (ρ.set i (cellOf ff (.lst (xs.flatMap fun x => (ys x).map (g2 x))))) rest N Rt) (hN : X.N.Nodup) (gf : 1 ≤ ff := by decide) (hc : X.calm = true := by rfl) (hy : X.N[i]? = some y := by rfl) (hyl : X.env.scope.names.lookup y = some .local := by rfl)
    (hsw : swapsWith (.ListComp elt [⟨tg, iter, [], 0⟩, ⟨tg1, iter1, [], 0⟩] scope lpos) (some (.Name y py)) pos.line X.env = pure true := by exact sw_true rfl rfl rfl rfl)
    (hs : ∀ x, foldedSetIterable iter X.env x = pure x := by intro _; rfl) (hs1 : ∀ env x, foldedSetIterable iter1 env x = pure x := by intro _ _; rfl) :
    R X W ρ (.Assign [.Name y py] (.ListComp elt [⟨tg, iter, [], 0⟩, ⟨tg1, iter1, [], 0⟩] scope lpos) pos :: rest) N Rt := by
  have a1 : ∀ x ∈ xs, lift xs g0 (fun x => (ys x).map g1) [] (g0 x) = (ys x).map g1 := fun x m => lift_at inj m
  have a2 : ∀ x ∈ xs, ∀ d, lift xs g0 (fun x => lift (ys x) g1 (fun _ => true) false) (fun _ => false) (g0 x) d = lift (ys x) g1 (fun _ => true) false d := fun x m d => by rw [lift_at inj m]
  have a3 : ∀ x ∈ xs, ∀ d, lift xs g0 (fun x => lift (ys x) g1 (g2 x) .non) (fun _ => .non) (g0 x) d = lift (ys x) g1 (g2 x) .non d := fun x m d => by rw [lift_at inj m]
  have e := inner_list (p2 := fun _ _ => true) inj inj1 _ _ _ a1 a2 a3 xs fun _ m => m
  have e2 : (xs.flatMap fun x => ((ys x).filter fun _ => true).map (g2 x)) = xs.flatMap fun x => (ys x).map (g2 x) := by
    congr 1
    funext x
    rw [List.filter_eq_self.mpr fun _ _ => rfl]
  rw [e2] at e
  rw [← e] at k
  refine r_setLc2 (t := t) (t1 := t1) (own := own) (vs1 := vs1) i ff hi ok hg hg1 hv hj (fun d m => ?_) hj1 (fun d m => ?_) (fun d m e m1 => ?_) (fun d m e m1 => ?_) (fun d m e m1 q => ?_) (fun d m e m1 q => ?_) ?_ k hN gf hc hy hyl hsw hs hs1
  · obtain ⟨x, mx, rfl⟩ := List.mem_map.mp m
    exact hf x mx
  · obtain ⟨x, mx, rfl⟩ := List.mem_map.mp m
    rw [a1 x mx]
    exact hi1 x mx
  · obtain ⟨x, mx, rfl⟩ := List.mem_map.mp m
    rw [a1 x mx] at m1
    obtain ⟨y, my, rfl⟩ := List.mem_map.mp m1
    exact hf1 x mx y my
  · obtain ⟨x, mx, rfl⟩ := List.mem_map.mp m
    rw [a1 x mx] at m1
    obtain ⟨y, my, rfl⟩ := List.mem_map.mp m1
    rw [a2 x mx, lift_at (inj1 x mx) my]
    exact fun _ _ _ _ _ => ts_nil
  · obtain ⟨x, mx, rfl⟩ := List.mem_map.mp m
    rw [a1 x mx] at m1
    obtain ⟨y, my, rfl⟩ := List.mem_map.mp m1
    rw [a3 x mx, lift_at (inj1 x mx) my]
    exact he x mx y my
  · obtain ⟨x, mx, rfl⟩ := List.mem_map.mp m
    rw [a1 x mx] at m1
    obtain ⟨y, my, rfl⟩ := List.mem_map.mp m1
    rw [a3 x mx, lift_at (inj1 x mx) my]
    exact hl x mx y my
  · refine Nat.le_trans (Nat.le_of_eq ?_) hz
    have : ∀ zs : List α, (∀ x ∈ zs, x ∈ xs) → ((zs.map g0).flatMap fun d => lift xs g0 (fun x => (ys x).map g1) [] d).length = (zs.flatMap ys).length := by
      intro zs
      induction zs with
      | nil => intro _; rfl
      | cons z zs ih =>
        intro h
        rw [List.map_cons, List.flatMap_cons, List.flatMap_cons, List.length_append, List.length_append, ih fun y m => h y (List.mem_cons_of_mem _ m), a1 z (h z (List.mem_cons_self ..)), List.length_map]
    exact this xs fun _ m => m
end
end K19
end

section
set_option Elab.async false
set_option linter.all false
set_option maxRecDepth 100000
set_option maxHeartbeats 4000000
namespace K19
open PySem PySem.Spec PyProof.Rows L2
/-! ### fractions -/
theorem fr_mk (t : Int) (l : Nat) (h : 0 < l) : fr (mkRat t l) = .tup .any [.int (t / ((Nat.gcd t.natAbs l : Nat) : Int)), .int ((l : Int) / ((Nat.gcd t.natAbs l : Nat) : Int))] := by
  unfold fr
  rw [Rat.num_mkRat, Rat.den_mkRat, if_neg (by omega), if_neg (by omega), Nat.gcd_comm, Int.natCast_ediv]
theorem fr_add (p q : Rat) : fr (p + q) = fr (mkRat (p.num * (q.den : Int) + q.num * (p.den : Int)) (p.den * q.den)) := by rw [Rat.add_def']
theorem fr_mul (p q : Rat) : fr (p * q) = fr (mkRat (p.num * q.num) (p.den * q.den)) := by rw [Rat.mul_def']
theorem Bd.mono {b c : Nat} {q : Rat} (h : Bd b q) (l : b ≤ c) : Bd c q := ⟨Nat.le_trans h.1 (Nat.pow_le_pow_right (by decide) l), Nat.le_trans h.2 (Nat.pow_le_pow_right (by decide) l)⟩
theorem bd_mk {b : Nat} (t : Int) (l : Nat) (h : 0 < l) (h1 : t.natAbs ≤ 2 ^ b) (h2 : l ≤ 2 ^ b) : Bd b (mkRat t l) := by
  constructor
  · rw [Rat.num_mkRat, if_neg (by omega), Int.natAbs_ediv_of_dvd (by
      rw [Int.ofNat_dvd_left]
      exact Nat.gcd_dvd_right ..)]
    exact Nat.le_trans (Nat.div_le_self ..) h1
  · rw [Rat.den_mkRat, if_neg (by omega)]
    exact Nat.le_trans (Nat.div_le_self ..) h2
theorem bd_zero {b : Nat} : Bd b 0 := ⟨Nat.zero_le _, Nat.one_le_two_pow⟩
theorem bd_one {b : Nat} : Bd b 1 := ⟨Nat.one_le_two_pow, Nat.one_le_two_pow⟩
theorem pow_mul {a b x y : Nat} (h1 : x ≤ 2 ^ a) (h2 : y ≤ 2 ^ b) : x * y ≤ 2 ^ (a + b) := by
  rw [Nat.pow_add]
  exact Nat.mul_le_mul h1 h2
theorem Bd.mul {b c : Nat} {p q : Rat} (h : Bd b p) (k : Bd c q) : Bd (b + c) (p * q) := by
  rw [Rat.mul_def']
  refine bd_mk _ _ (Nat.mul_pos p.den_pos q.den_pos) ?_ (pow_mul h.2 k.2)
  rw [Int.natAbs_mul]
  exact pow_mul h.1 k.1
theorem Bd.add {b c : Nat} {p q : Rat} (h : Bd b p) (k : Bd c q) : Bd (b + c + 1) (p + q) := by
  rw [Rat.add_def']
  refine bd_mk _ _ (Nat.mul_pos p.den_pos q.den_pos) ?_ (Nat.le_trans (pow_mul h.2 k.2) (Nat.pow_le_pow_right (by decide) (Nat.le_succ _)))
  refine Nat.le_trans (Int.natAbs_add_le ..) ?_
  rw [Int.natAbs_mul, Int.natAbs_mul]
  have e1 := pow_mul h.1 k.2
  have e2 := pow_mul k.1 h.2
  rw [Nat.pow_succ, Nat.mul_two]
  refine Nat.add_le_add e1 ?_
  rw [Nat.add_comm b c]
  exact e2
theorem log_le {x b : Nat} (h : x ≤ 2 ^ b) : x.log2 ≤ b := by
  by_cases z : x = 0
  · rw [z]
    exact Nat.zero_le _
  · exact (Nat.pow_le_pow_iff_right (by decide : 1 < 2)).mp (Nat.le_trans (Nat.log2_self_le z) h)
theorem Bd.n {b : Nat} {q : Rat} (h : Bd b q) : q.num.natAbs.log2 ≤ b := log_le h.1
theorem Bd.d {b : Nat} {q : Rat} (h : Bd b q) : q.den.log2 ≤ b := log_le h.2
theorem cm {i j : Int} {b c : Nat} (h1 : i.natAbs ≤ 2 ^ b) (h2 : j.natAbs ≤ 2 ^ c) (h : b + c < 1000000) : CMulW i j := Nat.lt_of_le_of_lt (Nat.add_le_add (log_le h1) (log_le h2)) h
end K19
end

section
set_option Elab.async false
set_option linter.all false
set_option maxRecDepth 100000
set_option maxHeartbeats 4000000
namespace K19
open PySem PySem.Spec PyProof.Rows L2
/-! ### q is z / N with z small -/
def Dn (N M : Nat) (q : Rat) : Prop := 0 < N ∧ ∃ z : Int, q * (N : Rat) = (z : Rat) ∧ z.natAbs ≤ M
theorem Dn.mk {N M : Nat} {q : Rat} (h : Dn N M q) : ∃ z : Int, q = mkRat z N ∧ z.natAbs ≤ M := by
  obtain ⟨h0, z, e, hz⟩ := h
  refine ⟨z, ?_, hz⟩
  have hN : ((N : Nat) : Rat) ≠ 0 := by
    intro h
    have := Rat.natCast_eq_zero_iff.mp h
    omega
  rw [Rat.mkRat_eq_div, ← e, Rat.mul_div_cancel hN]
theorem Dn.bd {N M b : Nat} {q : Rat} (h : Dn N M q) (h1 : N ≤ 2 ^ b) (h2 : M ≤ 2 ^ b) : Bd b q := by
  obtain ⟨z, rfl, hz⟩ := h.mk
  exact bd_mk z N h.1 (Nat.le_trans hz h2) h1
theorem Dn.mono {N M M' : Nat} {q : Rat} (h : Dn N M q) (l : M ≤ M') : Dn N M' q := by
  obtain ⟨h0, z, e, hz⟩ := h
  exact ⟨h0, z, e, Nat.le_trans hz l⟩
theorem Dn.zero {N M : Nat} (h : 0 < N) : Dn N M 0 := ⟨h, 0, by rw [Rat.zero_mul]; rfl, Nat.zero_le _⟩
theorem Dn.add {N M M' : Nat} {p q : Rat} (h : Dn N M p) (k : Dn N M' q) : Dn N (M + M') (p + q) := by
  obtain ⟨h0, z, e, hz⟩ := h
  obtain ⟨_, y, e', hy⟩ := k
  exact ⟨h0, z + y, by rw [Rat.add_mul, e, e', Rat.intCast_add], by omega⟩
theorem Dn.mul {N N' M M' : Nat} {p q : Rat} (h : Dn N M p) (k : Dn N' M' q) : Dn (N * N') (M * M') (p * q) := by
  obtain ⟨h0, z, e, hz⟩ := h
  obtain ⟨k0, y, e', hy⟩ := k
  refine ⟨Nat.mul_pos h0 k0, z * y, ?_, by rw [Int.natAbs_mul]; exact Nat.mul_le_mul hz hy⟩
  have : p * q * ((N * N' : Nat) : Rat) = (p * (N : Rat)) * (q * (N' : Rat)) := by
    rw [Rat.natCast_mul]
    grind
  rw [this, e, e', Rat.intCast_mul]
theorem Dn.frac {N : Nat} {t : Int} {M : Nat} (h : 0 < N) (l : t.natAbs ≤ M) : Dn N M (mkRat t N) := by
  refine ⟨h, t, ?_, l⟩
  have hN : ((N : Nat) : Rat) ≠ 0 := by
    intro h
    have := Rat.natCast_eq_zero_iff.mp h
    omega
  rw [Rat.mkRat_eq_div, Rat.div_mul_cancel hN]
theorem Dn.one {N : Nat} (h : 0 < N) : Dn N N 1 := ⟨h, (N : Int), by rw [Rat.one_mul]; rfl, by omega⟩
/-- the sum, from the left -/
def tot (qs : List Rat) : Rat := qs.foldl (· + ·) 0
theorem tot_snoc (qs : List Rat) (q : Rat) : tot (qs ++ [q]) = tot qs + q := by
  unfold tot
  rw [List.foldl_append]
  rfl
theorem take_succ_get {α : Type} {xs : List α} {i : Nat} {x : α} (h : xs[i]? = some x) : xs.take (i + 1) = xs.take i ++ [x] := by
  rw [List.take_succ, h]
  rfl
theorem tot_take {qs : List Rat} {i : Nat} {q : Rat} (h : qs[i]? = some q) : tot (qs.take (i + 1)) = tot (qs.take i) + q := by
  rw [take_succ_get h, tot_snoc]
theorem Dn.tot {N M : Nat} {qs : List Rat} (h0 : 0 < N) (h : ∀ q ∈ qs, Dn N M q) : ∀ i, Dn N (i * M) (K19.tot (qs.take i))
  | 0 => Dn.zero h0
  | i + 1 => by
    cases e : qs[i]? with
    | none =>
      have hl := List.getElem?_eq_none_iff.mp e
      have h1 : qs.take (i + 1) = qs.take i := by rw [List.take_of_length_le (by omega), List.take_of_length_le hl]
      rw [h1]
      exact (Dn.tot h0 h i).mono (Nat.mul_le_mul_right _ (Nat.le_succ _))
    | some q =>
      rw [tot_take e, Nat.succ_mul]
      exact (Dn.tot h0 h i).add (h q (List.mem_of_getElem? e))
theorem Dn.total {N M : Nat} {qs : List Rat} (h0 : 0 < N) (h : ∀ q ∈ qs, Dn N M q) : Dn N (qs.length * M) (K19.tot qs) := by
  have q := Dn.tot h0 h qs.length
  rw [List.take_length] at q
  exact q
theorem Dn.bq {N M : Nat} {q : Rat} (h : Dn N M q) (h1 : N ≤ 2 ^ 240) (h2 : M ≤ 2 ^ 240) : Bd 240 q := h.bd h1 h2
end K19
end

section
set_option Elab.async false
set_option linter.all false
set_option maxRecDepth 100000
set_option maxHeartbeats 4000000
namespace K19
open PySem PySem.Spec PyProof.Rows L2
theorem nd_of {N : List Str} {X : Cx} (h : N.Nodup) (e : X.N = N) : X.N.Nodup := by
  rw [e]
  exact h
section
variable {P : Program} {w : World} {K : PySem.W.Frag} {mg : Str → Option Value} {base : Heap}
def Sbet : List D → D → Prop := fun ds d => ∃ v lo hi : Int, ds = [.int v, .int lo, .int hi] ∧ d = .bl (decide (lo ≤ v) && decide (v ≤ hi))
theorem f_is_between (C : Ct K mg) : Fc P w K mg base 2 "is_between" (spD K Sbet) := by
  refine mk_D (k := 1) C 1 rfl ["value", "low", "high"] ["value", "low", "high"] ⟨rfl, rfl, rfl, by decide +kernel, rfl, by decide +kernel, by decide +kernel⟩ (fun _ _ _ _ _ _ us hl => match us, hl with | [_, _, _], _ => rfl) (fun ds d s => ?_) fun f cdv A outer s H E hr nd ds d sd => ?_
  -- slots: 0=value 1=low 2=high
  · obtain ⟨v, lo, hi, rfl, _⟩ := s
    rfl
  obtain ⟨v, lo, hi, rfl, rfl⟩ := sd
  refine r_retD (d := .bl (true && (decide (lo ≤ v) && decide (v ≤ hi)))) ?_ rfl (by rw [Bool.true_and])
  exact e_and (e_callD (f_is_whole C) hr (ad_one (e_name 0 rfl)) ⟨v, rfl, rfl⟩) fun _ => e_one (e_chain op_le op_le (e_name 1 rfl) (e_name 0 rfl) (e_name 2 rfl) od_le od_le)
def Stup : List D → D → Prop := fun ds d => ∃ m xs, ds = [.tup m xs, .int (xs.length : Int)] ∧ d = .bl true
theorem f_is_tuple_of (C : Ct K mg) : Fc P w K mg base 1 "is_tuple_of" (spD K Stup) := by
  refine mk_D (k := 0) C 2 rfl ["value", "many"] ["value", "many"] ⟨rfl, rfl, rfl, by decide +kernel, rfl, by decide +kernel, by decide +kernel⟩ (fun _ _ _ _ _ _ us hl => match us, hl with | [_, _], _ => rfl) (fun ds d s => ?_) fun f cdv A outer s H E hr nd ds d sd => ?_
  -- slots: 0=value 1=many
  · obtain ⟨m, xs, rfl, _⟩ := s
    rfl
  obtain ⟨m, xs, rfl, rfl⟩ := sd
  refine r_retD (d := .bl (true && ((xs.length : Int) == (xs.length : Int)))) ?_ rfl (by rw [beq_self_eq_true]; rfl)
  exact e_and (e_isi C.g (e_name 0 rfl) rfl C.g.tuple rfl) fun _ => e_one (e_cmpD op_eq (e_len C.g (e_name 0 rfl) rfl) (e_name 1 rfl) od_eqI)
def Sratio : List D → D → Prop := fun ds d => ∃ q, ds = [fr q] ∧ d = .bl true
theorem f_is_ratio (C : Ct K mg) : Fc P w K mg base 2 "is_ratio" (spD K Sratio) := by
  refine mk_D (k := 1) C 3 rfl ["value"] ["value"] ⟨rfl, rfl, rfl, by decide +kernel, rfl, by decide +kernel, by decide +kernel⟩ (fun _ _ _ _ _ _ us hl => match us, hl with | [_], _ => rfl) (fun ds d s => ?_) fun f cdv A outer s H E hr nd ds d sd => ?_
  -- slots: 0=value
  · obtain ⟨q, rfl, _⟩ := s
    rfl
  obtain ⟨q, rfl, rfl⟩ := sd
  refine r_ifN ?_ ?_
  · refine t_of (tw_orD (k := false) (t_notD (k := true) (t_valD (e_callD (f_is_tuple_of C) hr (ad_cons (e_name 0 rfl) (ad_one e_int)) ⟨.any, [.int q.num, .int (q.den : Int)], rfl, rfl⟩))) fun _ => tw_orD (k := false) (t_notD (k := true) (t_valD (e_callD (f_is_whole C) hr (ad_one (e_ixT (d := .int q.num) (e_name 0 rfl) e_int rfl)) ⟨_, rfl, rfl⟩))) fun _ => tw_or1 (t_notD (k := true) (t_valD (e_callD (f_is_whole C) hr (ad_one (e_ixT (d := .int (q.den : Int)) (e_name 0 rfl) e_int rfl)) ⟨_, rfl, rfl⟩))))
  · have h1 : decide ((0 : Int) < (q.den : Int)) = true := decide_eq_true (by have := q.den_pos; omega)
    have h2 : (((Nat.gcd q.num.natAbs (q.den : Int).natAbs : Nat) : Int) == 1) = true := by
      rw [Int.natAbs_natCast, q.reduced]
      rfl
    refine r_retD (d := .bl (decide ((0 : Int) < (q.den : Int)) && (((Nat.gcd q.num.natAbs (q.den : Int).natAbs : Nat) : Int) == 1))) ?_ rfl (by rw [h1, h2]; rfl)
    exact e_and (e_cmpD op_gt (e_ixT (d := .int (q.den : Int)) (e_name 0 rfl) e_int rfl) e_int od_gt) fun _ => e_one (e_cmpD op_eq (e_gcd C.g (e_ixT (d := .int q.num) (e_name 0 rfl) e_int rfl) (e_ixT (d := .int (q.den : Int)) (e_name 0 rfl) e_int rfl)) e_int od_eqI)
def Smk : List D → D → Prop := fun ds d => ∃ (t : Int) (l : Nat), 0 < l ∧ l.log2 < 9000 ∧ ds = [.int t, .int (l : Int)] ∧ d = fr (mkRat t l)
theorem f_ratio (C : Ct K mg) : Fc P w K mg base 1 "ratio" (spD K Smk) := by
  refine mk_D (k := 0) C 5 rfl ["top", "low", "part"] ["top", "low"] ⟨rfl, rfl, rfl, by decide +kernel, rfl, by decide +kernel, by decide +kernel⟩ (fun _ _ _ _ _ _ us hl => match us, hl with | [_, _], _ => rfl) (fun ds d s => ?_) fun f cdv A outer s H E hr nd ds d sd => ?_
  -- slots: 0=top 1=low 2=part
  · obtain ⟨t, l, _, _, rfl, _⟩ := s
    rfl
  obtain ⟨t, l, h0, hl, rfl, rfl⟩ := sd
  have hg0 : 0 < Nat.gcd t.natAbs l := Nat.gcd_pos_of_pos_right _ h0
  have hd : ∀ i, CDivW i ((Nat.gcd t.natAbs l : Nat) : Int) := fun _ => ⟨by omega, by
    rw [Int.natAbs_natCast]
    refine Nat.lt_of_le_of_lt ?_ hl
    have h1 : Nat.gcd t.natAbs l ≤ l := Nat.gcd_le_right _ h0
    exact (Nat.le_log2 (by omega)).mpr (Nat.le_trans (Nat.log2_self_le (by omega)) h1)⟩
  have hp : decide ((0 : Int) < (l : Int)) = true := decide_eq_true (by omega)
  refine r_setD 2 (d := .int ((Nat.gcd t.natAbs l : Nat) : Int)) (e_if (k := decide ((0 : Int) < (l : Int))) (t_cmpD op_gt (e_name 1 rfl) e_int od_gt) (fun _ => ?_) fun z => ?_) ?_ nd
  · exact ED.eq (e_gcd C.g (e_name 0 rfl) (e_name 1 rfl)) (by rw [Int.natAbs_natCast])
  · rw [hp] at z
    cases z
  · refine r_retD (d := fr (mkRat t l)) ?_ rfl rfl
    rw [fr_mk t l h0]
    exact ED.lq (e_tup (ad_cons (e_fdivW (e_name 0 rfl) (e_name 2 rfl) (hd _)) (ad_one (e_fdivW (e_name 1 rfl) (e_name 2 rfl) (hd _))))) (.any (LqL.refl _))
def Bq (q : Rat) : Prop := Bd 240 q
theorem dlog {p q : Rat} (hp : Bq p) (hq : Bq q) : (p.den * q.den).log2 < 9000 := Nat.lt_of_le_of_lt (log_le (pow_mul hp.2 hq.2)) (by decide)
theorem cnd {p q : Rat} (hp : Bq p) (hq : Bq q) : CMulW p.num (q.den : Int) := cm hp.1 (by rw [Int.natAbs_natCast]; exact hq.2) (by decide)
theorem cnn {p q : Rat} (hp : Bq p) (hq : Bq q) : CMulW p.num q.num := cm hp.1 hq.1 (by decide)
theorem cdd {p q : Rat} (hp : Bq p) (hq : Bq q) : CMulW (p.den : Int) (q.den : Int) := cm (by rw [Int.natAbs_natCast]; exact hp.2) (by rw [Int.natAbs_natCast]; exact hq.2) (by decide)
section
variable {X : Cx} {W : List Addr} {ρ : List Cell} {f : Nat} {e i : Expr} {q : Rat} {pos : Pos} {k}
theorem e_num {p} (h : ED X W ρ 0 e (fr q)) : ED X W ρ f (.Subscript e (.Constant (.int 0) k p) pos) (.int q.num) := e_ixT (m := .any) (ds := [.int q.num, .int (q.den : Int)]) h e_int rfl
theorem e_den {p} (h : ED X W ρ 0 e (fr q)) : ED X W ρ f (.Subscript e (.Constant (.int 1) k p) pos) (.int (q.den : Int)) := e_ixT (m := .any) (ds := [.int q.num, .int (q.den : Int)]) h e_int rfl
end
def Splus : List D → D → Prop := fun ds d => ∃ p q, Bq p ∧ Bq q ∧ ds = [fr p, fr q] ∧ d = fr (p + q)
theorem f_plus (C : Ct K mg) : Fc P w K mg base 2 "plus" (spD K Splus) := by
  refine mk_D (k := 1) C 6 rfl ["one", "two"] ["one", "two"] ⟨rfl, rfl, rfl, by decide +kernel, rfl, by decide +kernel, by decide +kernel⟩ (fun _ _ _ _ _ _ us hl => match us, hl with | [_, _], _ => rfl) (fun ds d s => ?_) fun f cdv A outer s H E hr nd ds d sd => ?_
  -- slots: 0=one 1=two
  · obtain ⟨p, q, _, _, rfl, _⟩ := s
    rfl
  obtain ⟨p, q, hp, hq, rfl, rfl⟩ := sd
  refine r_retD (d := fr (p + q)) ?_ rfl rfl
  exact e_callD (f_ratio C) hr (ad_cons (e_add (e_mulW (e_num (e_name 0 rfl)) (e_den (e_name 1 rfl)) (cnd hp hq)) (e_mulW (e_num (e_name 1 rfl)) (e_den (e_name 0 rfl)) (cnd hq hp))) (ad_one (e_mulW (e_den (e_name 0 rfl)) (e_den (e_name 1 rfl)) (cdd hp hq))))
    ⟨_, p.den * q.den, Nat.mul_pos p.den_pos q.den_pos, dlog hp hq, rfl, fr_add p q⟩
def Stimes : List D → D → Prop := fun ds d => ∃ p q, Bq p ∧ Bq q ∧ ds = [fr p, fr q] ∧ d = fr (p * q)
theorem f_times (C : Ct K mg) : Fc P w K mg base 2 "times" (spD K Stimes) := by
  refine mk_D (k := 1) C 7 rfl ["one", "two"] ["one", "two"] ⟨rfl, rfl, rfl, by decide +kernel, rfl, by decide +kernel, by decide +kernel⟩ (fun _ _ _ _ _ _ us hl => match us, hl with | [_, _], _ => rfl) (fun ds d s => ?_) fun f cdv A outer s H E hr nd ds d sd => ?_
  -- slots: 0=one 1=two
  · obtain ⟨p, q, _, _, rfl, _⟩ := s
    rfl
  obtain ⟨p, q, hp, hq, rfl, rfl⟩ := sd
  refine r_retD (d := fr (p * q)) ?_ rfl rfl
  exact e_callD (f_ratio C) hr (ad_cons (e_mulW (e_num (e_name 0 rfl)) (e_num (e_name 1 rfl)) (cnn hp hq)) (ad_one (e_mulW (e_den (e_name 0 rfl)) (e_den (e_name 1 rfl)) (cdd hp hq))))
    ⟨_, p.den * q.den, Nat.mul_pos p.den_pos q.den_pos, dlog hp hq, rfl, fr_mul p q⟩
def Sless : List D → D → Prop := fun ds d => ∃ p q, Bq p ∧ Bq q ∧ ds = [fr p, fr q] ∧ d = .bl (decide (p < q))
theorem less_dec (p q : Rat) : decide (p < q) = decide (p.num * (q.den : Int) < q.num * (p.den : Int)) := decide_eq_decide.mpr (Rat.lt_iff p q)
theorem f_is_less (C : Ct K mg) : Fc P w K mg base 1 "is_less" (spD K Sless) := by
  refine mk_D (k := 0) C 8 rfl ["one", "two"] ["one", "two"] ⟨rfl, rfl, rfl, by decide +kernel, rfl, by decide +kernel, by decide +kernel⟩ (fun _ _ _ _ _ _ us hl => match us, hl with | [_, _], _ => rfl) (fun ds d s => ?_) fun f cdv A outer s H E hr nd ds d sd => ?_
  -- slots: 0=one 1=two
  · obtain ⟨p, q, _, _, rfl, _⟩ := s
    rfl
  obtain ⟨p, q, hp, hq, rfl, rfl⟩ := sd
  refine r_retD (d := .bl (decide (p < q))) ?_ rfl rfl
  rw [less_dec]
  exact e_cmpD op_lt (e_mulW (e_num (e_name 0 rfl)) (e_den (e_name 1 rfl)) (cnd hp hq)) (e_mulW (e_num (e_name 1 rfl)) (e_den (e_name 0 rfl)) (cnd hq hp)) od_lt
end
end K19
end

section
set_option Elab.async false
set_option linter.all false
set_option maxRecDepth 100000
set_option maxHeartbeats 4000000
namespace K19
open PySem PySem.Spec PyProof.Rows L2
section
variable {P : Program} {w : World} {K : PySem.W.Frag} {mg : Str → Option Value} {base : Heap}
/-- fractions as a tuple, as a list -/
def frs (l : Bool) (qs : List Rat) : D := if l then .lst (qs.map fr) else row qs
theorem get_map {α : Type} {g : α → D} {xs : List α} {i : Nat} {d : D} (h : (xs.map g)[i]? = some d) : ∃ x, xs[i]? = some x ∧ d = g x := by
  rw [List.getElem?_map] at h
  cases e : xs[i]? with
  | none =>
    rw [e] at h
    cases h
  | some x =>
    rw [e] at h
    cases h
    exact ⟨x, rfl, rfl⟩
theorem fits_map {α : Type} {g : α → D} {xs : List α} {j : Nat} (h : ∀ x, isL (g x) = false) : ∀ d ∈ xs.map g, (Tgt.nm j).fits d = true := fun d m => by
  obtain ⟨x, _, rfl⟩ := List.mem_map.mp m
  show (!isL (g x)) = true
  rw [h]
  rfl
def Stot : List D → D → Prop := fun ds d => ∃ l N M qs, 0 < N ∧ (∀ q ∈ qs, Dn N M q) ∧ N ≤ 2 ^ 240 ∧ qs.length * M ≤ 2 ^ 240 ∧ M ≤ 2 ^ 240 ∧ ds = [frs l qs] ∧ d = fr (tot qs)
theorem e_zero {X : Cx} {W : List Addr} {ρ : List Cell} {f : Nat} {p : Pos} (g : Gm X.K X.mg) (hg : Gl X "ZERO" := by rfl) : ED X W ρ f (.Name "ZERO" p) (fr 0) := e_globT hg g.zero (fun H => .cons (.int 0) (.cons (.int 1) .nil)) (by decide)
theorem e_one' {X : Cx} {W : List Addr} {ρ : List Cell} {f : Nat} {p : Pos} (g : Gm X.K X.mg) (hg : Gl X "ONE" := by rfl) : ED X W ρ f (.Name "ONE" p) (fr 1) := e_globT hg g.one (fun H => .cons (.int 1) (.cons (.int 1) .nil)) (by decide)
theorem it_frs {X : Cx} {W : List Addr} {ρ : List Cell} {tg iter : Expr} {l : Bool} {qs : List Rat} (h : ED X W ρ 1 iter (frs l qs)) : ITD X W ρ 1 tg iter (qs.map fr) := by
  cases l with
  | true => exact it_listD h
  | false => exact it_tupD (h.low (by decide))
theorem f_total (C : Ct K mg) : Fc P w K mg base 3 "total" (spD K Stot) := by
  refine mk_D (k := 2) C 9 rfl ["fractions", "found", "each"] ["fractions"] ⟨rfl, rfl, rfl, by decide +kernel, rfl, by decide +kernel, by decide +kernel⟩ (fun _ _ _ _ _ _ us hl => match us, hl with | [_], _ => rfl) (fun ds d s => ?_) fun f cdv A outer s H E hr nd ds d sd => ?_
  -- slots: 0=fractions 1=found 2=each
  · obtain ⟨l, N, M, qs, _, _, _, _, _, rfl, _⟩ := s
    rfl
  obtain ⟨l, N, M, qs, h0, hq, hN, hM, hM1, rfl, rfl⟩ := sd
  refine r_setD 1 (e_zero C.g) ?_ nd
  refine r_for (t := .nm 2) (it_frs (e_name 0 rfl)) (fits_map fun _ => rfl) (pg_name nd rfl (.inl rfl)) (fun i ρ => ∃ c : Cell, c.isOwn = false ∧ ρ = [.da (frs l qs), .da (fr (tot (qs.take i))), c]) ⟨.un, rfl, rfl⟩ ?_ ?_ rfl
  · rintro i d ρ' hi ⟨c, hc, rfl⟩
    obtain ⟨q, e, rfl⟩ := get_map hi
    have hm := List.mem_of_getElem? e
    have lt : i < qs.length := (List.getElem?_eq_some_iff.mp e).1
    refine ⟨fun j hj => ?_, ?_⟩
    · cases List.mem_singleton.mp hj
      exact ⟨c, rfl, hc⟩
    · refine r_setD 1 (e_callD (f_plus C) hr (ad_cons (e_name 1 rfl) (ad_one (e_name 2 rfl))) ⟨tot (qs.take i), q, (Dn.tot h0 hq i).bq hN (Nat.le_trans (Nat.mul_le_mul_right _ (Nat.le_of_lt lt)) hM), (hq q hm).bq hN hM1, rfl, rfl⟩) (r_nil ⟨.da (fr q), rfl, ?_⟩) nd
      rw [tot_take e]
      rfl
  · rintro ρ' ⟨c, hc, rfl⟩
    refine r_retD (e_name 1 rfl) rfl ?_
    rw [List.length_map, List.take_length]
end
end K19
end

section
set_option Elab.async false
set_option linter.all false
set_option maxRecDepth 100000
set_option maxHeartbeats 4000000
namespace K19
open PySem PySem.Spec PyProof.Rows L2
section
variable {X : Cx} {x y : Str} {p p1 p2 : Pos} {i j : Nat} {k : Nat}
theorem pgN (i : Nat) (hN : X.N.Nodup) (hi : X.N[i]? = some x := by rfl) (hx : Loc X.env.scope x := by first | exact Or.inl rfl | exact Or.inr rfl) (hf : X.fn x = true ∨ X.env.scope.names.lookup x = some .local := by first | exact .inl rfl | exact .inr rfl) : PG X (.Name x p) ((Tgt.nm i).g X.K) := pg_name hN hi hx hf
theorem pgP (i j : Nat) (hN : X.N.Nodup) (hc : X.calm = true := by rfl) (hi : X.N[i]? = some x := by rfl) (hx : Loc X.env.scope x := by first | exact Or.inl rfl | exact Or.inr rfl) (hf : X.fn x = true ∨ X.env.scope.names.lookup x = some .local := by first | exact .inl rfl | exact .inr rfl)
    (hj : X.N[j]? = some y := by rfl) (hy : Loc X.env.scope y := by first | exact Or.inl rfl | exact Or.inr rfl) (hf2 : X.fn y = true ∨ X.env.scope.names.lookup y = some .local := by first | exact .inl rfl | exact .inr rfl) : PG X (.Tuple [.Name x p1, .Name y p2] k p) ((Tgt.pr i j).g X.K) :=
  pg_tup (n := 2) hc (pgs_cons (pg_name hN hi hx hf) (pgs_cons (pg_name hN hj hy hf2) pgs_nil))
end
/-- a pair of data -/
def prD {α β : Type} (f : α → D) (g : β → D) (z : α × β) : D := .tup .key [f z.1, g z.2]
theorem zipD_map {α β : Type} (f : α → D) (g : β → D) : ∀ (xs : List α) (ys : List β), zipD (xs.map f) (ys.map g) = (xs.zip ys).map (prD f g)
  | [], _ => rfl
  | _ :: _, [] => rfl
  | x :: xs, y :: ys => by
    show _ :: zipD (xs.map f) (ys.map g) = _
    rw [zipD_map f g xs ys]
    rfl
theorem fr_inj {p q : Rat} (h : fr p = fr q) : p = q := by
  injection h with _ h
  injection h with h1 h2
  injection h1 with h1
  injection h2 with h2 _
  injection h2 with h2
  exact Rat.ext h1 (by omega)
theorem pr_inj {α β : Type} {f : α → D} {g : β → D} (h1 : ∀ x y, f x = f y → x = y) (h2 : ∀ x y, g x = g y → x = y) (x y : α × β) (h : prD f g x = prD f g y) : x = y := by
  injection h with _ h
  injection h with e1 e2
  injection e2 with e2 _
  exact Prod.ext (h1 _ _ e1) (h2 _ _ e2)
theorem map_inj {α : Type} {f : α → D} (h : ∀ x y, f x = f y → x = y) : ∀ xs ys : List α, xs.map f = ys.map f → xs = ys
  | [], [], _ => rfl
  | [], _ :: _, e => by cases e
  | _ :: _, [], e => by cases e
  | x :: xs, y :: ys, e => by
    rw [List.map_cons, List.map_cons] at e
    injection e with e1 e2
    rw [h _ _ e1, map_inj h xs ys e2]
theorem nD_inj (a b : Nat) (h : nD a = nD b) : a = b := by
  injection h with h
  omega
theorem nT_inj {m : Mk} (a b : List Nat) (h : nT m a = nT m b) : a = b := by
  injection h with _ h
  exact map_inj nD_inj _ _ h
theorem row_inj (a b : List Rat) (h : row a = row b) : a = b := by
  injection h with _ h
  exact map_inj (fun _ _ => fr_inj) _ _ h
/-- weights times shares -/
def dotQ (ws xs : List Rat) : Rat := tot ((ws.zip xs).map fun z => z.1 * z.2)
section
variable {P : Program} {w : World} {K : PySem.W.Frag} {mg : Str → Option Value} {base : Heap}
/-- small enough -/
def Cap : Nat := 2 ^ 100
theorem cap_le : Cap ≤ 2 ^ 240 := Nat.pow_le_pow_right (by decide) (by decide)
theorem cap2 : Cap * Cap ≤ 2 ^ 240 := by
  show 2 ^ 100 * 2 ^ 100 ≤ 2 ^ 240
  rw [← Nat.pow_add]
  exact Nat.pow_le_pow_right (by decide) (by decide)
def Sdot : List D → D → Prop := fun ds d => ∃ N M N' M' ws xs, 0 < N * N' ∧ (∀ q ∈ ws, Dn N M q) ∧ (∀ q ∈ xs, Dn N' M' q) ∧ N ≤ Cap ∧ M ≤ Cap ∧ N' ≤ Cap ∧ M' ≤ Cap ∧ ws.length ≤ 90000 ∧ ws.length * (M * M') ≤ Cap ∧ ds = [row ws, row xs] ∧ d = fr (dotQ ws xs)
theorem f_dot (C : Ct K mg) : Fc P w K mg base 4 "dot" (spD K Sdot) := by
  refine mk_D (k := 3) C 10 rfl ["one", "two", "here", "there"] ["one", "two"] ⟨rfl, rfl, rfl, by decide +kernel, rfl, by decide +kernel, by decide +kernel⟩ (fun _ _ _ _ _ _ us hl => match us, hl with | [_, _], _ => rfl) (fun ds d s => ?_) fun f cdv A outer s H E hr nd ds d sd => ?_
  -- slots: 0=one 1=two 2=here 3=there
  · obtain ⟨N, M, N', M', ws, xs, _, _, _, _, _, _, _, _, _, rfl, _⟩ := s
    rfl
  obtain ⟨N, M, N', M', ws, xs, h0, hw, hx, c1, c2, c3, c4, hl, hm, rfl, rfl⟩ := sd
  refine r_retD (d := fr (dotQ ws xs)) ?_ rfl rfl
  have mem : ∀ z ∈ ws.zip xs, Dn N M z.1 ∧ Dn N' M' z.2 := fun z m => ⟨hw _ (List.of_mem_zip m).1, hx _ (List.of_mem_zip m).2⟩
  have len : (ws.zip xs).length ≤ ws.length := by
    rw [List.length_zip]
    exact Nat.min_le_left ..
  refine e_callD (f_total C) hr (ad_one (e_lcA0 (t := .pr 2 3) (own := [("here", 2), ("there", 3)]) (xs := ws.zip xs) (g0 := prD fr fr) (gg := fun z => fr (z.1 * z.2)) rfl nd ?_ (blkOk_by rfl) (fun _ _ _ _ _ => pgP 2 3 nd) (by decide) (fun _ _ => rfl) (fun x _ y _ => pr_inj (fun _ _ => fr_inj) (fun _ _ => fr_inj) x y) (fun z m _ _ _ _ _ => ?_) (fun _ _ => rfl) (Nat.le_trans len hl))) ?_
  · rw [← zipD_map]
    exact it_zip C.g (e_name 0 rfl) (e_name 1 rfl) rfl rfl
  · exact e_callD (f_times C) hr (ad_cons (e_name 2 rfl) (ad_one (e_name 3 rfl))) ⟨z.1, z.2, (mem z m).1.bq (Nat.le_trans c1 cap_le) (Nat.le_trans c2 cap_le), (mem z m).2.bq (Nat.le_trans c3 cap_le) (Nat.le_trans c4 cap_le), rfl, rfl⟩
  · refine ⟨true, N * N', M * M', (ws.zip xs).map fun z => z.1 * z.2, h0, fun q m => ?_, Nat.le_trans (Nat.mul_le_mul c1 c3) cap2, ?_, Nat.le_trans (Nat.mul_le_mul c2 c4) cap2, ?_, rfl⟩
    · obtain ⟨z, mz, rfl⟩ := List.mem_map.mp m
      exact (mem z mz).1.mul (mem z mz).2
    · rw [List.length_map]
      exact Nat.le_trans (Nat.mul_le_mul_right _ len) (Nat.le_trans hm cap_le)
    · show [D.lst _] = [D.lst _]
      rw [List.map_map]
      rfl
end
end K19
end

section
set_option Elab.async false
set_option linter.all false
set_option maxRecDepth 100000
set_option maxHeartbeats 4000000
namespace K19
open PySem PySem.Spec PyProof.Rows L2
/-! ### what may be compared -/
def Sh (n : Nat) (d : D) : Prop := (er d).canLay0 = true ∧ (er d).depth ≤ n
theorem sh_int {n : Nat} (i : Int) : Sh n (.int i) := by
  unfold Sh
  rw [er]
  exact ⟨rfl, Nat.zero_le _⟩
theorem shAll {n : Nat} : ∀ ds : List D, (∀ d ∈ ds, Sh n d) → PyData.canLayAll0 (erL ds) = true ∧ PyData.depthAll (erL ds) ≤ n
  | [], _ => by
    rw [erL]
    exact ⟨rfl, Nat.zero_le _⟩
  | d :: ds, h => by
    obtain ⟨h1, h2⟩ := h d (List.mem_cons_self ..)
    obtain ⟨h3, h4⟩ := shAll ds fun e m => h e (List.mem_cons_of_mem _ m)
    rw [erL]
    constructor
    · rw [PyData.canLayAll0, h1, h3]
      rfl
    · rw [PyData.depthAll]
      exact Nat.max_le.mpr ⟨h2, h4⟩
theorem Sh.tup {n : Nat} {m : Mk} {ds : List D} (h : ∀ d ∈ ds, Sh n d) : Sh (n + 1) (.tup m ds) := by
  obtain ⟨h1, h2⟩ := shAll ds h
  unfold Sh
  rw [er]
  refine ⟨?_, ?_⟩
  · rw [PyData.canLay0]
    exact h1
  · rw [PyData.depth]
    exact Nat.succ_le_succ h2
theorem Sh.lst {n : Nat} {ds : List D} (h : ∀ d ∈ ds, Sh n d) : Sh (n + 1) (.lst ds) := by
  obtain ⟨h1, h2⟩ := shAll ds h
  unfold Sh
  rw [er]
  refine ⟨?_, ?_⟩
  · rw [PyData.canLay0]
    exact h1
  · rw [PyData.depth]
    exact Nat.succ_le_succ h2
theorem Sh.ok {n : Nat} {d : D} (h : Sh n d) (l : n ≤ 64) : SeqAt.shaped (er d) = true := by
  unfold SeqAt.shaped
  rw [h.1, decide_eq_true (Nat.le_trans h.2 l)]
  rfl
theorem sh_nT {m : Mk} (c : List Nat) : Sh 1 (nT m c) := Sh.tup fun d h => by
  obtain ⟨x, _, rfl⟩ := List.mem_map.mp h
  exact sh_int _
theorem sh_fr (q : Rat) : Sh 1 (fr q) := Sh.tup fun d h => by
  rcases List.mem_cons.mp h with e | h
  · rw [e]
    exact sh_int _
  · rw [List.mem_singleton.mp h]
    exact sh_int _
theorem sh_row (r : List Rat) : Sh 2 (row r) := Sh.tup fun d h => by
  obtain ⟨x, _, rfl⟩ := List.mem_map.mp h
  exact sh_fr _
theorem eqv_self {n : Nat} {d : D} (h : Sh n d) : PyData.eqv (er d) (er d) = true := SeqAt.eqv_refl _ h.1
theorem eqvAll_nats : ∀ a b : List Nat, PyData.eqvAll (erL (a.map nD)) (erL (b.map nD)) = (a == b)
  | [], [] => by
    simp [erL, PyData.eqvAll]
  | [], b :: bs => by
    simp [erL, PyData.eqvAll]
  | a :: as, [] => by
    simp [erL, PyData.eqvAll]
  | a :: as, b :: bs => by
    rw [List.map_cons, List.map_cons, erL, erL, PyData.eqvAll, eqvAll_nats as bs]
    unfold nD
    rw [er, er, PyData.eqv]
    have e : ((a : Int) == (b : Int)) = (a == b) := by
      rw [Bool.eq_iff_iff, beq_iff_eq, beq_iff_eq]
      omega
    rw [e]
    rfl
theorem eqv_nT (m m' : Mk) (a b : List Nat) : PyData.eqv (er (nT m a)) (er (nT m' b)) = (a == b) := by
  unfold nT
  rw [er, er, PyData.eqv]
  exact eqvAll_nats a b
/-! ### sections -/
def grow (k : Nat) (found : List (List Nat)) : List (List Nat) := found.flatMap fun s => (List.range k).map fun o => s ++ [o]
def sects (os : List Nat) (c : List Nat) : List (List Nat) := c.foldl (fun found i => grow (os.getD i 0) found) [[]]
theorem sects_snoc (os c : List Nat) (i : Nat) : sects os (c ++ [i]) = grow (os.getD i 0) (sects os c) := by
  unfold sects
  rw [List.foldl_append]
  rfl
theorem flat_len {α β : Type} {f : α → List β} {k : Nat} : ∀ xs : List α, (∀ x ∈ xs, (f x).length = k) → (xs.flatMap f).length = xs.length * k
  | [], _ => by simp
  | x :: xs, h => by
    rw [List.flatMap_cons, List.length_append, flat_len xs fun y m => h y (List.mem_cons_of_mem _ m), h x (List.mem_cons_self ..), List.length_cons, Nat.succ_mul, Nat.add_comm]
theorem grow_len (k : Nat) (found : List (List Nat)) : (grow k found).length = found.length * k := flat_len found fun _ _ => by rw [List.length_map, List.length_range]
theorem sects_len {os : List Nat} (h : ∀ o ∈ os, o ≤ 4) : ∀ (c : List Nat), (sects os c).length ≤ 4 ^ c.length := by
  have key : ∀ (c : List Nat) (f : List (List Nat)) , (c.foldl (fun found i => grow (os.getD i 0) found) f).length ≤ f.length * 4 ^ c.length := by
    intro c
    induction c with
    | nil =>
      intro f
      rw [List.foldl_nil, List.length_nil, Nat.pow_zero, Nat.mul_one]
      exact Nat.le_refl _
    | cons i c ih =>
      intro f
      rw [List.foldl_cons]
      refine Nat.le_trans (ih _) ?_
      rw [grow_len, List.length_cons, Nat.pow_succ, Nat.mul_assoc, Nat.mul_comm (4 ^ c.length)]
      refine Nat.mul_le_mul_left _ (Nat.mul_le_mul_right _ ?_)
      rw [List.getD_eq_getElem?_getD]
      cases e : os[i]? with
      | none => exact Nat.zero_le _
      | some o => exact h o (List.mem_of_getElem? e)
  intro c
  have q := key c [[]]
  rw [List.length_cons, List.length_nil, Nat.zero_add, Nat.one_mul] at q
  exact q
def prodN (os : List Nat) : Nat := os.foldl (· * ·) 1
/-- strictly rising, below n -/
def Lot (n : Nat) (c : List Nat) : Prop := c.Pairwise (· < ·) ∧ ∀ i ∈ c, i < n
theorem rise_len : ∀ (c : List Nat) (lo n : Nat), c.Pairwise (· < ·) → (∀ i ∈ c, lo ≤ i ∧ i < n) → c.length ≤ n - lo
  | [], _, _, _, _ => Nat.zero_le _
  | i :: c, lo, n, h, k => by
    obtain ⟨h1, h2⟩ := List.pairwise_cons.mp h
    have a := k i (List.mem_cons_self ..)
    have b := rise_len c (i + 1) n h2 fun j m => ⟨h1 j m, (k j (List.mem_cons_of_mem _ m)).2⟩
    rw [List.length_cons]
    omega
theorem Lot.len {n : Nat} {c : List Nat} (h : Lot n c) : c.length ≤ n := rise_len c 0 n h.1 fun i m => ⟨Nat.zero_le _, h.2 i m⟩
theorem rise_tail : ∀ c : List Nat, c.Pairwise (· < ·) → (c.zip (c.drop 1)).all (fun z => decide ((z.1 : Int) < (z.2 : Int))) = true
  | [], _ => rfl
  | [_], _ => rfl
  | a :: b :: c, h => by
    obtain ⟨h1, h2⟩ := List.pairwise_cons.mp h
    have ih := rise_tail (b :: c) h2
    have lt := h1 b (List.mem_cons_self ..)
    show (((a, b) :: (b :: c).zip ((b :: c).drop 1)).all _) = true
    rw [List.all_cons, ih, Bool.and_true]
    exact decide_eq_true (by
      show ((a : Nat) : Int) < ((b : Nat) : Int)
      omega)
/-! ### all, any of what a comprehension gave -/
section
variable {X : Cx} {W : List Addr} {ρ : List Cell} {f : Nat} {e : Expr} {p pos : Pos} {α : Type} {xs : List α} {b : α → Bool} (g : Gm X.K X.mg)
include g in
theorem e_allA (hc : X.calm = true) (ha : ED X W ρ 0 e (.lst (xs.map fun x => .bl (b x)))) (hg : Gl X "all" := by rfl) (he : starEach (e :: []) X.env = (false, eval e X.env) :: starEach [] X.env := by rfl) : ED X W ρ f (.Call (.Name "all" p) [e] [] pos) (.bl (xs.all b)) := by
  have h : xs.map (fun x => D.bl (b x)) = (xs.map b).map .bl := by rw [List.map_map]; rfl
  rw [h] at ha
  refine ED.eq (e_all g hc ha hg he) ?_
  rw [List.all_map]
  rfl
include g in
theorem e_anyA (hc : X.calm = true) (ha : ED X W ρ 0 e (.lst (xs.map fun x => .bl (b x)))) (hg : Gl X "any" := by rfl) (he : starEach (e :: []) X.env = (false, eval e X.env) :: starEach [] X.env := by rfl) : ED X W ρ f (.Call (.Name "any" p) [e] [] pos) (.bl (xs.any b)) := by
  have h : xs.map (fun x => D.bl (b x)) = (xs.map b).map .bl := by rw [List.map_map]; rfl
  rw [h] at ha
  refine ED.eq (e_any g hc ha hg he) ?_
  rw [List.any_map]
  rfl
end
end K19
end

section
set_option Elab.async false
set_option linter.all false
set_option maxRecDepth 100000
set_option maxHeartbeats 4000000
namespace K19
open PySem PySem.Spec PyProof.Rows L2
section
variable {P : Program} {w : World} {K : PySem.W.Frag} {mg : Str → Option Value} {base : Heap}
theorem nats_bet {lo hi : Int} {c : List Nat} (h : ∀ i ∈ c, lo ≤ (i : Int) ∧ (i : Int) ≤ hi) : c.all (fun i : Nat => decide (lo ≤ (i : Int)) && decide ((i : Int) ≤ hi)) = true :=
  List.all_eq_true.mpr fun i m => by
    rw [decide_eq_true (h i m).1, decide_eq_true (h i m).2]
    rfl
/-- a lot of a scenario's observables -/
def Sislot : List D → D → Prop := fun ds d => ∃ m n c, Lot n c ∧ n ≤ 6 ∧ ds = [nT m c, nD n] ∧ d = .bl true
theorem f_is_lot_of (C : Ct K mg) : Fc P w K mg base 3 "is_lot_of" (spD K Sislot) := by
  refine mk_D (k := 2) C 11 rfl ["value", "many", "each", "one", "two"] ["value", "many"] ⟨rfl, rfl, rfl, by decide +kernel, rfl, by decide +kernel, by decide +kernel⟩ (fun _ _ _ _ _ _ us hl => match us, hl with | [_, _], _ => rfl) (fun ds d s => ?_) fun f cdv A outer s H E hr nd ds d sd => ?_
  -- slots: 0=value 1=many 2=each 3=one 4=two
  · obtain ⟨m, n, c, _, _, rfl, _⟩ := s
    rfl
  obtain ⟨m, n, c, hc, hn, rfl, rfl⟩ := sd
  have hl := hc.len
  have h1 : c.all (fun i : Nat => decide ((0 : Int) ≤ (i : Int)) && decide ((i : Int) ≤ (n : Int) - 1)) = true := nats_bet fun i m => by
    have := hc.2 i m
    omega
  refine r_ifN ?_ ?_
  · refine t_of (tw_orD (k := false) (t_notD (k := true) (t_valD (e_isi C.g (e_name 0 rfl) rfl C.g.tuple rfl))) fun _ => tw_or1 (t_notD (k := true) (t_valD (ED.eq (e_allA C.g (b := fun i : Nat => decide ((0 : Int) ≤ (i : Int)) && decide ((i : Int) ≤ (n : Int) - 1)) rfl (e_lcA0 (t := .nm 2) (own := [("each", 2)]) (g0 := nD) rfl nd (it_tupD (e_name 0 rfl)) (blkOk_by rfl) (fun _ _ _ _ _ => pgN 2 nd) (by decide) (fun _ _ => rfl) (fun x _ y _ => nD_inj x y) (fun i mi _ _ _ _ _ => ?_) (fun _ _ => rfl) (by omega))) (congrArg D.bl h1)))))
    exact e_callD (f_is_between C) hr (ad_cons (e_name 2 rfl) (ad_cons e_int (ad_one (e_sub (e_name 1 rfl) e_int)))) ⟨(i : Int), 0, (n : Int) - 1, rfl, rfl⟩
  · refine r_retD (d := .bl true) (ED.eq (e_allA C.g (xs := c.zip (c.drop 1)) (b := fun z => decide ((z.1 : Int) < (z.2 : Int))) rfl (e_lcA0 (t := .pr 3 4) (own := [("one", 3), ("two", 4)]) (g0 := prD nD nD) rfl nd ?_ (blkOk_by rfl) (fun _ _ _ _ _ => pgP 3 4 nd) (by decide) (fun _ _ => rfl) (fun x _ y _ => pr_inj nD_inj nD_inj x y) (fun i mi _ _ _ _ _ => ?_) (fun _ _ => rfl) ?_)) (congrArg D.bl (rise_tail c hc.1))) rfl rfl
    · rw [← zipD_map, List.map_drop]
      exact it_zip C.g (d1 := nT m c) (e_name 0 rfl) (e_tail (e_name 0 rfl)) rfl rfl
    · exact e_cmpD op_lt (e_name 3 rfl) (e_name 4 rfl) od_lt
    · rw [List.length_zip]
      omega
def Spart : List D → D → Prop := fun ds d => ∃ m m' a b, a.length ≤ 90000 ∧ ds = [nT m a, nT m' b] ∧ d = .bl (a.all fun i => b.contains i)
theorem any_con (i : Nat) (b : List Nat) : ((b.map fun n : Nat => (n : Int)).any fun y => y == (i : Int)) = b.contains i := by
  induction b with
  | nil => rfl
  | cons x b ih =>
    rw [List.map_cons, List.any_cons, ih, List.contains_cons]
    congr 1
    rw [Bool.eq_iff_iff, beq_iff_eq, beq_iff_eq]
    omega
theorem e_inT {X : Cx} {W : List Addr} {ρ : List Cell} {f : Nat} {a b : Expr} {pos : Pos} {i : Nat} {m : Mk} {c : List Nat} (ha : ED X W ρ 0 a (nD i)) (hb : ED X W ρ 0 b (nT m c)) (hm : behindInMarks .In b = false := by first | exact nomark _ | rfl) : ED X W ρ f (.Compare a [.In] [b] pos) (.bl (c.contains i)) := by
  have e : nT m c = .tup m ((c.map fun n : Nat => (n : Int)).map .int) := by
    unfold nT
    rw [List.map_map]
    rfl
  rw [e] at hb
  refine ED.eq (e_cmpD op_in_seq ha hb od_inT hm) ?_
  rw [any_con]
theorem t_inT {X : Cx} {W : List Addr} {ρ : List Cell} {a b : Expr} {pos : Pos} {i : Nat} {m : Mk} {c : List Nat} (ha : ED X W ρ 0 a (nD i)) (hb : ED X W ρ 0 b (nT m c)) (hm : behindInMarks .In b = false := by first | exact nomark _ | rfl) : TD X W ρ (.Compare a [.In] [b] pos) (c.contains i) := by
  have e : nT m c = .tup m ((c.map fun n : Nat => (n : Int)).map .int) := by
    unfold nT
    rw [List.map_map]
    rfl
  rw [e] at hb
  have h := t_cmpD (pos := pos) op_in_seq ha hb od_inT hm
  rw [any_con] at h
  exact h
theorem f_is_part (C : Ct K mg) : Fc P w K mg base 1 "is_part" (spD K Spart) := by
  refine mk_D (k := 0) C 12 rfl ["one", "two", "each"] ["one", "two"] ⟨rfl, rfl, rfl, by decide +kernel, rfl, by decide +kernel, by decide +kernel⟩ (fun _ _ _ _ _ _ us hl => match us, hl with | [_, _], _ => rfl) (fun ds d s => ?_) fun f cdv A outer s H E hr nd ds d sd => ?_
  -- slots: 0=one 1=two 2=each
  · obtain ⟨m, m', a, b, _, rfl, _⟩ := s
    rfl
  obtain ⟨m, m', a, b, hl, rfl, rfl⟩ := sd
  refine r_retD (e_allA C.g (b := fun i : Nat => b.contains i) rfl (e_lcA0 (t := .nm 2) (own := [("each", 2)]) (g0 := nD) rfl nd (it_tupD (e_name 0 rfl)) (blkOk_by rfl) (fun _ _ _ _ _ => pgN 2 nd) (by decide) (fun _ _ => rfl) (fun x _ y _ => nD_inj x y) (fun i mi _ _ _ _ _ => ?_) (fun _ _ => rfl) hl)) rfl rfl
  exact e_inT (e_name 2 rfl) (e_name 1 rfl)
def Sprod : List D → D → Prop := fun ds d => ∃ m os, (∀ o ∈ os, o ≤ 4) ∧ os.length ≤ 6 ∧ ds = [nT m os] ∧ d = nD (prodN os)
theorem prod_take {os : List Nat} {i o : Nat} (h : os[i]? = some o) : prodN (os.take (i + 1)) = prodN (os.take i) * o := by
  rw [take_succ_get h]
  unfold prodN
  rw [List.foldl_append]
  rfl
theorem f_product_of (C : Ct K mg) : Fc P w K mg base 1 "product_of" (spD K Sprod) := by
  refine mk_D (k := 0) C 13 rfl ["numbers", "found", "each"] ["numbers"] ⟨rfl, rfl, rfl, by decide +kernel, rfl, by decide +kernel, by decide +kernel⟩ (fun _ _ _ _ _ _ us hl => match us, hl with | [_], _ => rfl) (fun ds d s => ?_) fun f cdv A outer s H E hr nd ds d sd => ?_
  -- slots: 0=numbers 1=found 2=each
  · obtain ⟨m, os, _, _, rfl, _⟩ := s
    rfl
  obtain ⟨m, os, ho, hl, rfl, rfl⟩ := sd
  refine r_setD 1 (d := nD 1) e_int ?_ nd
  refine r_for (t := .nm 2) (it_tupD (e_name 0 rfl)) (fits_map fun _ => rfl) (pgN 2 nd) (fun i ρ => ∃ c : Cell, c.isOwn = false ∧ ρ = [.da (nT m os), .da (nD (prodN (os.take i))), c]) ⟨.un, rfl, rfl⟩ ?_ ?_ rfl
  · rintro i d ρ' hi ⟨c, hc, rfl⟩
    obtain ⟨o, e, rfl⟩ := get_map hi
    have hm := List.mem_of_getElem? e
    refine ⟨fun j hj => ?_, ?_⟩
    · cases List.mem_singleton.mp hj
      exact ⟨c, rfl, hc⟩
    · refine r_setD 1 (d := nD (prodN (os.take (i + 1)))) (ED.eq (e_mul (i := (prodN (os.take i) : Int)) (j := (o : Int)) (e_name 1 rfl) (e_name 2 rfl) (.inr ?_)) ?_) (r_nil ⟨.da (nD o), rfl, rfl⟩) nd
      · have := ho o hm
        constructor
        · omega
        · omega
      · rw [prod_take e]
        unfold nD
        rw [Int.natCast_mul]
  · rintro ρ' ⟨c, hc, rfl⟩
    refine r_retD (e_name 1 rfl) rfl ?_
    rw [List.length_map, List.take_length]
def Sshared : List D → D → Prop := fun ds d => ∃ m m' a b, a.length ≤ 90000 ∧ ds = [nT m a, nT m' b] ∧ d = nT .any (a.filter fun i => b.contains i)
theorem f_shared_by (C : Ct K mg) : Fc P w K mg base 1 "shared_by" (spD K Sshared) := by
  refine mk_D (k := 0) C 23 rfl ["one", "two", "each"] ["one", "two"] ⟨rfl, rfl, rfl, by decide +kernel, rfl, by decide +kernel, by decide +kernel⟩ (fun _ _ _ _ _ _ us hl => match us, hl with | [_, _], _ => rfl) (fun ds d s => ?_) fun f cdv A outer s H E hr nd ds d sd => ?_
  -- slots: 0=one 1=two 2=each
  · obtain ⟨m, m', a, b, _, rfl, _⟩ := s
    rfl
  obtain ⟨m, m', a, b, hl, rfl, rfl⟩ := sd
  refine r_retD (ED.lq (e_tuple C.g (e_lcA (t := .nm 2) (own := [("each", 2)]) (p := fun i => b.contains i) (gg := nD) (g0 := nD) rfl nd (it_tupD (e_name 0 rfl)) (blkOk_by rfl) (fun _ _ _ _ _ => pgN 2 nd) (by decide) (fun _ _ => rfl) (fun x _ y _ => nD_inj x y) (fun i mi _ _ _ _ _ => ?_) (fun i mi _ _ _ _ _ _ => e_name 2 rfl) (fun _ _ _ => rfl) hl)) (.any (LqL.refl _))) rfl rfl
  exact ts_one (t_inT (e_name 2 rfl) (e_name 1 rfl))
def Ssects : List D → D → Prop := fun ds d => ∃ m os cs c, (∀ o ∈ os, o ≤ 4) ∧ (∀ i ∈ c, i < os.length) ∧ c.length ≤ 6 ∧ ds = [scD os cs, nT m c] ∧ d = .lst ((sects os c).map (nT .key))
theorem sects_take {os c : List Nat} {k i : Nat} (h : c[k]? = some i) : sects os (c.take (k + 1)) = grow (os.getD i 0) (sects os (c.take k)) := by rw [take_succ_get h, sects_snoc]
theorem e_os {X : Cx} {W : List Addr} {ρ : List Cell} {f : Nat} {e : Expr} {p pos : Pos} {k} {os : List Nat} {cs : List (List Nat)} (h : ED X W ρ 0 e (scD os cs)) : ED X W ρ f (.Subscript e (.Constant (.int 0) k p) pos) (nT .any os) := e_ixT (m := .any) (ds := [nT .any os, .tup .any (cs.map (nT .lot))]) h e_int rfl
theorem e_cs {X : Cx} {W : List Addr} {ρ : List Cell} {f : Nat} {e : Expr} {p pos : Pos} {k} {os : List Nat} {cs : List (List Nat)} (h : ED X W ρ 0 e (scD os cs)) : ED X W ρ f (.Subscript e (.Constant (.int 1) k p) pos) (.tup .any (cs.map (nT .lot))) := e_ixT (m := .any) (ds := [nT .any os, .tup .any (cs.map (nT .lot))]) h e_int rfl
theorem e_at {α : Type} {g : α → D} {X : Cx} {W : List Addr} {ρ : List Cell} {f : Nat} {e e2 : Expr} {pos : Pos} {m : Mk} {xs : List α} {i : Nat} {x : α} (h : ED X W ρ 0 e (.tup m (xs.map g))) (h2 : ED X W ρ 0 e2 (nD i)) (hx : xs[i]? = some x) (hs : PlainIx e2 := by exact fun _ _ => rfl) : ED X W ρ f (.Subscript e e2 pos) (g x) :=
  e_ixT h h2 (atI_at (by rw [List.getElem?_map, hx]; rfl)) hs
theorem getD_some {os : List Nat} {i : Nat} (h : i < os.length) : os[i]? = some (os.getD i 0) := by
  rw [List.getD_eq_getElem?_getD, List.getElem?_eq_getElem h]
  rfl
theorem grow_mem {k : Nat} {f : List (List Nat)} {s : List Nat} (h : s ∈ grow k f) : ∃ t o, t ∈ f ∧ o < k ∧ s = t ++ [o] := by
  obtain ⟨t, m, h⟩ := List.mem_flatMap.mp h
  obtain ⟨o, mo, rfl⟩ := List.mem_map.mp h
  exact ⟨t, o, m, List.mem_range.mp mo, rfl⟩
theorem sect_mem_len {os : List Nat} : ∀ {c : List Nat} (s : List Nat), s ∈ sects os c → s.length = c.length := by
  have key : ∀ (c : List Nat) (f : List (List Nat)) (n : Nat), (∀ s ∈ f, s.length = n) → ∀ s ∈ c.foldl (fun found i => grow (os.getD i 0) found) f, s.length = n + c.length := by
    intro c
    induction c with
    | nil =>
      intro f n h s m
      exact h s m
    | cons i c ih =>
      intro f n h s m
      rw [List.foldl_cons] at m
      have := ih _ (n + 1) (fun t mt => by
        obtain ⟨u, o, mu, _, rfl⟩ := grow_mem mt
        rw [List.length_append, h u mu]
        rfl) s m
      rw [this, List.length_cons]
      omega
  intro c s m
  have := key c [[]] 0 (fun s m => by rw [List.mem_singleton.mp m]; rfl) s m
  omega
theorem f_sections_by (C : Ct K mg) : Fc P w K mg base 1 "sections_by" (spD K Ssects) := by
  refine mk_D (k := 0) C 17 rfl ["scenario", "lot", "found", "each", "section", "outcome"] ["scenario", "lot"] ⟨rfl, rfl, rfl, by decide +kernel, rfl, by decide +kernel, by decide +kernel⟩ (fun _ _ _ _ _ _ us hl => match us, hl with | [_, _], _ => rfl) (fun ds d s => ?_) fun f cdv A outer s H E hr nd ds d sd => ?_
  -- slots: 0=scenario 1=lot 2=found 3=each 4=section 5=outcome
  · obtain ⟨m, os, cs, c, _, _, _, rfl, _⟩ := s
    rfl
  obtain ⟨m, os, cs, c, ho, hc, hl, rfl, rfl⟩ := sd
  refine r_own 2 (ds := [nT .key []]) (e_lst (ad_one (e_tup a_nil))) ?_ nd
  refine r_for (t := .nm 3) (it_tupD (e_name 1 rfl)) (fits_map fun _ => rfl) (pgN 3 nd) (fun k ρ => ∃ c3 : Cell, c3.isOwn = false ∧ ρ = [.da (scD os cs), .da (nT m c), .own ((sects os (c.take k)).map (nT .key)), c3, .un, .un]) ⟨.un, rfl, rfl⟩ ?_ ?_ rfl
  · rintro k d ρ' hi ⟨c3, h3, rfl⟩
    obtain ⟨i, e, rfl⟩ := get_map hi
    have hm := List.mem_of_getElem? e
    have lt := (List.getElem?_eq_some_iff.mp e).1
    have hlen := sects_len ho (c.take k)
    have l5 : (c.take k).length ≤ 5 := by
      rw [List.length_take]
      omega
    have hbig : (sects os (c.take k)).length ≤ 1024 := Nat.le_trans hlen (Nat.pow_le_pow_right (by decide) l5)
    have ok : os.getD i 0 ≤ 4 := ho _ (List.mem_of_getElem? (getD_some (hc i hm)))
    refine ⟨fun j hj => ?_, ?_⟩
    · cases List.mem_singleton.mp hj
      exact ⟨c3, rfl, h3⟩
    · refine r_setLc2A (t := .nm 4) (t1 := .nm 5) (own := [("section", 4), ("outcome", 5)]) (vs1 := [5]) (xs := sects os (c.take k)) (g0 := nT .key) (ys := fun _ => List.range (os.getD i 0)) (g1 := nD) (g2 := fun s o => nT .key (s ++ [o])) 2 2 (it_listD (e_own 2 rfl)) (blkOk_by rfl) (fun _ _ _ _ _ => pgN 4 nd) (fun _ _ _ _ _ => pgN 5 nd) (by decide) (by decide) (fun _ _ => rfl) (by decide)
        (fun x _ y _ => nT_inj x y) (fun _ _ x _ y _ => nD_inj x y) (fun x mx _ _ _ _ _ => ?_) (fun _ _ _ _ => rfl) (fun x mx y my _ _ _ _ _ => ?_) (fun _ _ _ _ => rfl) ?_ ?_ nd
      · exact it_rangeD C.g (n := os.getD i 0) (e_at (g := nD) (e_os (e_name 0 rfl)) (e_name 3 rfl) (getD_some (hc i hm))) (by omega)
      · have hx : (nT .key (x ++ [y])) = .tup .key (x.map nD ++ [nD y]) := by
          unfold nT
          rw [List.map_append]
          rfl
        rw [hx]
        refine e_catT (e_name 4 rfl) (e_tup (ad_one (e_name 5 rfl))) (fun z => by cases z) ?_
        have := sect_mem_len (c := c.take k) x mx
        rw [List.length_map, this]
        show (c.take k).length + 1 ≤ 100000
        omega
      · rw [flat_len _ fun _ _ => List.length_range]
        exact Nat.le_trans (Nat.mul_le_mul hbig ok) (by decide)
      · refine r_nil ⟨.da (nD i), rfl, ?_⟩
        rw [sects_take e]
        unfold grow
        rw [List.map_flatMap]
        simp only [List.map_map]
        rfl
  · rintro ρ' ⟨c3, h3, rfl⟩
    refine r_retOwn 2 rfl ?_
    rw [List.length_map, List.take_length]
end
end K19
end

section
set_option Elab.async false
set_option linter.all false
set_option maxRecDepth 100000
set_option maxHeartbeats 4000000
namespace K19
open PySem PySem.Spec PyProof.Rows L2
section
variable {P : Program} {w : World} {K : PySem.W.Frag} {mg : Str → Option Value} {base : Heap}
def Sallof : List D → D → Prop := fun ds d => ∃ os cs, os.length ≤ 6 ∧ ds = [scD os cs] ∧ d = nT .lot (List.range os.length)
theorem f_all_of (C : Ct K mg) : Fc P w K mg base 1 "all_of" (spD K Sallof) := by
  refine mk_D (k := 0) C 18 rfl ["scenario"] ["scenario"] ⟨rfl, rfl, rfl, by decide +kernel, rfl, by decide +kernel, by decide +kernel⟩ (fun _ _ _ _ _ _ us hl => match us, hl with | [_], _ => rfl) (fun ds d s => ?_) fun f cdv A outer s H E hr nd ds d sd => ?_
  -- slots: 0=scenario
  · obtain ⟨os, cs, _, rfl, _⟩ := s
    rfl
  obtain ⟨os, cs, hl, rfl, rfl⟩ := sd
  refine r_retD (d := nT .lot (List.range os.length)) ?_ rfl rfl
  exact e_tupRg C.g (n := os.length) rfl (ED.eq (e_len C.g (e_os (e_name 0 rfl)) rfl) (by rw [List.length_map])) (by omega)
def Sglob : List D → D → Prop := fun ds d => ∃ os cs, (∀ o ∈ os, o ≤ 4) ∧ os.length ≤ 6 ∧ ds = [scD os cs] ∧ d = .lst ((sects os (List.range os.length)).map (nT .key))
theorem f_globals_of (C : Ct K mg) : Fc P w K mg base 2 "globals_of" (spD K Sglob) := by
  refine mk_D (k := 1) C 19 rfl ["scenario"] ["scenario"] ⟨rfl, rfl, rfl, by decide +kernel, rfl, by decide +kernel, by decide +kernel⟩ (fun _ _ _ _ _ _ us hl => match us, hl with | [_], _ => rfl) (fun ds d s => ?_) fun f cdv A outer s H E hr nd ds d sd => ?_
  -- slots: 0=scenario
  · obtain ⟨os, cs, _, _, rfl, _⟩ := s
    rfl
  obtain ⟨os, cs, ho, hl, rfl, rfl⟩ := sd
  refine r_ret (e_callD (f_sections_by C) hr (ad_cons (e_name 0 rfl) (ad_one (e_callD (f_all_of C) hr (ad_one (e_name 0 rfl)) ⟨os, cs, hl, rfl, rfl⟩))) ⟨.lot, os, cs, _, ho, fun i m => List.mem_range.mp m, by rw [List.length_range]; exact hl, rfl, rfl⟩)
def Srow : List D → D → Prop := fun ds d => ∃ qs, qs.length ≤ 90000 ∧ ds = [row qs, nD qs.length] ∧ d = .bl true
theorem all_tt {α : Type} (xs : List α) : xs.all (fun _ => true) = true := List.all_eq_true.mpr fun _ _ => rfl
theorem istup {α : Type} {g : α → D} {m : Mk} {xs : List α} : Stup [.tup m (xs.map g), nD xs.length] (.bl true) := ⟨m, xs.map g, by rw [List.length_map]; rfl, rfl⟩
theorem f_is_row (C : Ct K mg) : Fc P w K mg base 3 "is_row" (spD K Srow) := by
  refine mk_D (k := 2) C 4 rfl ["value", "many", "each"] ["value", "many"] ⟨rfl, rfl, rfl, by decide +kernel, rfl, by decide +kernel, by decide +kernel⟩ (fun _ _ _ _ _ _ us hl => match us, hl with | [_, _], _ => rfl) (fun ds d s => ?_) fun f cdv A outer s H E hr nd ds d sd => ?_
  -- slots: 0=value 1=many 2=each
  · obtain ⟨qs, _, rfl, _⟩ := s
    rfl
  obtain ⟨qs, hl, rfl, rfl⟩ := sd
  refine r_retD (d := .bl (true && qs.all fun _ => true)) ?_ rfl (by rw [all_tt]; rfl)
  refine e_and (e_callD (f_is_tuple_of C) hr (ad_cons (e_name 0 rfl) (ad_one (e_name 1 rfl))) istup) fun _ => e_one ?_
  refine e_allA C.g (b := fun _ => true) rfl (e_lcA0 (t := .nm 2) (own := [("each", 2)]) (g0 := fr) rfl nd (it_tupD (e_name 0 rfl)) (blkOk_by rfl) (fun _ _ _ _ _ => pgN 2 nd) (by decide) (fun _ _ => rfl) (fun x _ y _ => fr_inj) (fun q mq _ _ _ _ _ => ?_) (fun _ _ => rfl) hl)
  exact e_callD (f_is_ratio C) hr (ad_one (e_name 2 rfl)) ⟨q, rfl, rfl⟩
/-- chances: not below 0, of sum 1, over one denominator -/
structure Chs (qs : List Rat) : Prop where
  dn : ∃ N M, 0 < N ∧ (∀ q ∈ qs, Dn N M q) ∧ N ≤ 2 ^ 240 ∧ qs.length * M ≤ 2 ^ 240 ∧ M ≤ 2 ^ 240
  nn : ∀ q ∈ qs, 0 ≤ q
  one : tot qs = 1
  len : qs.length ≤ 90000
def Schs : List D → D → Prop := fun ds d => ∃ qs, Chs qs ∧ ds = [row qs, nD qs.length] ∧ d = .bl true
theorem f_is_chances (C : Ct K mg) : Fc P w K mg base 4 "is_chances" (spD K Schs) := by
  refine mk_D (k := 3) C 20 rfl ["value", "many", "each"] ["value", "many"] ⟨rfl, rfl, rfl, by decide +kernel, rfl, by decide +kernel, by decide +kernel⟩ (fun _ _ _ _ _ _ us hl => match us, hl with | [_, _], _ => rfl) (fun ds d s => ?_) fun f cdv A outer s H E hr nd ds d sd => ?_
  -- slots: 0=value 1=many 2=each
  · obtain ⟨qs, _, rfl, _⟩ := s
    rfl
  obtain ⟨qs, hc, rfl, rfl⟩ := sd
  obtain ⟨N, M, h0, hq, h1, h2, h3⟩ := hc.dn
  have e1 : qs.all (fun q => decide ((0 : Int) ≤ q.num)) = true := List.all_eq_true.mpr fun q m => decide_eq_true (Rat.num_nonneg.mpr (hc.nn q m))
  refine r_retD (d := .bl (true && (true && true))) ?_ rfl rfl
  refine e_and (e_callD (f_is_row C) hr (ad_cons (e_name 0 rfl) (ad_one (e_name 1 rfl))) ⟨qs, hc.len, rfl, rfl⟩) fun _ => e_and (ED.eq (e_allA C.g (b := fun q : Rat => decide ((0 : Int) ≤ q.num)) rfl (e_lcA0 (t := .nm 2) (own := [("each", 2)]) (g0 := fr) rfl nd (it_tupD (e_name 0 rfl)) (blkOk_by rfl) (fun _ _ _ _ _ => pgN 2 nd) (by decide) (fun _ _ => rfl) (fun x _ y _ => fr_inj) (fun q mq _ _ _ _ _ => ?_) (fun _ _ => rfl) hc.len)) (congrArg D.bl e1)) fun _ => e_one ?_
  · exact e_cmpD op_ge (e_num (e_name 2 rfl)) e_int od_ge
  · refine ED.eq (e_cmpD (op_eqD hr.u64) (e_callD (f_total C) hr (ad_one (e_name 0 rfl)) ⟨false, N, M, qs, h0, hq, h1, h2, h3, rfl, rfl⟩) (e_one' C.g) (od_eq ((sh_fr _).ok (by decide)) ((sh_fr _).ok (by decide)))) ?_
    rw [hc.one, eqv_self (sh_fr 1)]
def Swins : List D → D → Prop := fun ds d => ∃ ws, (∀ x ∈ ws, x ≤ 1) ∧ ws.length ≤ 90000 ∧ ds = [nT .any ws, nD ws.length] ∧ d = .bl true
theorem f_are_wins (C : Ct K mg) : Fc P w K mg base 3 "are_wins" (spD K Swins) := by
  refine mk_D (k := 2) C 31 rfl ["value", "many", "each"] ["value", "many"] ⟨rfl, rfl, rfl, by decide +kernel, rfl, by decide +kernel, by decide +kernel⟩ (fun _ _ _ _ _ _ us hl => match us, hl with | [_, _], _ => rfl) (fun ds d s => ?_) fun f cdv A outer s H E hr nd ds d sd => ?_
  -- slots: 0=value 1=many 2=each
  · obtain ⟨ws, _, _, rfl, _⟩ := s
    rfl
  obtain ⟨ws, hw, hl, rfl, rfl⟩ := sd
  have e1 : ws.all (fun i : Nat => decide ((0 : Int) ≤ (i : Int)) && decide ((i : Int) ≤ 1)) = true := nats_bet fun i m => by
    have := hw i m
    omega
  refine r_retD (d := .bl (true && true)) ?_ rfl rfl
  refine e_and (e_callD (f_is_tuple_of C) hr (ad_cons (e_name 0 rfl) (ad_one (e_name 1 rfl))) istup) fun _ => e_one (ED.eq (e_allA C.g (b := fun i : Nat => decide ((0 : Int) ≤ (i : Int)) && decide ((i : Int) ≤ 1)) rfl (e_lcA0 (t := .nm 2) (own := [("each", 2)]) (g0 := nD) rfl nd (it_tupD (e_name 0 rfl)) (blkOk_by rfl) (fun _ _ _ _ _ => pgN 2 nd) (by decide) (fun _ _ => rfl) (fun x _ y _ => nD_inj x y) (fun i mi _ _ _ _ _ => ?_) (fun _ _ => rfl) hl)) (congrArg D.bl e1))
  exact e_callD (f_is_between C) hr (ad_cons (e_name 2 rfl) (ad_cons e_int (ad_one e_int))) ⟨(i : Int), 0, 1, rfl, rfl⟩
/-- what a win pays -/
def paidRow (q : Rat) (ws : List Nat) : List Rat := ws.map fun b => if b = 1 then q else 0
def paidQ (qs : List Rat) (wins : List (List Nat)) : List (List Rat) := (qs.zip wins).map fun z => paidRow z.1 z.2
theorem e_sh {X : Cx} {W : List Addr} {ρ : List Cell} {f : Nat} {e : Expr} {p pos : Pos} {k} {qs : List Rat} {ws : List (List Nat)} (h : ED X W ρ 0 e (gmD qs ws)) : ED X W ρ f (.Subscript e (.Constant (.int 0) k p) pos) (row qs) := e_ixT (m := .any) (ds := [row qs, .tup .any (ws.map (nT .any))]) h e_int rfl
theorem e_wn {X : Cx} {W : List Addr} {ρ : List Cell} {f : Nat} {e : Expr} {p pos : Pos} {k} {qs : List Rat} {ws : List (List Nat)} (h : ED X W ρ 0 e (gmD qs ws)) : ED X W ρ f (.Subscript e (.Constant (.int 1) k p) pos) (.tup .any (ws.map (nT .any))) := e_ixT (m := .any) (ds := [row qs, .tup .any (ws.map (nT .any))]) h e_int rfl
def Swon : List D → D → Prop := fun ds d => ∃ qs ws, qs.length ≤ 90000 ∧ (∀ x ∈ ws, x.length ≤ 90000) ∧ ds = [gmD qs ws] ∧ d = rows (paidQ qs ws)
theorem zip_len {α β : Type} {xs : List α} {ys : List β} {n : Nat} (h : xs.length ≤ n) : (xs.zip ys).length ≤ n := by
  rw [List.length_zip]
  exact Nat.le_trans (Nat.min_le_left ..) h
theorem f_won_by (C : Ct K mg) : Fc P w K mg base 1 "won_by" (spD K Swon) := by
  refine mk_D (k := 0) C 33 rfl ["game", "shares", "wins", "share", "row", "win"] ["game"] ⟨rfl, rfl, rfl, by decide +kernel, rfl, by decide +kernel, by decide +kernel⟩ (fun _ _ _ _ _ _ us hl => match us, hl with | [_], _ => rfl) (fun ds d s => ?_) fun f cdv A outer s H E hr nd ds d sd => ?_
  -- slots: 0=game 1=shares 2=wins 3=share 4=row 5=win
  · obtain ⟨qs, ws, _, _, rfl, _⟩ := s
    rfl
  obtain ⟨qs, ws, hl, hw, rfl, rfl⟩ := sd
  refine r_unpack 1 2 (e_name (d := gmD qs ws) 0 rfl) (fun d e => ⟨.any, row qs, .tup .any (ws.map (nT .any)), e, ?_⟩) nd
  refine r_retD (d := rows (paidQ qs ws)) ?_ rfl rfl
  refine ED.lq (e_tuple C.g (e_lcA0 (t := .pr 3 4) (own := [("share", 3), ("row", 4)]) (xs := qs.zip ws) (g0 := prD fr (nT .any)) (gg := fun z => row (paidRow z.1 z.2)) rfl nd ?_ (blkOk_by rfl) (fun _ _ _ _ _ => pgP 3 4 nd) (by decide) (fun _ _ => rfl) (fun x _ y _ => pr_inj (fun _ _ => fr_inj) nT_inj x y) (fun z mz _ _ _ _ _ => ?_) (fun _ _ => rfl) (zip_len hl))) ?_
  · rw [← zipD_map]
    exact it_zip C.g (e_name 1 rfl) (e_name 2 rfl) rfl rfl
  · refine ED.lq (e_tuple C.g (e_lcA0 (t := .nm 5) (own := [("win", 5)]) (xs := z.2) (g0 := nD) (gg := fun b => fr (if b = 1 then z.1 else 0)) rfl nd (it_tupD (e_name 4 rfl)) (blkOk_by rfl) (fun _ _ _ _ _ => pgN 5 nd) (by decide) (fun _ _ => rfl) (fun x _ y _ => nD_inj x y) (fun b mb _ _ _ _ _ => ?_) (fun _ _ => rfl) (hw _ (List.of_mem_zip mz).2))) ?_
    · refine e_if (k := ((b : Int) == 1)) (t_cmpD op_eq (e_name 5 rfl) e_int od_eqI) (fun h => ?_) fun h => ?_
      · have hb : b = 1 := by
          have := eq_of_beq h
          omega
        refine ED.eq (e_name 3 rfl) ?_
        rw [if_pos hb]
      · have hb : b ≠ 1 := fun e => by
          rw [e] at h
          cases h
        refine ED.eq (e_zero C.g) ?_
        rw [if_neg hb]
    · unfold row paidRow
      rw [List.map_map]
      exact .any (LqL.refl _)
  · unfold rows paidQ
    rw [List.map_map]
    exact .any (LqL.refl _)
/-- the value of a game -/
def valQ (ws fam : List (List Rat)) : Rat := tot ((ws.zip fam).map fun z => dotQ z.1 z.2)
def Sval : List D → D → Prop := fun ds d => ∃ N M N' M' L ws fam, 0 < N * N' ∧ (∀ r ∈ ws, r.length ≤ L ∧ ∀ q ∈ r, Dn N M q) ∧ (∀ r ∈ fam, ∀ q ∈ r, Dn N' M' q) ∧ N ≤ Cap ∧ M ≤ Cap ∧ N' ≤ Cap ∧ M' ≤ Cap ∧ L ≤ 90000 ∧ ws.length ≤ 90000 ∧ ws.length * (L * (M * M')) ≤ Cap ∧ L * (M * M') ≤ Cap ∧ ds = [rows ws, rows fam] ∧ d = fr (valQ ws fam)
theorem Dn.dot {N M N' M' : Nat} {ws xs : List Rat} (h0 : 0 < N * N') (hw : ∀ q ∈ ws, Dn N M q) (hx : ∀ q ∈ xs, Dn N' M' q) {L : Nat} (hl : ws.length ≤ L) : Dn (N * N') (L * (M * M')) (dotQ ws xs) := by
  refine (Dn.total h0 (M := M * M') fun q m => ?_).mono (Nat.mul_le_mul_right _ ?_)
  · obtain ⟨z, mz, rfl⟩ := List.mem_map.mp m
    exact (hw _ (List.of_mem_zip mz).1).mul (hx _ (List.of_mem_zip mz).2)
  · rw [List.length_map]
    exact zip_len hl
theorem f_value_by (C : Ct K mg) : Fc P w K mg base 5 "value_by" (spD K Sval) := by
  refine mk_D (k := 4) C 29 rfl ["weights", "family", "row"] ["weights", "family"] ⟨rfl, rfl, rfl, by decide +kernel, rfl, by decide +kernel, by decide +kernel⟩ (fun _ _ _ _ _ _ us hl => match us, hl with | [_, _], _ => rfl) (fun ds d s => ?_) fun f cdv A outer s H E hr nd ds d sd => ?_
  -- slots: 0=weights 1=family 2=row
  · obtain ⟨N, M, N', M', L, ws, fam, _, _, _, _, _, _, _, _, _, _, _, rfl, _⟩ := s
    rfl
  obtain ⟨N, M, N', M', L, ws, fam, h0, hw, hf, c1, c2, c3, c4, cL, cl, cm, cm1, rfl, rfl⟩ := sd
  refine r_retD (d := fr (valQ ws fam)) ?_ rfl rfl
  refine e_callD (f_total C) hr (ad_one (e_lcA0 (t := .pr 0 2) (own := [("weights", 0), ("row", 2)]) (xs := ws.zip fam) (g0 := prD row row) (gg := fun z => fr (dotQ z.1 z.2)) rfl nd ?_ (blkOk_by rfl) (fun _ _ _ _ _ => pgP 0 2 nd) (by decide) (fun _ _ => rfl) (fun x _ y _ => pr_inj row_inj row_inj x y) (fun z m _ _ _ _ _ => ?_) (fun _ _ => rfl) (zip_len cl))) ?_
  · rw [← zipD_map]
    exact it_zip C.g (e_name 0 rfl) (e_name 1 rfl) rfl rfl
  · have m1 := hw _ (List.of_mem_zip m).1
    exact e_callD (f_dot C) hr (ad_cons (e_name 0 rfl) (ad_one (e_name 2 rfl))) ⟨N, M, N', M', z.1, z.2, h0, m1.2, hf _ (List.of_mem_zip m).2, c1, c2, c3, c4, Nat.le_trans m1.1 cL, Nat.le_trans (Nat.mul_le_mul_right _ m1.1) cm1, rfl, rfl⟩
  · refine ⟨true, N * N', L * (M * M'), (ws.zip fam).map fun z => dotQ z.1 z.2, h0, fun q m => ?_, Nat.le_trans (Nat.mul_le_mul c1 c3) cap2, ?_, Nat.le_trans cm1 cap_le, ?_, rfl⟩
    · obtain ⟨z, mz, rfl⟩ := List.mem_map.mp m
      have m1 := hw _ (List.of_mem_zip mz).1
      exact Dn.dot h0 m1.2 (hf _ (List.of_mem_zip mz).2) m1.1
    · rw [List.length_map]
      exact Nat.le_trans (Nat.mul_le_mul_right _ (zip_len (Nat.le_refl _))) (Nat.le_trans cm cap_le)
    · show [D.lst _] = [D.lst _]
      rw [List.map_map]
      rfl
def Sgval : List D → D → Prop := fun ds d => ∃ N M N' M' L qs wins fam, 0 < N * N' ∧ (∀ r ∈ paidQ qs wins, r.length ≤ L ∧ ∀ q ∈ r, Dn N M q) ∧ (∀ r ∈ fam, ∀ q ∈ r, Dn N' M' q) ∧ N ≤ Cap ∧ M ≤ Cap ∧ N' ≤ Cap ∧ M' ≤ Cap ∧ L ≤ 90000 ∧ qs.length ≤ 90000 ∧ (∀ x ∈ wins, x.length ≤ 90000) ∧ qs.length * (L * (M * M')) ≤ Cap ∧ L * (M * M') ≤ Cap ∧ ds = [gmD qs wins, rows fam] ∧ d = fr (valQ (paidQ qs wins) fam)
theorem paid_len {qs : List Rat} {wins : List (List Nat)} {n : Nat} (h : qs.length ≤ n) : (paidQ qs wins).length ≤ n := by
  unfold paidQ
  rw [List.length_map]
  exact zip_len h
theorem f_game_value_by (C : Ct K mg) : Fc P w K mg base 6 "game_value_by" (spD K Sgval) := by
  refine mk_D (k := 5) C 34 rfl ["game", "family"] ["game", "family"] ⟨rfl, rfl, rfl, by decide +kernel, rfl, by decide +kernel, by decide +kernel⟩ (fun _ _ _ _ _ _ us hl => match us, hl with | [_, _], _ => rfl) (fun ds d s => ?_) fun f cdv A outer s H E hr nd ds d sd => ?_
  -- slots: 0=game 1=family
  · obtain ⟨N, M, N', M', L, qs, wins, fam, _, _, _, _, _, _, _, _, _, _, _, _, rfl, _⟩ := s
    rfl
  obtain ⟨N, M, N', M', L, qs, wins, fam, h0, hw, hf, c1, c2, c3, c4, cL, cl, cw, cm, cm1, rfl, rfl⟩ := sd
  refine r_retD (d := fr (valQ (paidQ qs wins) fam)) ?_ rfl rfl
  exact e_callD (f_value_by C) hr (ad_cons (e_callD (f_won_by C) hr (ad_one (e_name 0 rfl)) ⟨qs, wins, cl, cw, rfl, rfl⟩) (ad_one (e_name 1 rfl))) ⟨N, M, N', M', L, _, fam, h0, hw, hf, c1, c2, c3, c4, cL, paid_len cl, Nat.le_trans (Nat.mul_le_mul_right _ (paid_len (Nat.le_refl _))) cm, cm1, rfl, rfl⟩
end
end K19
end

section
set_option Elab.async false
set_option linter.all false
set_option maxRecDepth 100000
set_option maxHeartbeats 4000000
namespace K19
open PySem PySem.Spec PyProof.Rows L2
/-! ### a scenario that holds -/
def asI (c : List Nat) : List Int := c.map fun n : Nat => (n : Int)
structure ScV (os : List Nat) (cs : List (List Nat)) : Prop where
  n1 : 1 ≤ os.length
  n6 : os.length ≤ 4
  o2 : ∀ o ∈ os, 2 ≤ o ∧ o ≤ 4
  pr : prodN os ≤ 64
  lot : ∀ c ∈ cs, Lot os.length c ∧ c ≠ []
  asc : (cs.zip (cs.drop 1)).all (fun z => HT.lexLt (asI z.1) (asI z.2)) = true
  anti : ∀ a ∈ cs, ∀ b ∈ cs, a ≠ b → (a.all fun i => b.contains i) = false
  cov : ∀ i, i < os.length → ∃ c ∈ cs, i ∈ c
  c3 : ∀ c ∈ cs, c.length ≤ 3
  c8 : cs.length ≤ 8
section
variable {P : Program} {w : World} {K : PySem.W.Frag} {mg : Str → Option Value} {base : Heap}
def Souts : List D → D → Prop := fun ds d => ∃ os, 1 ≤ os.length ∧ os.length ≤ 6 ∧ (∀ o ∈ os, 2 ≤ o ∧ o ≤ 4) ∧ prodN os ≤ 64 ∧ ds = [nT .any os] ∧ d = .bl true
theorem e_most1 {X : Cx} {W : List Addr} {ρ : List Cell} {f : Nat} {p : Pos} (g : Gm X.K X.mg) (hg : Gl X "MOST_OBSERVABLES" := by rfl) : ED X W ρ f (.Name "MOST_OBSERVABLES" p) (.int 6) := e_globI hg g.most1 (by decide)
theorem e_most2 {X : Cx} {W : List Addr} {ρ : List Cell} {f : Nat} {p : Pos} (g : Gm X.K X.mg) (hg : Gl X "MOST_OUTCOMES" := by rfl) : ED X W ρ f (.Name "MOST_OUTCOMES" p) (.int 4) := e_globI hg g.most2 (by decide)
theorem e_most3 {X : Cx} {W : List Addr} {ρ : List Cell} {f : Nat} {p : Pos} (g : Gm X.K X.mg) (hg : Gl X "MOST_GLOBAL" := by rfl) : ED X W ρ f (.Name "MOST_GLOBAL" p) (.int 64) := e_globI hg g.most3 (by decide)
theorem bet_tt {v lo hi : Int} (h : lo ≤ v ∧ v ≤ hi) : Sbet [.int v, .int lo, .int hi] (.bl true) := ⟨v, lo, hi, rfl, by rw [decide_eq_true h.1, decide_eq_true h.2]; rfl⟩
theorem f_are_outcomes (C : Ct K mg) : Fc P w K mg base 3 "are_outcomes" (spD K Souts) := by
  refine mk_D (k := 2) C 14 rfl ["value", "each"] ["value"] ⟨rfl, rfl, rfl, by decide +kernel, rfl, by decide +kernel, by decide +kernel⟩ (fun _ _ _ _ _ _ us hl => match us, hl with | [_], _ => rfl) (fun ds d s => ?_) fun f cdv A outer s H E hr nd ds d sd => ?_
  -- slots: 0=value 1=each
  · obtain ⟨os, _, _, _, _, rfl, _⟩ := s
    rfl
  obtain ⟨os, h1, h6, ho, hp, rfl, rfl⟩ := sd
  have e1 : os.all (fun _ => true) = true := all_tt os
  refine r_ifN ?_ ?_
  · exact t_of (tw_orD (k := false) (t_notD (k := true) (t_valD (e_isi C.g (e_name 0 rfl) rfl C.g.tuple rfl))) fun _ => tw_or1 (t_notD (k := true) (t_valD (e_callD (f_is_between C) hr (ad_cons (e_len C.g (e_name 0 rfl) rfl) (ad_cons e_int (ad_one (e_most1 C.g)))) (bet_tt (by rw [List.length_map]; omega))))))
  · refine r_retD (d := .bl (true && true)) ?_ rfl rfl
    refine e_and (ED.eq (e_allA C.g (b := fun _ : Nat => true) rfl (e_lcA0 (t := .nm 1) (own := [("each", 1)]) (g0 := nD) rfl nd (it_tupD (e_name 0 rfl)) (blkOk_by rfl) (fun _ _ _ _ _ => pgN 1 nd) (by decide) (fun _ _ => rfl) (fun x _ y _ => nD_inj x y) (fun i mi _ _ _ _ _ => ?_) (fun _ _ => rfl) (by omega))) (congrArg D.bl e1)) fun _ => e_one (ED.eq (e_cmpD op_le (e_callD (f_product_of C) hr (ad_one (e_name 0 rfl)) ⟨.any, os, fun o m => (ho o m).2, h6, rfl, rfl⟩) (e_most3 C.g) od_le) ?_)
    · exact e_callD (f_is_between C) hr (ad_cons (e_name 1 rfl) (ad_cons e_int (ad_one (e_most2 C.g)))) (bet_tt (by have := ho i mi; omega))
    · rw [decide_eq_true (by omega)]
def Sctx : List D → D → Prop := fun ds d => ∃ os cs, ScV os cs ∧ ds = [.tup .any (cs.map (nT .lot)), nD os.length] ∧ d = .bl true
theorem anti_any {cs : List (List Nat)} (h : ∀ a ∈ cs, ∀ b ∈ cs, a ≠ b → (a.all fun i => b.contains i) = false) : (cs.flatMap fun a => (cs.filter fun b => !(a == b)).map fun b => a.all fun i => b.contains i).any id = false := by
  rw [List.any_eq_false]
  intro x m
  obtain ⟨a, ma, m⟩ := List.mem_flatMap.mp m
  obtain ⟨b, mb, rfl⟩ := List.mem_map.mp m
  obtain ⟨mb, nb⟩ := List.mem_filter.mp mb
  have ne : a ≠ b := fun e => by
    rw [e] at nb
    simp at nb
  rw [h a ma b mb ne]
  decide
theorem flat_len2 {α β : Type} {f : α → List β} {k : Nat} : ∀ xs : List α, (∀ x ∈ xs, (f x).length ≤ k) → (xs.flatMap f).length ≤ xs.length * k
  | [], _ => by simp
  | x :: xs, h => by
    rw [List.flatMap_cons, List.length_append, List.length_cons, Nat.succ_mul]
    have a := flat_len2 xs fun y m => h y (List.mem_cons_of_mem _ m)
    have b := h x (List.mem_cons_self ..)
    omega
theorem e_ltT {X : Cx} {W : List Addr} {ρ : List Cell} {f : Nat} {a b : Expr} {pos : Pos} {m m' : Mk} {c c' : List Nat} (hu : X.A.units < cLine) (ha : ED X W ρ 0 a (nT m c)) (hb : ED X W ρ 0 b (nT m' c')) (hm : behindInMarks .Lt b = false := by first | exact nomark _ | rfl) : ED X W ρ f (.Compare a [.Lt] [b] pos) (.bl (HT.lexLt (asI c) (asI c'))) := by
  have e : ∀ (m : Mk) (c : List Nat), nT m c = .tup m ((asI c).map .int) := fun m c => by
    unfold nT asI
    rw [List.map_map]
    rfl
  rw [e] at ha hb
  exact e_cmpD (op_ltT hu) ha hb od_ltT hm
theorem t_neT {X : Cx} {W : List Addr} {ρ : List Cell} {a b : Expr} {pos : Pos} {m m' : Mk} {c c' : List Nat} (hu : X.A.units + 64 < cLine) (ha : ED X W ρ 0 a (nT m c)) (hb : ED X W ρ 0 b (nT m' c')) (hm : behindInMarks .NotEq b = false := by first | exact nomark _ | rfl) : TD X W ρ (.Compare a [.NotEq] [b] pos) (!(c == c')) := by
  have h := t_cmpD (pos := pos) (op_neD hu) ha hb (od_ne ((sh_nT c).ok (by decide)) ((sh_nT c').ok (by decide))) hm
  rw [eqv_nT] at h
  exact h
theorem f_are_contexts (C : Ct K mg) : Fc P w K mg base 4 "are_contexts" (spD K Sctx) := by
  refine mk_D (k := 3) C 15 rfl ["value", "many", "each", "one", "two", "context"] ["value", "many"] ⟨rfl, rfl, rfl, by decide +kernel, rfl, by decide +kernel, by decide +kernel⟩ (fun _ _ _ _ _ _ us hl => match us, hl with | [_, _], _ => rfl) (fun ds d s => ?_) fun f cdv A outer s H E hr nd ds d sd => ?_
  -- slots: 0=value 1=many 2=each 3=one 4=two 5=context
  · obtain ⟨os, cs, _, rfl, _⟩ := s
    rfl
  obtain ⟨os, cs, V, rfl, rfl⟩ := sd
  have hn := V.n6
  have h8 := V.c8
  have e2 : (cs.all fun c => true && !(c == [])) = true := List.all_eq_true.mpr fun c m => by
    have := (V.lot c m).2
    cases c with
    | nil => exact absurd rfl this
    | cons _ _ => rfl
  refine r_ifN ?_ ?_
  · refine t_of (tw_orD (k := false) (t_notD (k := true) (t_valD (e_isi C.g (e_name 0 rfl) rfl C.g.tuple rfl))) fun _ => tw_or1 (t_notD (k := true) (t_valD (ED.eq (e_allA C.g (b := fun c : List Nat => true && !(c == [])) rfl (e_lcA0 (t := .nm 2) (own := [("each", 2)]) (g0 := nT .lot) rfl nd (it_tupD (e_name 0 rfl)) (blkOk_by rfl) (fun _ _ _ _ _ => pgN 2 nd) (by decide) (fun _ _ => rfl) (fun x _ y _ => nT_inj x y) (fun c mc _ _ _ _ _ => ?_) (fun _ _ => rfl) (by omega))) (congrArg D.bl e2)))))
    refine e_and (e_callD (f_is_lot_of C) hr (ad_cons (e_name 2 rfl) (ad_one (e_name 1 rfl))) ⟨.lot, os.length, c, (V.lot c mc).1, by omega, rfl, rfl⟩) fun _ => e_one (ED.eq (e_cmpD (op_neD hr.u64) (e_name (d := nT .lot c) 2 rfl) (e_tup a_nil) (od_ne ((sh_nT _).ok (by decide)) ((sh_nT (m := .key) []).ok (by decide)))) ?_)
    exact congrArg (fun b => D.bl (!b)) (eqv_nT .lot .key c [])
  refine r_ifN ?_ ?_
  · refine t_notD (k := true) (t_valD (ED.eq (e_allA C.g (xs := cs.zip (cs.drop 1)) (b := fun z => HT.lexLt (asI z.1) (asI z.2)) rfl (e_lcA0 (t := .pr 3 4) (own := [("one", 3), ("two", 4)]) (g0 := prD (nT .lot) (nT .lot)) rfl nd ?_ (blkOk_by rfl) (fun _ _ _ _ _ => pgP 3 4 nd) (by decide) (fun _ _ => rfl) (fun x _ y _ => pr_inj nT_inj nT_inj x y) (fun z mz _ _ _ _ _ => ?_) (fun _ _ => rfl) (zip_len (by omega)))) (congrArg D.bl V.asc)))
    · rw [← zipD_map, List.map_drop]
      exact it_zip C.g (e_name 0 rfl) (e_tail (e_name 0 rfl)) rfl rfl
    · exact e_ltT hr.u0 (e_name 3 rfl) (e_name 4 rfl)
  refine r_ifN ?_ ?_
  · have e3 : (cs.flatMap fun a => (cs.filter fun b => !(a == b)).map fun b => D.bl (a.all fun i => b.contains i)) = (cs.flatMap fun a => (cs.filter fun b => !(a == b)).map fun b => a.all fun i => b.contains i).map .bl := by
      rw [List.map_flatMap]
      simp only [List.map_map]
      rfl
    refine t_valD (ED.eq (e_any C.g rfl (bs := cs.flatMap fun a => (cs.filter fun b => !(a == b)).map fun b => a.all fun i => b.contains i) ?_) (congrArg D.bl (anti_any V.anti)))
    rw [← e3]
    refine e_lc2A (t := .nm 3) (t1 := .nm 4) (own := [("one", 3), ("two", 4)]) (vs1 := [4]) (g0 := nT .lot) (ys := fun _ => cs) (g1 := nT .lot) rfl nd (it_tupD (e_name 0 rfl)) (blkOk_by rfl) (fun _ _ _ _ _ => pgN 3 nd) (fun _ _ _ _ _ => pgN 4 nd) (by decide) (by decide) (fun _ _ => rfl) (by decide) (fun x _ y _ => nT_inj x y) (fun _ _ x _ y _ => nT_inj x y)
      (fun x mx _ _ _ _ _ => it_tupD (e_name 0 rfl)) (fun _ _ _ _ => rfl) (fun a ma b mb _ _ _ _ _ => ?_) (fun a ma b mb pb _ _ _ _ _ => ?_) (fun _ _ _ _ _ => rfl) ?_
    · exact ts_one (t_neT hr.u64 (e_name 3 rfl) (e_name 4 rfl))
    · exact e_callD (f_is_part C) hr (ad_cons (e_name 3 rfl) (ad_one (e_name 4 rfl))) ⟨.lot, .lot, a, b, by have := V.c3 a ma; omega, rfl, rfl⟩
    · exact Nat.le_trans (flat_len2 cs fun _ _ => h8) (by omega)
  · have e4 : ((List.range os.length).all fun i => cs.any fun c => c.contains i) = true := List.all_eq_true.mpr fun i m => by
      obtain ⟨c, mc, ic⟩ := V.cov i (List.mem_range.mp m)
      exact List.any_eq_true.mpr ⟨c, mc, by rw [List.contains_eq_mem]; exact decide_eq_true ic⟩
    refine r_retD (d := .bl true) (ED.eq (e_allA C.g (xs := List.range os.length) (b := fun i => cs.any fun c => c.contains i) rfl (e_lcA0 (t := .nm 2) (own := [("each", 2)]) (g0 := nD) rfl nd (it_rangeD C.g (n := os.length) (e_name 1 rfl) (by omega)) (blkOk_by rfl) (fun _ _ _ _ _ => pgN 2 nd) (by decide) (fun _ _ => rfl) (fun x _ y _ => nD_inj x y) (fun i mi _ _ _ _ _ => ?_) (fun _ _ => rfl) (by rw [List.length_range]; omega))) (congrArg D.bl e4)) rfl rfl
    exact e_anyA C.g (xs := cs) (b := fun c => c.contains i) rfl (e_lcA0 (t := .nm 5) (own := [("context", 5)]) (g0 := nT .lot) rfl nd (it_tupD (e_name 0 rfl)) (blkOk_by rfl) (fun _ _ _ _ _ => pgN 5 nd) (by decide) (fun _ _ => rfl) (fun x _ y _ => nT_inj x y) (fun c mc _ _ _ _ _ => e_inT (e_name 2 rfl) (e_name 5 rfl)) (fun _ _ => rfl) (by omega))
def Sscen : List D → D → Prop := fun ds d => ∃ os cs, ScV os cs ∧ ds = [scD os cs] ∧ d = .bl true
theorem f_is_scenario_by (C : Ct K mg) : Fc P w K mg base 5 "is_scenario_by" (spD K Sscen) := by
  refine mk_D (k := 4) C 16 rfl ["value"] ["value"] ⟨rfl, rfl, rfl, by decide +kernel, rfl, by decide +kernel, by decide +kernel⟩ (fun _ _ _ _ _ _ us hl => match us, hl with | [_], _ => rfl) (fun ds d s => ?_) fun f cdv A outer s H E hr nd ds d sd => ?_
  -- slots: 0=value
  · obtain ⟨os, cs, _, rfl, _⟩ := s
    rfl
  obtain ⟨os, cs, V, rfl, rfl⟩ := sd
  refine r_retD (d := .bl (true && (true && true))) ?_ rfl rfl
  refine e_and (e_callD (f_is_tuple_of C) hr (ad_cons (e_name 0 rfl) (ad_one e_int)) ⟨.any, [nT .any os, .tup .any (cs.map (nT .lot))], rfl, rfl⟩) fun _ => e_and (e_callD (f_are_outcomes C) hr (ad_one (e_os (e_name 0 rfl))) ⟨os, V.n1, Nat.le_trans V.n6 (by decide), V.o2, V.pr, rfl, rfl⟩) fun _ => e_one (e_callD (f_are_contexts C) hr (ad_cons (e_cs (e_name 0 rfl)) (ad_one (e_len C.g (e_os (e_name 0 rfl)) rfl))) ⟨os, cs, V, by rw [List.length_map]; rfl, rfl⟩)
def Scks : List D → D → Prop := fun ds d => ∃ os cs, ScV os cs ∧ ds = [scD os cs] ∧ d = .non
theorem f_check_scenario (C : Ct K mg) : Fc P w K mg base 6 "check_scenario" (spD K Scks) := by
  refine mk_D (k := 5) C 26 rfl ["value"] ["value"] ⟨rfl, rfl, rfl, by decide +kernel, rfl, by decide +kernel, by decide +kernel⟩ (fun _ _ _ _ _ _ us hl => match us, hl with | [_], _ => rfl) (fun ds d s => ?_) fun f cdv A outer s H E hr nd ds d sd => ?_
  -- slots: 0=value
  · obtain ⟨os, cs, _, rfl, _⟩ := s
    rfl
  obtain ⟨os, cs, V, rfl, rfl⟩ := sd
  exact r_ifN (t_notD (k := true) (t_valD (e_callD (f_is_scenario_by C) hr (ad_one (e_name 0 rfl)) ⟨os, cs, V, rfl, rfl⟩))) (r_nil rfl)
/-- a game that holds -/
structure GmV (os : List Nat) (cs : List (List Nat)) (qs : List Rat) (wins : List (List Nat)) : Prop where
  ch : Chs qs
  l1 : qs.length = cs.length
  l2 : wins.length = cs.length
  row : ∀ z ∈ wins.zip cs, z.1.length = (sects os z.2).length ∧ ∀ x ∈ z.1, x ≤ 1
def Sgm : List D → D → Prop := fun ds d => ∃ os cs qs wins, ScV os cs ∧ GmV os cs qs wins ∧ ds = [scD os cs, gmD qs wins] ∧ d = .bl true
theorem ScV.sl {os : List Nat} {cs : List (List Nat)} (V : ScV os cs) {c : List Nat} (m : c ∈ cs) : (sects os c).length ≤ 64 := by
  refine Nat.le_trans (sects_len (fun o h => (V.o2 o h).2) c) ?_
  exact Nat.le_trans (Nat.pow_le_pow_right (by decide) (V.c3 c m)) (by decide)
theorem sects_call {K : PySem.W.Frag} {os : List Nat} {cs : List (List Nat)} (V : ScV os cs) {c : List Nat} {m : Mk} (mc : c ∈ cs) : Ssects [scD os cs, nT m c] (.lst ((sects os c).map (nT .key))) := ⟨m, os, cs, c, fun o h => (V.o2 o h).2, (V.lot c mc).1.2, by have := V.c3 c mc; omega, rfl, rfl⟩
theorem f_is_game_by (C : Ct K mg) : Fc P w K mg base 5 "is_game_by" (spD K Sgm) := by
  refine mk_D (k := 4) C 32 rfl ["scenario", "value", "row", "lot"] ["scenario", "value"] ⟨rfl, rfl, rfl, by decide +kernel, rfl, by decide +kernel, by decide +kernel⟩ (fun _ _ _ _ _ _ us hl => match us, hl with | [_, _], _ => rfl) (fun ds d s => ?_) fun f cdv A outer s H E hr nd ds d sd => ?_
  -- slots: 0=scenario 1=value 2=row 3=lot
  · obtain ⟨os, cs, qs, wins, _, _, rfl, _⟩ := s
    rfl
  obtain ⟨os, cs, qs, wins, V, G, rfl, rfl⟩ := sd
  refine r_ifN ?_ ?_
  · refine t_of (tw_orD (k := false) (t_notD (k := true) (t_valD (e_callD (f_is_tuple_of C) hr (ad_cons (e_name 1 rfl) (ad_one e_int)) ⟨.any, [row qs, .tup .any (wins.map (nT .any))], rfl, rfl⟩))) fun _ => tw_or1 (t_notD (k := true) (t_valD (e_callD (f_is_chances C) hr (ad_cons (e_sh (e_name 1 rfl)) (ad_one (e_len C.g (e_cs (e_name 0 rfl)) rfl))) ⟨qs, G.ch, by rw [List.length_map, G.l1]; rfl, rfl⟩))))
  refine r_ifN ?_ ?_
  · exact t_notD (k := true) (t_valD (e_callD (f_is_tuple_of C) hr (ad_cons (e_wn (e_name 1 rfl)) (ad_one (e_len C.g (e_cs (e_name 0 rfl)) rfl))) ⟨.any, wins.map (nT .any), by rw [List.length_map, List.length_map, G.l2], rfl⟩))
  · refine r_retD (d := .bl true) (ED.eq (e_allA C.g (xs := wins.zip cs) (b := fun _ => true) rfl (e_lcA0 (t := .pr 2 3) (own := [("row", 2), ("lot", 3)]) (g0 := prD (nT .any) (nT .lot)) rfl nd ?_ (blkOk_by rfl) (fun _ _ _ _ _ => pgP 2 3 nd) (by decide) (fun _ _ => rfl) (fun x _ y _ => pr_inj nT_inj nT_inj x y) (fun z mz _ _ _ _ _ => ?_) (fun _ _ => rfl) (zip_len (by have := V.c8; have := G.l2; omega)))) (congrArg D.bl (all_tt _))) rfl rfl
    · rw [← zipD_map]
      exact it_zip C.g (e_wn (e_name 1 rfl)) (e_cs (e_name 0 rfl)) rfl rfl
    · have mc := (List.of_mem_zip mz).2
      have h := G.row z mz
      refine e_callD (f_are_wins C) hr (ad_cons (e_name 2 rfl) (ad_one (e_len C.g (e_callD (f_sections_by C) hr (ad_cons (e_name 0 rfl) (ad_one (e_name 3 rfl))) (sects_call (K := K) V mc)) rfl))) ⟨z.1, h.2, by have := V.sl mc; omega, by rw [List.length_map, ← h.1]; rfl, rfl⟩
def Sckg : List D → D → Prop := fun ds d => ∃ os cs qs wins, ScV os cs ∧ GmV os cs qs wins ∧ ds = [scD os cs, gmD qs wins] ∧ d = .non
theorem f_check_game (C : Ct K mg) : Fc P w K mg base 7 "check_game" (spD K Sckg) := by
  refine mk_D (k := 6) C 37 rfl ["scenario", "value"] ["scenario", "value"] ⟨rfl, rfl, rfl, by decide +kernel, rfl, by decide +kernel, by decide +kernel⟩ (fun _ _ _ _ _ _ us hl => match us, hl with | [_, _], _ => rfl) (fun ds d s => ?_) fun f cdv A outer s H E hr nd ds d sd => ?_
  -- slots: 0=scenario 1=value
  · obtain ⟨os, cs, qs, wins, _, _, rfl, _⟩ := s
    rfl
  obtain ⟨os, cs, qs, wins, V, G, rfl, rfl⟩ := sd
  refine r_expr (e_callD (f_check_scenario C) hr (ad_one (e_name 0 rfl)) ⟨os, cs, V, rfl, rfl⟩) (r_ifN (t_notD (k := true) (t_valD (e_callD (f_is_game_by C) hr (ad_cons (e_name 0 rfl) (ad_one (e_name 1 rfl))) ⟨os, cs, qs, wins, V, G, rfl, rfl⟩))) (r_nil rfl))
end
end K19
end

section
set_option Elab.async false
set_option linter.all false
set_option maxRecDepth 100000
set_option maxHeartbeats 4000000
namespace K19
open PySem PySem.Spec PyProof.Rows L2
section
variable {P : Program} {w : World} {K : PySem.W.Frag} {mg : Str → Option Value} {base : Heap}
theorem abs_nat (i : Int) : (if i < 0 then -i else i) = (i.natAbs : Int) := by
  by_cases h : i < 0
  · rw [if_pos h]
    omega
  · rw [if_neg h]
    omega
theorem f_law_frac (C : Ct K mg) : Fc P w K mg base 1 "_law_frac" (spD K Smk) := by
  refine mk_D (k := 0) C 44 rfl ["_law_top", "_law_base", "_law_far", "_law_rest"] ["_law_top", "_law_base"] ⟨rfl, rfl, rfl, by decide +kernel, rfl, by decide +kernel, by decide +kernel⟩ (fun _ _ _ _ _ _ us hl => match us, hl with | [_, _], _ => rfl) (fun ds d s => ?_) fun f cdv A outer s H E hr nd ds d sd => ?_
  -- slots: 0=_law_top 1=_law_base 2=_law_far 3=_law_rest
  · obtain ⟨t, l, _, _, rfl, _⟩ := s
    rfl
  obtain ⟨t, l, h0, hl, rfl, rfl⟩ := sd
  have hg0 : 0 < Nat.gcd t.natAbs l := Nat.gcd_pos_of_pos_right _ h0
  have hd : ∀ i, CDivW i ((Nat.gcd t.natAbs l : Nat) : Int) := fun _ => ⟨by omega, by
    rw [Int.natAbs_natCast]
    refine Nat.lt_of_le_of_lt ?_ hl
    have h1 : Nat.gcd t.natAbs l ≤ l := Nat.gcd_le_right _ h0
    exact (Nat.le_log2 (by omega)).mpr (Nat.le_trans (Nat.log2_self_le (by omega)) h1)⟩
  have hp : decide ((0 : Int) < (l : Int)) = true := decide_eq_true (by omega)
  refine r_pair 2 3 1 1 (P1 := fun z => z = nD t.natAbs) (P2 := fun z => z = nD l) (ED.eq (e_abs C.g (e_name 0 rfl)) (congrArg D.int (abs_nat t))) (ED.eq (e_abs C.g (e_name 1 rfl)) (congrArg D.int (by rw [abs_nat, Int.natAbs_natCast]))) (fun d1 d2 e1 e2 => ?_) nd
  subst e1 e2
  refine r_while (fun m ρ => ∃ a b : Nat, m = b ∧ Nat.gcd a b = Nat.gcd t.natAbs l ∧ ρ = [.da (.int t), .da (.int (l : Int)), .da (nD a), .da (nD b)]) l ⟨_, _, rfl, rfl, rfl⟩ ?_
  rintro m ρ' ⟨a, b, rfl, hg, rfl⟩
  refine ⟨fun z => z = decide ((0 : Int) < (m : Int)), t_cmpD op_gt (e_name 3 rfl) e_int od_gt, fun hb => ?_, fun hb => ?_⟩
  · have hm : 0 < m := by
      have := of_decide_eq_true hb.symm
      omega
    refine r_pair 2 3 1 1 (P1 := fun z => z = nD m) (P2 := fun z => z = nD (a % m)) (e_name 3 rfl) (ED.eq (e_mod (e_intOf C.g (e_name 2 rfl)) (e_name 3 rfl) (by omega)) (congrArg D.int (Int.natCast_emod a m).symm)) (fun d1 d2 e1 e2 => ?_) nd
    subst e1 e2
    refine r_nil ⟨a % m, Nat.mod_lt _ hm, m, a % m, rfl, ?_, rfl⟩
    rw [← hg, Nat.gcd_comm a m, Nat.gcd_rec m a, Nat.gcd_comm]
  · have hm : m = 0 := by
      have := of_decide_eq_false hb.symm
      omega
    subst hm
    rw [Nat.gcd_zero_right] at hg
    subst hg
    refine r_setD 2 (d := nD (Nat.gcd t.natAbs l)) (e_if (k := decide ((0 : Int) < (l : Int))) (t_cmpD op_gt (e_name 1 rfl) e_int od_gt) (fun _ => e_name 2 rfl) fun z => ?_) ?_ nd
    · rw [hp] at z
      cases z
    · refine r_retD (d := fr (mkRat t l)) ?_ rfl rfl
      rw [fr_mk t l h0]
      exact ED.lq (e_tup (ad_cons (e_fdivW (e_name 0 rfl) (e_name 2 rfl) (hd _)) (ad_one (e_fdivW (e_name 1 rfl) (e_name 2 rfl) (hd _))))) (.any (LqL.refl _))
theorem f_law_plus (C : Ct K mg) : Fc P w K mg base 2 "_law_plus" (spD K Splus) := by
  refine mk_D (k := 1) C 45 rfl ["_law_x", "_law_y"] ["_law_x", "_law_y"] ⟨rfl, rfl, rfl, by decide +kernel, rfl, by decide +kernel, by decide +kernel⟩ (fun _ _ _ _ _ _ us hl => match us, hl with | [_, _], _ => rfl) (fun ds d s => ?_) fun f cdv A outer s H E hr nd ds d sd => ?_
  -- slots: 0=_law_x 1=_law_y
  · obtain ⟨p, q, _, _, rfl, _⟩ := s
    rfl
  obtain ⟨p, q, hp, hq, rfl, rfl⟩ := sd
  refine r_retD (d := fr (p + q)) ?_ rfl rfl
  exact e_callD (f_law_frac C) hr (ad_cons (e_add (e_mulW (e_num (e_name 0 rfl)) (e_den (e_name 1 rfl)) (cnd hp hq)) (e_mulW (e_num (e_name 1 rfl)) (e_den (e_name 0 rfl)) (cnd hq hp))) (ad_one (e_mulW (e_den (e_name 0 rfl)) (e_den (e_name 1 rfl)) (cdd hp hq))))
    ⟨_, p.den * q.den, Nat.mul_pos p.den_pos q.den_pos, dlog hp hq, rfl, fr_add p q⟩
theorem f_law_times (C : Ct K mg) : Fc P w K mg base 2 "_law_times" (spD K Stimes) := by
  refine mk_D (k := 1) C 46 rfl ["_law_x", "_law_y"] ["_law_x", "_law_y"] ⟨rfl, rfl, rfl, by decide +kernel, rfl, by decide +kernel, by decide +kernel⟩ (fun _ _ _ _ _ _ us hl => match us, hl with | [_, _], _ => rfl) (fun ds d s => ?_) fun f cdv A outer s H E hr nd ds d sd => ?_
  -- slots: 0=_law_x 1=_law_y
  · obtain ⟨p, q, _, _, rfl, _⟩ := s
    rfl
  obtain ⟨p, q, hp, hq, rfl, rfl⟩ := sd
  refine r_retD (d := fr (p * q)) ?_ rfl rfl
  exact e_callD (f_law_frac C) hr (ad_cons (e_mulW (e_num (e_name 0 rfl)) (e_num (e_name 1 rfl)) (cnn hp hq)) (ad_one (e_mulW (e_den (e_name 0 rfl)) (e_den (e_name 1 rfl)) (cdd hp hq))))
    ⟨_, p.den * q.den, Nat.mul_pos p.den_pos q.den_pos, dlog hp hq, rfl, fr_mul p q⟩
theorem f_law_below (C : Ct K mg) : Fc P w K mg base 1 "_law_below" (spD K Sless) := by
  refine mk_D (k := 0) C 47 rfl ["_law_x", "_law_y"] ["_law_x", "_law_y"] ⟨rfl, rfl, rfl, by decide +kernel, rfl, by decide +kernel, by decide +kernel⟩ (fun _ _ _ _ _ _ us hl => match us, hl with | [_, _], _ => rfl) (fun ds d s => ?_) fun f cdv A outer s H E hr nd ds d sd => ?_
  -- slots: 0=_law_x 1=_law_y
  · obtain ⟨p, q, _, _, rfl, _⟩ := s
    rfl
  obtain ⟨p, q, hp, hq, rfl, rfl⟩ := sd
  refine r_retD (d := .bl (decide (p < q))) ?_ rfl rfl
  rw [less_dec]
  exact e_cmpD op_lt (e_mulW (e_num (e_name 0 rfl)) (e_den (e_name 1 rfl)) (cnd hp hq)) (e_mulW (e_num (e_name 1 rfl)) (e_den (e_name 0 rfl)) (cnd hq hp)) od_lt
theorem e_pq {X : Cx} {W : List Addr} {ρ : List Cell} {f : Nat} {k1 k2} {p1 p2 pos : Pos} {j} {i l : Int} (q : Rat) (h1 : q.num = i := by rfl) (h2 : (q.den : Int) = l := by rfl) : ED X W ρ f (.Tuple [.Constant (.int i) k1 p1, .Constant (.int l) k2 p2] j pos) (fr q) :=
  ED.lq (e_tup (ad_cons e_int (ad_one e_int))) (by
    unfold fr
    rw [h1, h2]
    exact .any (LqL.refl _))
theorem f_law_total (C : Ct K mg) : Fc P w K mg base 3 "_law_total" (spD K Stot) := by
  refine mk_D (k := 2) C 48 rfl ["_law_some", "_law_found", "_law_part"] ["_law_some"] ⟨rfl, rfl, rfl, by decide +kernel, rfl, by decide +kernel, by decide +kernel⟩ (fun _ _ _ _ _ _ us hl => match us, hl with | [_], _ => rfl) (fun ds d s => ?_) fun f cdv A outer s H E hr nd ds d sd => ?_
  -- slots: 0=_law_some 1=_law_found 2=_law_part
  · obtain ⟨l, N, M, qs, _, _, _, _, _, rfl, _⟩ := s
    rfl
  obtain ⟨l, N, M, qs, h0, hq, hN, hM, hM1, rfl, rfl⟩ := sd
  refine r_setD 1 (e_pq 0) ?_ nd
  refine r_for (t := .nm 2) (it_frs (e_name 0 rfl)) (fits_map fun _ => rfl) (pgN 2 nd) (fun i ρ => ∃ c : Cell, c.isOwn = false ∧ ρ = [.da (frs l qs), .da (fr (tot (qs.take i))), c]) ⟨.un, rfl, rfl⟩ ?_ ?_ rfl
  · rintro i d ρ' hi ⟨c, hc, rfl⟩
    obtain ⟨q, e, rfl⟩ := get_map hi
    have hm := List.mem_of_getElem? e
    have lt : i < qs.length := (List.getElem?_eq_some_iff.mp e).1
    refine ⟨fun j hj => ?_, ?_⟩
    · cases List.mem_singleton.mp hj
      exact ⟨c, rfl, hc⟩
    · refine r_setD 1 (e_callD (f_law_plus C) hr (ad_cons (e_name 1 rfl) (ad_one (e_name 2 rfl))) ⟨tot (qs.take i), q, (Dn.tot h0 hq i).bq hN (Nat.le_trans (Nat.mul_le_mul_right _ (Nat.le_of_lt lt)) hM), (hq q hm).bq hN hM1, rfl, rfl⟩) (r_nil ⟨.da (fr q), rfl, ?_⟩) nd
      rw [tot_take e]
      rfl
  · rintro ρ' ⟨c, hc, rfl⟩
    refine r_retD (e_name 1 rfl) rfl ?_
    rw [List.length_map, List.take_length]
theorem f_law_is_within (C : Ct K mg) : Fc P w K mg base 1 "_law_is_within" (spD K Spart) := by
  refine mk_D (k := 0) C 50 rfl ["_law_lot", "_law_other", "_law_each"] ["_law_lot", "_law_other"] ⟨rfl, rfl, rfl, by decide +kernel, rfl, by decide +kernel, by decide +kernel⟩ (fun _ _ _ _ _ _ us hl => match us, hl with | [_, _], _ => rfl) (fun ds d s => ?_) fun f cdv A outer s H E hr nd ds d sd => ?_
  -- slots: 0=_law_lot 1=_law_other 2=_law_each
  · obtain ⟨m, m', a, b, _, rfl, _⟩ := s
    rfl
  obtain ⟨m, m', a, b, hl, rfl, rfl⟩ := sd
  refine r_retD (e_allA C.g (b := fun i : Nat => b.contains i) rfl (e_lcA0 (t := .nm 2) (own := [("_law_each", 2)]) (g0 := nD) rfl nd (it_tupD (e_name 0 rfl)) (blkOk_by rfl) (fun _ _ _ _ _ => pgN 2 nd) (by decide) (fun _ _ => rfl) (fun x _ y _ => nD_inj x y) (fun i mi _ _ _ _ _ => ?_) (fun _ _ => rfl) hl)) rfl rfl
  exact e_inT (e_name 2 rfl) (e_name 1 rfl)
/-- numbers as a tuple, as a list -/
def nS (l : Bool) (c : List Nat) : D := if l then .lst (c.map nD) else nT .any c
theorem it_nS {X : Cx} {W : List Addr} {ρ : List Cell} {tg iter : Expr} {l : Bool} {c : List Nat} (h : ED X W ρ 1 iter (nS l c)) : ITD X W ρ 1 tg iter (c.map nD) := by
  cases l with
  | true => exact it_listD h
  | false => exact it_tupD (h.low (by decide))
def Slsec : List D → D → Prop := fun ds d => ∃ l os c, (∀ o ∈ os, o ≤ 4) ∧ (∀ i ∈ c, i < os.length) ∧ c.length ≤ 6 ∧ ds = [nT .any os, nS l c] ∧ d = .lst ((sects os c).map (nT .key))
theorem grow_take {k : Nat} {f : List (List Nat)} {i : Nat} {s : List Nat} (h : f[i]? = some s) : grow k (f.take (i + 1)) = grow k (f.take i) ++ (List.range k).map fun o => s ++ [o] := by
  rw [take_succ_get h]
  unfold grow
  rw [List.flatMap_append, List.flatMap_cons, List.flatMap_nil, List.append_nil]
def Cell.dull : Cell → Bool
  | .un => true
  | .da d => !isL d
  | _ => false
theorem dull_no {c : Cell} (h : c.dull = true) : c.isOwn = false ∧ ∀ a : Addr, (∀ d, c = .da d → isL d = false) ∧ (∀ b es, c = .pin b es → b ≠ a) := by
  cases c with
  | un => exact ⟨rfl, fun a => ⟨fun _ e => (by cases e), fun _ _ e => by cases e⟩⟩
  | da d => exact ⟨rfl, fun a => ⟨fun _ e => (by cases e; simpa [Cell.dull] using h), fun _ _ e => by cases e⟩⟩
  | _ => cases h
def cS (l : Bool) (b : Addr) (c : List Nat) : Cell := match l with
  | true => .pin b (c.map nD)
  | false => .da (nT .any c)
theorem e_cS {X : Cx} {W : List Addr} {ρ : List Cell} {l : Bool} {b : Addr} {c : List Nat} {x : Str} {pos : Pos} (i : Nat) (h : ρ[i]? = some (cS l b c)) (hN : X.N[i]? = some x := by rfl) (hv : Vis X.env.scope x := by first | exact Or.inl rfl | exact Or.inr (Or.inl rfl) | exact Or.inr (Or.inr rfl))
    (hd : (x == ("__debug__" : Str)) = false := by decide) (hcd : (x == ("__classdict__" : Str)) = false := by decide) : ED X W ρ 1 (.Name x pos) (nS l c) := by
  cases l with
  | true => exact e_pin i h hN hv hd hcd
  | false => exact e_name i h (.inr (.inl rfl)) hN hv hd hcd
theorem f_law_sections (C : Ct K mg) : Fc P w K mg base 1 "_law_sections" (spD K Slsec) := by
  refine mk_D (k := 0) C 52 rfl ["_law_outcomes", "_law_lot", "_law_found", "_law_at", "_law_longer", "_law_each", "_law_outcome"] ["_law_outcomes", "_law_lot"] ⟨rfl, rfl, rfl, by decide +kernel, rfl, by decide +kernel, by decide +kernel⟩ (fun _ _ _ _ _ _ us hl => match us, hl with | [_, _], _ => rfl) (fun ds d s => ?_) fun f cdv A outer s H E hr nd ds d sd => ?_
  -- slots: 0=_law_outcomes 1=_law_lot 2=_law_found 3=_law_at 4=_law_longer 5=_law_each 6=_law_outcome
  · obtain ⟨l, os, c, _, _, _, rfl, _⟩ := s
    rfl
  obtain ⟨l, os, c, ho, hc, hl, rfl, rfl⟩ := sd
  suffices hh : ∀ b, R (cx P w K mg base ["_law_outcomes", "_law_lot", "_law_found", "_law_at", "_law_longer", "_law_each", "_law_outcome"] "_law_sections" 72 f cdv A outer s H E) [] [.da (nT .any os), cS l b c, .un, .un, .un, .un, .un] (defBody (top 72)) (fun _ => D.lst ((sects os c).map (nT .key)) = .non) fun z => z = .lst ((sects os c).map (nT .key)) by
    cases l with
    | true => exact r_pinD 1 rfl fun a => hh a
    | false => exact hh 0
  intro b
  refine r_own 2 (ds := [nT .key []]) (e_lst (ad_one (e_tup a_nil))) ?_ nd
  refine r_for (t := .nm 3) (it_nS (e_cS 1 rfl)) (fits_map fun _ => rfl) (pgN 3 nd) (fun k ρ => ∃ c3 c4 c5 : Cell, c3.dull = true ∧ c4.dull = true ∧ c5.dull = true ∧ ρ = [.da (nT .any os), cS l b c, .own ((sects os (c.take k)).map (nT .key)), c3, c4, c5, .un]) ⟨.un, .un, .un, rfl, rfl, rfl, rfl⟩ ?_ ?_ rfl
  · rintro k d ρ' hi ⟨c3, c4, c5, h3, h4, h5, rfl⟩
    obtain ⟨i, e, rfl⟩ := get_map hi
    have hm := List.mem_of_getElem? e
    have lt := (List.getElem?_eq_some_iff.mp e).1
    have hlen := sects_len ho (c.take k)
    have l5 : (c.take k).length ≤ 5 := by
      rw [List.length_take]
      omega
    have hbig : (sects os (c.take k)).length ≤ 1024 := Nat.le_trans hlen (Nat.pow_le_pow_right (by decide) l5)
    have ok : os.getD i 0 ≤ 4 := ho _ (List.mem_of_getElem? (getD_some (hc i hm)))
    refine ⟨fun j hj => ?_, ?_⟩
    · cases List.mem_singleton.mp hj
      exact ⟨c3, rfl, (dull_no h3).1⟩
    refine r_own 4 (ds := []) (e_lst a_nil) ?_ nd
    refine r_forOwn (t := .nm 5) 2 rfl (fits_map fun _ => rfl) (pgN 5 nd) (fun a n ρ => ∃ c5 : Cell, c5.dull = true ∧ (l = true → b ≠ a) ∧ ρ = [.da (nT .any os), cS l b c, .pin a ((sects os (c.take k)).map (nT .key)), .da (nD i), .own ((grow (os.getD i 0) ((sects os (c.take k)).take n)).map (nT .key)), c5, .un]) ?_ ?_ ?_ rfl
    · intro a na
      refine ⟨c5, h5, fun e => na 1 b (c.map nD) ?_, rfl⟩
      subst e
      rfl
    · rintro a n d ρ' hn ⟨c5, h5, nb, rfl⟩
      obtain ⟨s', es, rfl⟩ := get_map hn
      have ms := List.mem_of_getElem? es
      refine ⟨fun j hj => ?_, ?_⟩
      · cases List.mem_singleton.mp hj
        exact ⟨c5, rfl, (dull_no h5).1⟩
      refine r_own 4 (ds := (grow (os.getD i 0) ((sects os (c.take k)).take n)).map (nT .key) ++ (List.range (os.getD i 0)).map fun o => nT .key (s' ++ [o])) (e_catL (e_own 4 rfl) (e_lcA0 (t := .nm 6) (own := [("_law_outcome", 6)]) (g0 := nD) (gg := fun o => nT .key (s' ++ [o])) rfl nd (it_rangeD C.g (n := os.getD i 0) (e_at (g := nD) (e_name 0 rfl) (e_name 3 rfl) (getD_some (hc i hm))) (by omega)) (blkOk_by rfl) (fun _ _ _ _ _ => pgN 6 nd) (by decide) (fun _ _ => rfl) (fun x _ y _ => nD_inj x y) (fun o mo _ _ _ _ _ => ?_) (fun _ _ => rfl) (by rw [List.length_range]; omega)) ?_) (r_nil ⟨.da (nT .key s'), rfl, nb, ?_⟩) nd
      · have hx : (nT .key (s' ++ [o])) = .tup .key (s'.map nD ++ [nD o]) := by
          unfold nT
          rw [List.map_append]
          rfl
        rw [hx]
        refine e_catT (e_name 5 rfl) (e_tup (ad_one (e_name 6 rfl))) (fun z => by cases z) ?_
        have := sect_mem_len (c := c.take k) s' ms
        rw [List.length_map, this]
        show (c.take k).length + 1 ≤ 100000
        omega
      · rw [List.length_map, List.length_map, grow_len, List.length_range, List.length_take]
        have : min n (sects os (c.take k)).length * os.getD i 0 ≤ 1024 * 4 := Nat.mul_le_mul (by omega) ok
        omega
      · rw [grow_take es, List.map_append, List.map_map]
        rfl
    · rintro a ρ' ⟨c5, h5, nb, rfl⟩
      refine ⟨rfl, fun j c' e' hj => ?_, ?_⟩
      · match j, e', hj with
        | 0, e', _ =>
          cases e'
          exact ⟨fun d q => (by cases q; rfl), fun _ _ q => by cases q⟩
        | 1, e', _ =>
          cases l with
          | true =>
            cases e'
            exact ⟨fun d q => (by cases q), fun _ _ q => by cases q; exact nb rfl⟩
          | false =>
            cases e'
            exact ⟨fun d q => (by cases q; rfl), fun _ _ q => by cases q⟩
        | 2, _, hj => exact absurd rfl hj
        | 3, e', _ =>
          cases e'
          exact ⟨fun d q => (by cases q; rfl), fun _ _ q => by cases q⟩
        | 4, e', _ =>
          cases e'
          exact ⟨fun d q => (by cases q), fun _ _ q => by cases q⟩
        | 5, e', _ =>
          cases e'
          exact (dull_no h5).2 a
        | 6, e', _ =>
          cases e'
          exact ⟨fun d q => (by cases q), fun _ _ q => by cases q⟩
        | j + 7, e', _ => cases e'
      · refine r_move 2 4 rfl (r_nil ⟨.da (nD i), .un, c5, rfl, rfl, h5, ?_⟩) nd
        rw [List.length_map, List.take_length, sects_take e]
        rfl
  · rintro ρ' ⟨c3, c4, c5, _, _, _, rfl⟩
    refine r_retOwn 2 rfl ?_
    rw [List.length_map, List.take_length]
end
end K19
end

section
set_option Elab.async false
set_option linter.all false
set_option maxRecDepth 100000
set_option maxHeartbeats 4000000
namespace K19
open PySem PySem.Spec PyProof.Rows L2
section
variable {P : Program} {w : World} {K : PySem.W.Frag} {mg : Str → Option Value} {base : Heap}
theorem f_law_globals (C : Ct K mg) : Fc P w K mg base 2 "_law_globals" (spD K Sglob) := by
  refine mk_D (k := 1) C 53 rfl ["_law_scenario_here"] ["_law_scenario_here"] ⟨rfl, rfl, rfl, by decide +kernel, rfl, by decide +kernel, by decide +kernel⟩ (fun _ _ _ _ _ _ us hl => match us, hl with | [_], _ => rfl) (fun ds d s => ?_) fun f cdv A outer s H E hr nd ds d sd => ?_
  -- slots: 0=_law_scenario_here
  · obtain ⟨os, cs, _, _, rfl, _⟩ := s
    rfl
  obtain ⟨os, cs, ho, hl, rfl, rfl⟩ := sd
  refine r_ret (e_callD (f_law_sections C) hr (ad_cons (e_os (e_name 0 rfl)) (ad_one (e_listRg C.g (n := os.length) rfl (ED.eq (e_len C.g (e_os (e_name 0 rfl)) rfl) (by rw [List.length_map])) (by omega)))) ⟨true, os, List.range os.length, ho, fun i m => List.mem_range.mp m, by rw [List.length_range]; exact hl, rfl, rfl⟩)
/-- the place of a section among its lot's -/
def placeN (os c s : List Nat) : Nat := (c.zip s).foldl (fun a z => a * os.getD z.1 0 + z.2) 0
def Splace : List D → D → Prop := fun ds d => ∃ m os c s, (∀ o ∈ os, o ≤ 4) ∧ (∀ i ∈ c, i < os.length) ∧ ds = [nT .any os, nT m c, .lst (s.map nD)] ∧ d = nD (placeN os c s)
theorem place_take {os : List Nat} {zs : List (Nat × Nat)} {i : Nat} {z : Nat × Nat} (h : zs[i]? = some z) : (zs.take (i + 1)).foldl (fun a z => a * os.getD z.1 0 + z.2) 0 = (zs.take i).foldl (fun a z => a * os.getD z.1 0 + z.2) 0 * os.getD z.1 0 + z.2 := by
  rw [take_succ_get h, List.foldl_append]
  rfl
theorem f_law_place (C : Ct K mg) : Fc P w K mg base 1 "_law_place" (spD K Splace) := by
  refine mk_D (k := 0) C 54 rfl ["_law_outcomes", "_law_lot", "_law_section", "_law_found", "_law_at", "_law_outcome"] ["_law_outcomes", "_law_lot", "_law_section"] ⟨rfl, rfl, rfl, by decide +kernel, rfl, by decide +kernel, by decide +kernel⟩ (fun _ _ _ _ _ _ us hl => match us, hl with | [_, _, _], _ => rfl) (fun ds d s => ?_) fun f cdv A outer s H E hr nd ds d sd => ?_
  -- slots: 0=_law_outcomes 1=_law_lot 2=_law_section 3=_law_found 4=_law_at 5=_law_outcome
  · obtain ⟨m, os, c, s, _, _, rfl, _⟩ := s
    rfl
  obtain ⟨m, os, c, s, ho, hc, rfl, rfl⟩ := sd
  refine r_setD 3 (d := nD 0) e_int ?_ nd
  refine r_for (t := .pr 4 5) (ds := (c.zip s).map (prD nD nD)) ?_ (fun d md => ?_) (pgP 4 5 nd) (fun i ρ => ∃ c4 c5 : Cell, c4.dull = true ∧ c5.dull = true ∧ ρ = [.da (nT .any os), .da (nT m c), .da (.lst (s.map nD)), .da (nD (((c.zip s).take i).foldl (fun a z => a * os.getD z.1 0 + z.2) 0)), c4, c5]) ⟨.un, .un, rfl, rfl, rfl⟩ ?_ ?_ rfl
  · rw [← zipD_map]
    exact it_zip C.g (e_name 1 rfl) (e_name 2 rfl) rfl rfl
  · obtain ⟨z, _, rfl⟩ := List.mem_map.mp md
    rfl
  · rintro i d ρ' hi ⟨c4, c5, h4, h5, rfl⟩
    obtain ⟨z, e, rfl⟩ := get_map hi
    have hm := List.mem_of_getElem? e
    have hz := hc _ (List.of_mem_zip hm).1
    have ok : os.getD z.1 0 ≤ 4 := ho _ (List.mem_of_getElem? (getD_some hz))
    refine ⟨fun j hj => ?_, ?_⟩
    · rcases List.mem_cons.mp hj with e | hj
      · subst e
        exact ⟨c4, rfl, (dull_no h4).1⟩
      · cases List.mem_singleton.mp hj
        exact ⟨c5, rfl, (dull_no h5).1⟩
    · refine r_setD 3 (d := nD (((c.zip s).take (i + 1)).foldl (fun a z => a * os.getD z.1 0 + z.2) 0)) (ED.eq (e_add (e_mul (e_name 3 rfl) (e_at (g := nD) (e_name 0 rfl) (e_name 4 rfl) (getD_some hz)) (.inr ?_)) (e_name 5 rfl)) ?_) (r_nil ⟨.da (nD z.1), .da (nD z.2), rfl, rfl, rfl⟩) nd
      · constructor
        · omega
        · omega
      · rw [place_take e]
        unfold nD
        rw [Int.natCast_add, Int.natCast_mul]
  · rintro ρ' ⟨c4, c5, h4, h5, rfl⟩
    refine r_retD (e_name 3 rfl) rfl ?_
    rw [List.length_map, List.take_length]
    rfl
/-- what a whole assignment says of a lot -/
def pick (wh c : List Nat) : List Nat := c.map fun i => wh.getD i 0
def addAt (r : List Rat) (i : Nat) (x : Rat) : List Rat := r.set i (r.getD i 0 + x)
def zeros (n : Nat) : List Rat := (List.range n).map fun _ => 0
def rowOf (os c : List Nat) (pairs : List (List Nat × Rat)) : List Rat := pairs.foldl (fun r z => addAt r (placeN os c (pick z.1 c)) z.2) ((sects os c).map fun _ => 0)
def famOf (os : List Nat) (cs : List (List Nat)) (pairs : List (List Nat × Rat)) : List (List Rat) := cs.map fun c => rowOf os c pairs
/-- a pair of data, less known -/
def prA {α β : Type} (f : α → D) (g : β → D) (z : α × β) : D := .tup .any [f z.1, g z.2]
theorem prA_inj {α β : Type} {f : α → D} {g : β → D} (h1 : ∀ x y, f x = f y → x = y) (h2 : ∀ x y, g x = g y → x = y) (x y : α × β) (h : prA f g x = prA f g y) : x = y := by
  injection h with _ h
  injection h with e1 e2
  injection e2 with e2 _
  exact Prod.ext (h1 _ _ e1) (h2 _ _ e2)
theorem addAt_len (r : List Rat) (i : Nat) (x : Rat) : (addAt r i x).length = r.length := List.length_set ..
theorem addAt_mem {r : List Rat} {i : Nat} {x q : Rat} (h : q ∈ addAt r i x) : q ∈ r ∨ (q = r.getD i 0 + x ∧ i < r.length) := by
  unfold addAt at h
  by_cases lt : i < r.length
  · rcases List.mem_or_eq_of_mem_set h with h | h
    · exact .inl h
    · exact .inr ⟨h, lt⟩
  · rw [List.set_eq_of_length_le (by omega)] at h
    exact .inl h
theorem row_fold_len (os c : List Nat) : ∀ (pairs : List (List Nat × Rat)) (r : List Rat), (pairs.foldl (fun r z => addAt r (placeN os c (pick z.1 c)) z.2) r).length = r.length
  | [], _ => rfl
  | z :: pairs, r => by
    rw [List.foldl_cons, row_fold_len os c pairs, addAt_len]
theorem row_fold_dn (os c : List Nat) {N M : Nat} (h0 : 0 < N) : ∀ (pairs : List (List Nat × Rat)) (r : List Rat) (B : Nat), (∀ z ∈ pairs, Dn N M z.2) → (∀ q ∈ r, Dn N B q) → ∀ q ∈ pairs.foldl (fun r z => addAt r (placeN os c (pick z.1 c)) z.2) r, Dn N (B + pairs.length * M) q
  | [], r, B, _, hr, q, m => (hr q m).mono (by omega)
  | z :: pairs, r, B, hp, hr, q, m => by
    rw [List.foldl_cons] at m
    have h := row_fold_dn os c h0 pairs _ (B + M) (fun y my => hp y (List.mem_cons_of_mem _ my)) (fun q mq => ?_) q m
    · refine h.mono ?_
      rw [List.length_cons, Nat.succ_mul]
      omega
    · rcases addAt_mem mq with mq | ⟨rfl, lt⟩
      · exact (hr q mq).mono (by omega)
      · refine Dn.add (hr _ ?_) (hp z (List.mem_cons_self ..))
        rw [List.getD_eq_getElem?_getD, List.getElem?_eq_getElem lt]
        exact List.getElem_mem ..
theorem rowOf_len (os c : List Nat) (pairs : List (List Nat × Rat)) : (rowOf os c pairs).length = (sects os c).length := by
  unfold rowOf
  rw [row_fold_len, List.length_map]
theorem rowOf_dn {os c : List Nat} {pairs : List (List Nat × Rat)} {N M : Nat} (h0 : 0 < N) (hp : ∀ z ∈ pairs, Dn N M z.2) : ∀ q ∈ rowOf os c pairs, Dn N (pairs.length * M) q := fun q m => by
  have h := row_fold_dn os c h0 pairs _ 0 hp (fun q mq => by
    obtain ⟨_, _, rfl⟩ := List.mem_map.mp mq
    exact Dn.zero h0) q m
  exact h.mono (by omega)
def Sfam : List D → D → Prop := fun ds d => ∃ N M os cs pairs, 0 < N ∧ N ≤ 2 ^ 240 ∧ M ≤ 2 ^ 240 ∧ pairs.length * M ≤ 2 ^ 240 ∧ ScV os cs ∧ (∀ z ∈ pairs, Dn N M z.2 ∧ z.1.length = os.length) ∧ (∀ c ∈ cs, ∀ z ∈ pairs, placeN os c (pick z.1 c) < (sects os c).length) ∧
  ds = [scD os cs, .lst (pairs.map (prA (nT .any) fr))] ∧ d = rows (famOf os cs pairs)
theorem row_take {os c : List Nat} {pairs : List (List Nat × Rat)} {i : Nat} {z : List Nat × Rat} (h : pairs[i]? = some z) : rowOf os c (pairs.take (i + 1)) = addAt (rowOf os c (pairs.take i)) (placeN os c (pick z.1 c)) z.2 := by
  unfold rowOf
  rw [take_succ_get h, List.foldl_append]
  rfl
theorem row_none (os c : List Nat) (pairs : List (List Nat × Rat)) : (rowOf os c (pairs.take 0)).map fr = (sects os c).map fun _ => fr 0 := by
  unfold rowOf
  rw [List.take_zero, List.foldl_nil, List.map_map]
  rfl
theorem e_pick {X : Cx} {W : List Addr} {ρ : List Cell} {wh c : List Nat} {m : Mk} : True := trivial
theorem f_law_family (C : Ct K mg) : Fc P w K mg base 3 "_law_family" (spD K Sfam) := by
  refine mk_D (k := 2) C 55 rfl ["_law_scenario_here", "_law_pairs", "_law_rows", "_law_context", "_law_row", "_law_section", "_law_whole", "_law_share", "_law_at", "_law_each"] ["_law_scenario_here", "_law_pairs"] ⟨rfl, rfl, rfl, by decide +kernel, rfl, by decide +kernel, by decide +kernel⟩ (fun _ _ _ _ _ _ us hl => match us, hl with | [_, _], _ => rfl) (fun ds d s => ?_) fun f cdv A outer s H E hr nd ds d sd => ?_
  -- slots: 0=_law_scenario_here 1=_law_pairs 2=_law_rows 3=_law_context 4=_law_row 5=_law_section 6=_law_whole 7=_law_share 8=_law_at 9=_law_each
  · obtain ⟨N, M, os, cs, pairs, _, _, _, _, _, _, _, rfl, _⟩ := s
    rfl
  obtain ⟨N, M, os, cs, pairs, h0, hN, hM, hPM, V, hp, hpl, rfl, rfl⟩ := sd
  have ho : ∀ o ∈ os, o ≤ 4 := fun o m => (V.o2 o m).2
  refine r_own 2 (ds := []) (e_lst a_nil) ?_ nd
  refine r_for (t := .nm 3) (it_tupD (e_cs (e_name 0 rfl))) (fits_map fun _ => rfl) (pgN 3 nd) (fun k ρ => ∃ c3 c4 c6 c7 c8 : Cell, c3.dull = true ∧ c6.dull = true ∧ c7.dull = true ∧ c8.dull = true ∧ ρ = [.da (scD os cs), .da (.lst (pairs.map (prA (nT .any) fr))), .own (((cs.take k).map fun c => rowOf os c pairs).map row), c3, c4, .un, c6, c7, c8, .un]) ⟨.un, .un, .un, .un, .un, rfl, rfl, rfl, rfl, rfl⟩ ?_ ?_ rfl
  · rintro k d ρ' hi ⟨c3, c4, c6, c7, c8, h3, h6, h7, h8, rfl⟩
    obtain ⟨c, e, rfl⟩ := get_map hi
    have hm := List.mem_of_getElem? e
    have hL := V.lot c hm
    have hS := V.sl hm
    have hc3 := V.c3 c hm
    have kl : k < cs.length := (List.getElem?_eq_some_iff.mp e).1
    refine ⟨fun j hj => ?_, ?_⟩
    · cases List.mem_singleton.mp hj
      exact ⟨c3, rfl, (dull_no h3).1⟩
    refine r_setLcA (t := .nm 5) (own := [("_law_section", 5)]) (xs := sects os c) (g0 := nT .key) (gg := fun _ => fr 0) 4 2 (it_listD (e_callD (f_law_sections C) hr (ad_cons (e_os (e_name 0 rfl)) (ad_one (ED.lq (e_name (d := nT .lot c) 3 rfl) (.any (LqL.refl _))))) ⟨false, os, c, ho, hL.1.2, by omega, rfl, rfl⟩)) (blkOk_by rfl) (fun _ _ _ _ _ => pgN 5 nd) (by decide) (fun _ _ => rfl) (fun x _ y _ => nT_inj x y) (fun _ _ _ _ _ _ _ => e_pq 0) (fun _ _ => rfl) (by omega) ?_ nd
    refine r_for (t := .pr 6 7) (it_listD (e_name 1 rfl)) (fun d md => ?_) (pgP 6 7 nd) (fun n ρ => ∃ c6 c7 c8 : Cell, c6.dull = true ∧ c7.dull = true ∧ c8.dull = true ∧ ρ = [.da (scD os cs), .da (.lst (pairs.map (prA (nT .any) fr))), .own (((cs.take k).map fun c => rowOf os c pairs).map row), .da (nT .lot c), .own ((rowOf os c (pairs.take n)).map fr), .un, c6, c7, c8, .un]) ⟨c6, c7, c8, h6, h7, h8, ?_⟩ ?_ ?_ rfl
    · obtain ⟨z, _, rfl⟩ := List.mem_map.mp md
      rfl
    · rw [row_none]
      rfl
    · rintro n d ρ' hn ⟨c6, c7, c8, h6, h7, h8, rfl⟩
      obtain ⟨z, ez, rfl⟩ := get_map hn
      have mz := List.mem_of_getElem? ez
      have nl : n < pairs.length := (List.getElem?_eq_some_iff.mp ez).1
      have zp := hp z mz
      have pl := hpl c hm z mz
      have rl : (rowOf os c (pairs.take n)).length = (sects os c).length := rowOf_len ..
      have gv : (rowOf os c (pairs.take n))[placeN os c (pick z.1 c)]? = some ((rowOf os c (pairs.take n)).getD (placeN os c (pick z.1 c)) 0) := by
        rw [List.getD_eq_getElem?_getD, List.getElem?_eq_getElem (by omega)]
        rfl
      have dnr : Dn N (pairs.length * M) ((rowOf os c (pairs.take n)).getD (placeN os c (pick z.1 c)) 0) := by
        refine (rowOf_dn h0 (fun y my => (hp y (List.mem_of_mem_take my)).1) _ (List.mem_of_getElem? gv)).mono (Nat.mul_le_mul_right _ ?_)
        rw [List.length_take]
        omega
      refine ⟨fun j hj => ?_, ?_⟩
      · rcases List.mem_cons.mp hj with e | hj
        · subst e
          exact ⟨c6, rfl, (dull_no h6).1⟩
        · cases List.mem_singleton.mp hj
          exact ⟨c7, rfl, (dull_no h7).1⟩
      refine r_setD 8 (d := nD (placeN os c (pick z.1 c))) (e_callD (f_law_place C) hr (ad_cons (e_os (e_name 0 rfl)) (ad_cons (e_name (d := nT .lot c) 3 rfl) (ad_one (e_lcA0 (t := .nm 9) (own := [("_law_each", 9)]) (xs := c) (g0 := nD) (gg := fun i => nD (z.1.getD i 0)) rfl nd (it_tupD (e_name 3 rfl)) (blkOk_by rfl) (fun _ _ _ _ _ => pgN 9 nd) (by decide) (fun _ _ => rfl) (fun x _ y _ => nD_inj x y) (fun i mi _ _ _ _ _ => ?_) (fun _ _ => rfl) (by omega))))) ⟨.lot, os, c, pick z.1 c, ho, hL.1.2, ?_, rfl⟩) ?_ nd
      · have := hL.1.2 i mi
        exact e_at (g := nD) (m := .any) (e_name 6 rfl) (e_name 9 rfl) (getD_some (by rw [zp.2]; exact this))
      · unfold pick
        rw [List.map_map]
        rfl
      · refine r_setItem 4 (ds := (rowOf os c (pairs.take n)).map fr) (P := fun d => d = fr ((rowOf os c (pairs.take n)).getD (placeN os c (pick z.1 c)) 0 + z.2)) (P1 := fun d => d = nD (placeN os c (pick z.1 c))) rfl (e_callD (f_law_plus C) hr (ad_cons (e_ixL (d := fr ((rowOf os c (pairs.take n)).getD (placeN os c (pick z.1 c)) 0)) (e_own 4 rfl) (e_name 8 rfl) (atI_at (by rw [List.getElem?_map, gv]; rfl))) (ad_one (e_name 7 rfl))) ⟨_, _, dnr.bq hN hPM, zp.1.bq hN hM, rfl, rfl⟩) (e_name 8 rfl) (fun d d' e1 e2 => ?_)
        subst e1 e2
        refine ⟨rfl, placeN os c (pick z.1 c), rfl, by rw [List.length_map]; omega, r_nil ⟨.da (nT .any z.1), .da (fr z.2), .da (nD (placeN os c (pick z.1 c))), rfl, rfl, rfl, ?_⟩⟩
        rw [row_take ez]
        unfold addAt
        rw [List.map_set]
        rfl
    · rintro ρ' ⟨c6, c7, c8, h6, h7, h8, rfl⟩
      rw [List.length_map, List.take_length]
      refine r_app 2 (ds := ((cs.take k).map fun c => rowOf os c pairs).map row) (P := fun d => d = row (rowOf os c pairs)) rfl (ED.lq (e_tuple C.g (e_own 4 rfl)) (.any (LqL.refl _))) ?_ (fun d e1 => ?_)
      · have := V.c8
        rw [List.length_map, List.length_map, List.length_take]
        omega
      · subst e1
        refine ⟨rfl, r_nil ⟨.da (nT .lot c), .own ((rowOf os c pairs).map fr), c6, c7, c8, rfl, h6, h7, h8, ?_⟩⟩
        rw [take_succ_get e, List.map_append, List.map_append]
        rfl
  · rintro ρ' ⟨c3, c4, c6, c7, c8, h3, h6, h7, h8, rfl⟩
    rw [List.length_map, List.take_length]
    refine r_retD (d := rows (famOf os cs pairs)) (ED.lq (e_tuple C.g (e_own 2 rfl)) (.any (LqL.refl _))) rfl rfl
theorem f_law_paid (C : Ct K mg) : Fc P w K mg base 1 "_law_paid" (spD K Swon) := by
  refine mk_D (k := 0) C 58 rfl ["_law_game_here", "_law_share", "_law_row", "_law_bit"] ["_law_game_here"] ⟨rfl, rfl, rfl, by decide +kernel, rfl, by decide +kernel, by decide +kernel⟩ (fun _ _ _ _ _ _ us hl => match us, hl with | [_], _ => rfl) (fun ds d s => ?_) fun f cdv A outer s H E hr nd ds d sd => ?_
  -- slots: 0=_law_game_here 1=_law_share 2=_law_row 3=_law_bit
  · obtain ⟨qs, ws, _, _, rfl, _⟩ := s
    rfl
  obtain ⟨qs, ws, hl, hw, rfl, rfl⟩ := sd
  refine r_retD (d := rows (paidQ qs ws)) ?_ rfl rfl
  refine ED.lq (e_tuple C.g (e_lcA0 (t := .pr 1 2) (own := [("_law_share", 1), ("_law_row", 2)]) (xs := qs.zip ws) (g0 := prD fr (nT .any)) (gg := fun z => row (paidRow z.1 z.2)) rfl nd ?_ (blkOk_by rfl) (fun _ _ _ _ _ => pgP 1 2 nd) (by decide) (fun _ _ => rfl) (fun x _ y _ => pr_inj (fun _ _ => fr_inj) nT_inj x y) (fun z mz _ _ _ _ _ => ?_) (fun _ _ => rfl) (zip_len hl))) ?_
  · rw [← zipD_map]
    exact it_zip C.g (e_sh (e_name 0 rfl)) (e_wn (e_name 0 rfl)) rfl rfl
  · refine ED.lq (e_tuple C.g (e_lcA0 (t := .nm 3) (own := [("_law_bit", 3)]) (xs := z.2) (g0 := nD) (gg := fun b => fr (if b = 1 then z.1 else 0)) rfl nd (it_tupD (e_name 2 rfl)) (blkOk_by rfl) (fun _ _ _ _ _ => pgN 3 nd) (by decide) (fun _ _ => rfl) (fun x _ y _ => nD_inj x y) (fun b mb _ _ _ _ _ => ?_) (fun _ _ => rfl) (hw _ (List.of_mem_zip mz).2))) ?_
    · refine e_if (k := ((b : Int) == 1)) (t_cmpD op_eq (e_name 3 rfl) e_int od_eqI) (fun h => ?_) fun h => ?_
      · have hb : b = 1 := by
          have := eq_of_beq h
          omega
        refine ED.eq (e_name 1 rfl) ?_
        rw [if_pos hb]
      · have hb : b ≠ 1 := fun e => by
          rw [e] at h
          cases h
        refine ED.eq (e_pq 0) ?_
        rw [if_neg hb]
    · unfold row paidRow
      rw [List.map_map]
      exact .any (LqL.refl _)
  · unfold rows paidQ
    rw [List.map_map]
    exact .any (LqL.refl _)
end
end K19
end

section
set_option Elab.async false
set_option linter.all false
set_option maxRecDepth 100000
set_option maxHeartbeats 4000000
namespace K19
open PySem PySem.Spec PyProof.Rows L2
section
variable {P : Program} {w : World} {K : PySem.W.Frag} {mg : Str → Option Value} {base : Heap}
def wAt (os wh : List Nat) (z : List Nat × List Rat) : Rat := z.2.getD (placeN os z.1 (pick wh z.1)) 0
def worthQ (os : List Nat) (cs : List (List Nat)) (ws : List (List Rat)) (wh : List Nat) : Rat := tot ((cs.zip ws).map (wAt os wh))
/-- weights that may be read at a whole assignment -/
structure WsV (os : List Nat) (cs : List (List Nat)) (ws : List (List Rat)) (wh : List Nat) (N M : Nat) : Prop where
  n0 : 0 < N
  n1 : N ≤ 2 ^ 240
  m1 : M ≤ 2 ^ 240
  cm : cs.length * M ≤ 2 ^ 240
  sc : ScV os cs
  wl : wh.length = os.length
  at_ : ∀ z ∈ cs.zip ws, placeN os z.1 (pick wh z.1) < z.2.length
  dn : ∀ r ∈ ws, ∀ q ∈ r, Dn N M q
theorem WsV.get {os : List Nat} {cs : List (List Nat)} {ws : List (List Rat)} {wh : List Nat} {N M : Nat} (V : WsV os cs ws wh N M) {z : List Nat × List Rat} (m : z ∈ cs.zip ws) : z.2[placeN os z.1 (pick wh z.1)]? = some (wAt os wh z) ∧ Dn N M (wAt os wh z) := by
  have lt := V.at_ z m
  have e : z.2[placeN os z.1 (pick wh z.1)]? = some (wAt os wh z) := by
    unfold wAt
    rw [List.getD_eq_getElem?_getD, List.getElem?_eq_getElem lt]
    rfl
  exact ⟨e, V.dn z.2 (List.of_mem_zip m).2 _ (List.mem_of_getElem? e)⟩
theorem WsV.dnAll {os : List Nat} {cs : List (List Nat)} {ws : List (List Rat)} {wh : List Nat} {N M : Nat} (V : WsV os cs ws wh N M) : ∀ q ∈ (cs.zip ws).map (wAt os wh), Dn N M q := fun q m => by
  obtain ⟨z, mz, rfl⟩ := List.mem_map.mp m
  exact (V.get mz).2
theorem WsV.part {os : List Nat} {cs : List (List Nat)} {ws : List (List Rat)} {wh : List Nat} {N M : Nat} (V : WsV os cs ws wh N M) (i : Nat) (h : i ≤ (cs.zip ws).length) : Bq (tot (((cs.zip ws).map (wAt os wh)).take i)) := by
  refine (Dn.tot V.n0 V.dnAll i).bq V.n1 (Nat.le_trans (Nat.mul_le_mul_right _ ?_) V.cm)
  exact Nat.le_trans h (zip_len (Nat.le_refl _))
theorem WsV.all {os : List Nat} {cs : List (List Nat)} {ws : List (List Rat)} {wh : List Nat} {N M : Nat} (V : WsV os cs ws wh N M) : Bq (worthQ os cs ws wh) := by
  have h := V.part _ (Nat.le_refl _)
  rw [List.take_of_length_le (by rw [List.length_map]; exact Nat.le_refl _)] at h
  exact h
def Sworth : List D → D → Prop := fun ds d => ∃ m N M os cs ws wh, WsV os cs ws wh N M ∧ ds = [scD os cs, rows ws, nT m wh] ∧ d = fr (worthQ os cs ws wh)
theorem f_law_worth (C : Ct K mg) : Fc P w K mg base 3 "_law_worth" (spD K Sworth) := by
  refine mk_D (k := 2) C 59 rfl ["_law_scenario_here", "_law_weights", "_law_whole", "_law_found", "_law_context", "_law_row", "_law_each"] ["_law_scenario_here", "_law_weights", "_law_whole"] ⟨rfl, rfl, rfl, by decide +kernel, rfl, by decide +kernel, by decide +kernel⟩ (fun _ _ _ _ _ _ us hl => match us, hl with | [_, _, _], _ => rfl) (fun ds d s => ?_) fun f cdv A outer s H E hr nd ds d sd => ?_
  -- slots: 0=_law_scenario_here 1=_law_weights 2=_law_whole 3=_law_found 4=_law_context 5=_law_row 6=_law_each
  · obtain ⟨m, N, M, os, cs, ws, wh, _, rfl, _⟩ := s
    rfl
  obtain ⟨m, N, M, os, cs, ws, wh, V, rfl, rfl⟩ := sd
  have ho : ∀ o ∈ os, o ≤ 4 := fun o m => (V.sc.o2 o m).2
  refine r_setD 3 (e_pq 0) ?_ nd
  refine r_for (t := .pr 4 5) (ds := (cs.zip ws).map (prD (nT .lot) row)) ?_ (fun d md => ?_) (pgP 4 5 nd) (fun i ρ => ∃ c4 c5 : Cell, c4.dull = true ∧ c5.dull = true ∧ ρ = [.da (scD os cs), .da (rows ws), .da (nT m wh), .da (fr (tot (((cs.zip ws).map (wAt os wh)).take i))), c4, c5, .un]) ⟨.un, .un, rfl, rfl, rfl⟩ ?_ ?_ rfl
  · rw [← zipD_map]
    exact it_zip C.g (e_cs (e_name 0 rfl)) (e_name 1 rfl) rfl rfl
  · obtain ⟨z, _, rfl⟩ := List.mem_map.mp md
    rfl
  · rintro i d ρ' hi ⟨c4, c5, h4, h5, rfl⟩
    obtain ⟨z, e, rfl⟩ := get_map hi
    have hm := List.mem_of_getElem? e
    have lt := (List.getElem?_eq_some_iff.mp e).1
    have mc := (List.of_mem_zip hm).1
    have hL := V.sc.lot _ mc
    have hc3 := V.sc.c3 _ mc
    obtain ⟨g1, g2⟩ := V.get hm
    refine ⟨fun j hj => ?_, ?_⟩
    · rcases List.mem_cons.mp hj with e | hj
      · subst e
        exact ⟨c4, rfl, (dull_no h4).1⟩
      · cases List.mem_singleton.mp hj
        exact ⟨c5, rfl, (dull_no h5).1⟩
    · refine r_setD 3 (d := fr (tot (((cs.zip ws).map (wAt os wh)).take i) + wAt os wh z)) (e_callD (f_law_plus C) hr (ad_cons (e_name 3 rfl) (ad_one (e_at (g := fr) (e_name 5 rfl) (e_callD (f_law_place C) hr (ad_cons (e_os (e_name 0 rfl)) (ad_cons (e_name (d := nT .lot z.1) 4 rfl) (ad_one (e_lcA0 (t := .nm 6) (own := [("_law_each", 6)]) (xs := z.1) (g0 := nD) (gg := fun i => nD (wh.getD i 0)) rfl nd (it_tupD (e_name 4 rfl)) (blkOk_by rfl) (fun _ _ _ _ _ => pgN 6 nd) (by decide) (fun _ _ => rfl) (fun x _ y _ => nD_inj x y) (fun i mi _ _ _ _ _ => ?_) (fun _ _ => rfl) (by omega))))) ⟨.lot, os, z.1, pick wh z.1, ho, hL.1.2, ?_, rfl⟩) g1))) ⟨_, _, V.part i (by omega), g2.bq V.n1 V.m1, rfl, rfl⟩) (r_nil ⟨.da (nT .lot z.1), .da (row z.2), rfl, rfl, ?_⟩) nd
      · have := hL.1.2 i mi
        exact e_at (g := nD) (m := m) (e_name 2 rfl) (e_name 6 rfl) (getD_some (by rw [V.wl]; exact this))
      · unfold pick
        rw [List.map_map]
        rfl
      · have e2 : ((cs.zip ws).map (wAt os wh))[i]? = some (wAt os wh z) := by rw [List.getElem?_map, e]; rfl
        rw [tot_take e2]
        rfl
  · rintro ρ' ⟨c4, c5, h4, h5, rfl⟩
    refine r_retD (d := fr (worthQ os cs ws wh)) (ED.eq (e_name 3 rfl) ?_) rfl rfl
    rw [List.take_of_length_le (by rw [List.length_map, List.length_map]; exact Nat.le_refl _)]
    rfl
/-- the first greatest -/
def bestStep (f : List Nat → Rat) (b : Option (Rat × List Nat)) (g : List Nat) : Option (Rat × List Nat) := match b with
  | none => some (f g, g)
  | some (q, h) => if q < f g then some (f g, g) else some (q, h)
def bestOf (f : List Nat → Rat) (gs : List (List Nat)) : Option (Rat × List Nat) := gs.foldl (bestStep f) none
theorem best_take {f : List Nat → Rat} {gs : List (List Nat)} {i : Nat} {g : List Nat} (h : gs[i]? = some g) : bestOf f (gs.take (i + 1)) = bestStep f (bestOf f (gs.take i)) g := by
  unfold bestOf
  rw [take_succ_get h, List.foldl_append]
  rfl
theorem best_val {f : List Nat → Rat} {gs : List (List Nat)} : ∀ i q h, bestOf f (gs.take i) = some (q, h) → h ∈ gs ∧ q = f h
  | 0, q, h, e => by
    rw [List.take_zero] at e
    cases e
  | i + 1, q, h, e => by
    cases eg : gs[i]? with
    | none =>
      have hl := List.getElem?_eq_none_iff.mp eg
      rw [List.take_of_length_le (by omega)] at e
      refine best_val i q h ?_
      rw [List.take_of_length_le hl]
      exact e
    | some g =>
      have mg := List.mem_of_getElem? eg
      rw [best_take eg] at e
      cases eb : bestOf f (gs.take i) with
      | none =>
        rw [eb] at e
        cases e
        exact ⟨mg, rfl⟩
      | some z =>
        obtain ⟨q0, h0⟩ := z
        rw [eb] at e
        unfold bestStep at e
        by_cases lt : q0 < f g
        · simp only [if_pos lt] at e
          cases e
          exact ⟨mg, rfl⟩
        · simp only [if_neg lt] at e
          cases e
          exact best_val i _ _ eb
def oB (b : Option (Rat × List Nat)) : D := match b with
  | none => .non
  | some z => fr z.1
def oW (b : Option (Rat × List Nat)) : D := match b with
  | none => .non
  | some z => nT .key z.2
def Sgreat : List D → D → Prop := fun ds d => ∃ N M os cs ws b, (∀ wh ∈ sects os (List.range os.length), WsV os cs ws wh N M) ∧ ScV os cs ∧ bestOf (worthQ os cs ws) (sects os (List.range os.length)) = some b ∧ ds = [scD os cs, rows ws] ∧ d = prA fr (nT .any) b
theorem oB_dull (b : Option (Rat × List Nat)) : isL (oB b) = false := by
  cases b <;> rfl
theorem oW_dull (b : Option (Rat × List Nat)) : isL (oW b) = false := by
  cases b <;> rfl
theorem f_law_greatest (C : Ct K mg) : Fc P w K mg base 4 "_law_greatest" (spD K Sgreat) := by
  refine mk_D (k := 3) C 60 rfl ["_law_scenario_here", "_law_weights", "_law_best", "_law_found", "_law_whole", "_law_worth_here"] ["_law_scenario_here", "_law_weights"] ⟨rfl, rfl, rfl, by decide +kernel, rfl, by decide +kernel, by decide +kernel⟩ (fun _ _ _ _ _ _ us hl => match us, hl with | [_, _], _ => rfl) (fun ds d s => ?_) fun f cdv A outer s H E hr nd ds d sd => ?_
  -- slots: 0=_law_scenario_here 1=_law_weights 2=_law_best 3=_law_found 4=_law_whole 5=_law_worth_here
  · obtain ⟨N, M, os, cs, ws, b, _, _, _, rfl, _⟩ := s
    rfl
  obtain ⟨N, M, os, cs, ws, b, V, S, hb, rfl, rfl⟩ := sd
  have ho : ∀ o ∈ os, o ≤ 4 := fun o m => (S.o2 o m).2
  have hn := S.n6
  refine r_unpack 2 3 (e_tup (ad_cons e_non (ad_one e_non))) (fun d e => ⟨.key, .non, .non, e, ?_⟩) nd
  refine r_for (t := .nm 4) (it_listD (e_callD (f_law_globals C) hr (ad_one (e_name 0 rfl)) ⟨os, cs, ho, by omega, rfl, rfl⟩)) (fits_map fun _ => rfl) (pgN 4 nd) (fun i ρ => ∃ c4 c5 : Cell, c4.dull = true ∧ c5.dull = true ∧ ρ = [.da (scD os cs), .da (rows ws), .da (oB (bestOf (worthQ os cs ws) ((sects os (List.range os.length)).take i))), .da (oW (bestOf (worthQ os cs ws) ((sects os (List.range os.length)).take i))), c4, c5]) ⟨.un, .un, rfl, rfl, rfl⟩ ?_ ?_ rfl
  · rintro i d ρ' hi ⟨c4, c5, h4, h5, rfl⟩
    obtain ⟨g, e, rfl⟩ := get_map hi
    have hm := List.mem_of_getElem? e
    refine ⟨fun j hj => ?_, ?_⟩
    · cases List.mem_singleton.mp hj
      exact ⟨c4, rfl, (dull_no h4).1⟩
    refine r_setD 5 (d := fr (worthQ os cs ws g)) (e_callD (f_law_worth C) hr (ad_cons (e_name 0 rfl) (ad_cons (e_name 1 rfl) (ad_one (e_name 4 rfl)))) ⟨.key, N, M, os, cs, ws, g, V g hm, rfl, rfl⟩) ?_ nd
    rw [best_take e]
    have take : ∀ ρ2, ρ2 = [.da (scD os cs), .da (rows ws), .da (oB (some (worthQ os cs ws g, g))), .da (oW (some (worthQ os cs ws g, g))), .da (nT .key g), .da (fr (worthQ os cs ws g))] → ∃ c4 c5 : Cell, c4.dull = true ∧ c5.dull = true ∧ ρ2 = [.da (scD os cs), .da (rows ws), .da (oB (some (worthQ os cs ws g, g))), .da (oW (some (worthQ os cs ws g, g))), c4, c5] := fun ρ2 e => ⟨_, _, rfl, rfl, e⟩
    cases eb : bestOf (worthQ os cs ws) ((sects os (List.range os.length)).take i) with
    | none =>
      refine r_ifT (t_of (tw_or (P := fun z => z = true) (t_cmpD op_isN (e_name (d := .non) 2 rfl) e_non od_isN) (fun z => by cases z) fun _ => rfl)) ?_
      refine r_pair 2 3 1 1 (P1 := fun z => z = fr (worthQ os cs ws g)) (P2 := fun z => z = nT .key g) (e_name 5 rfl) (e_name 4 rfl) (fun d1 d2 e1 e2 => ?_) nd
      subst e1 e2
      exact r_nil (r_nil (take _ rfl))
    | some z =>
      obtain ⟨q, h⟩ := z
      obtain ⟨mh, hq⟩ := best_val i q h eb
      have bq : Bq q := by
        rw [hq]
        exact (V h mh).all
      refine r_if (t_of (tw_or (P := fun z => z = false) (P' := fun z => z = decide (q < worthQ os cs ws g)) (t_cmpD op_isN (e_name (d := fr q) 2 rfl) e_non od_isN) (fun _ => tw_or1 (t_valD (e_callD (f_law_below C) hr (ad_cons (e_name (d := fr q) 2 rfl) (ad_one (e_name 5 rfl))) ⟨_, _, bq, (V g hm).all, rfl, rfl⟩))) fun z => by cases z)) (fun p => ?_) fun p => ?_
      · have lt := of_decide_eq_true p.symm
        refine r_pair 2 3 1 1 (P1 := fun z => z = fr (worthQ os cs ws g)) (P2 := fun z => z = nT .key g) (e_name 5 rfl) (e_name 4 rfl) (fun d1 d2 e1 e2 => ?_) nd
        subst e1 e2
        refine r_nil (r_nil ?_)
        unfold bestStep
        simp only [if_pos lt]
        exact take _ rfl
      · have lt := of_decide_eq_false p.symm
        refine r_nil (r_nil ?_)
        unfold bestStep
        simp only [if_neg lt]
        exact ⟨_, _, rfl, rfl, rfl⟩
  · rintro ρ' ⟨c4, c5, h4, h5, rfl⟩
    rw [List.length_map, List.take_length, hb]
    exact r_retD (ED.lq (e_tup (ad_cons (e_name (d := fr b.1) 2 rfl) (ad_one (e_name (d := nT .key b.2) 3 rfl)))) (.any (.cons (.refl _) (.cons (.any (LqL.refl _)) .nil)))) rfl rfl
end
end K19
end

section
set_option Elab.async false
set_option linter.all false
set_option maxRecDepth 100000
set_option maxHeartbeats 4000000
namespace K19
open PySem PySem.Spec PyProof.Rows L2
/-! ### the first place in a tuple of ints -/
def rTix (K : PySem.W.Frag) : V → List V → Hp → VK → Prop := fun x xs H Q => ∃ (p : Addr) (ns : List Int) (z : Int) (j : Nat), x = .ref p ∧ xs = [.int z] ∧ SqT K H p (ns.map V.int) ∧ ns[j]? = some z ∧ (∀ m, m < j → ns[m]? ≠ some z) ∧ Q (.int (j : Nat)) H
theorem tix_ok {X : Cx} : MtR X "tuple.index" (rTix X.K) := by
  intro pins s σ H x xs v us Q I rx rs h
  obtain ⟨p, ns, z, j, rfl, rfl, sq, at_j, before, fin⟩ := h
  cases rx
  obtain ⟨u, rfl, tk, rfl⟩ := vals1 rs
  obtain ⟨items, rel, ⟨⟨cl, di, da, so⟩, get, isT, cnt, isS⟩, _⟩ := I.tuple sq
  simp only at isT isS
  subst isT isS
  have size : items.toArray.size = ns.length := by
    rw [List.size_toArray, ← rel.length, List.length_map]
  have what : ∀ (m : Nat) (hm : m < items.toArray.size), ∃ n, ns[m]? = some n ∧ eqU (.int z) items.toArray[m] = (n == z) := fun m hm => by
    have lt : m < ns.length := by
      rw [← size]
      exact hm
    obtain ⟨it, get_it, tt, is_it⟩ := rel.get (i := m) (x := .int ns[m]) (by simp [lt])
    have same := (List.getElem?_eq_some_iff.mp get_it).2
    refine ⟨ns[m], List.getElem?_eq_getElem lt, ?_⟩
    have here : items.toArray[m] = it := by
      rw [← same]
      simp
    rw [here, is_it]
    rfl
  have in_j : j < items.toArray.size := by
    rw [size]
    exact (List.getElem?_eq_some_iff.mp at_j).1
  have hit : eqU (.int z) items.toArray[j] = true := by
    obtain ⟨n, e1, e2⟩ := what j in_j
    rw [at_j] at e1
    cases e1
    rw [e2]
    exact beq_self_eq_true z
  have miss : ∀ (m : Nat) (hm : m < items.toArray.size), m < j → eqU (.int z) items.toArray[m] = false := fun m hm lt => by
    obtain ⟨n, e1, e2⟩ := what m hm
    rw [e2]
    exact beq_eq_false_iff_ne.mpr fun e => before m lt (by rw [← e]; exact e1)
  exact call_meets PySem.F.slot_tuple_index ⟨_, get, rfl⟩ PySem.F.entry_tuple_index (PySem.F.args_tuple_index_2 _ _) (TI.tuple_indexAt p items.toArray cnt di so (.int z tk) (eqU (.int z)) j in_j hit miss)
    ⟨get, fun y my => mem_eqAt (x := .int z) ⟨tk, rfl⟩ rfl rel (flat_map_int ns) y (by simpa using my), ⟨.int (j : Nat), H, I.tok _, ⟨_, rfl⟩, fin⟩⟩
/-- o.name(e), o a tuple that has no dict -/
def tTM (r : V → List V → Hp → VK → Prop) (to : TE) (t : TA) : TE := fun σ H Q => to σ H fun x H1 => (∃ p o xs, x = .ref p ∧ H1 p = some (.frz o (.tup xs)) ∧ o.dict = none ∧ o.cls = .type "tuple") ∧ t σ H1 fun ys H2 => r x ys H2 Q
theorem pe_tm {X : Cx} {o e : Expr} {es : List Expr} {to : TE} {t : TA} {name : Str} {apos cpos : Pos} {id : String} {r : V → List V → Hp → VK → Prop} (slot : Slot "tuple" name id) (hty : typeOf (.builtin id) = pure (.type "method_descriptor")) (hm : MtR X id r) (ho : PE X o to) (ha : PA X (e :: es) t)
    (h1 : attributeBase o name X.env (eval o X.env) = eval o X.env) (h2 : ((backTo cpos (starEach (e :: es) X.env)).all (fun x => !x.1) && (backToKw cpos (keywordEach [] X.env)).all (fun x => x.1.isSome) && decide ((e :: es).length + ([] : List Keyword).length + (if ([] : List Keyword).isEmpty then 0 else 1) < 30)) = true)
    (h3 : (apos.endLine == cpos.line) = true) (h4 : starEach (e :: es) X.env = (false, eval e X.env) :: starEach es X.env) (h5 : (backTo cpos (starEach es X.env)).any (·.1) = false) : PE X (.Call (.Attribute o name apos) (e :: es) [] cpos) (tTM r to t) := ⟨fun pins s σ H Q I h => by
  refine wpAny_Call_method_late h1 h2 h3 rfl (thn (ho.run pins s σ H _ I h) fun v sa ⟨x, Ha, Ia, ra, ⟨p, ob, xs, ex, fz, nd, ct⟩, q⟩ => ?_)
  subst ex
  cases ra
  obtain ⟨here, _⟩ := (show ObjOk X.prog X.w Ha sa.heap p (.frz ob (.tup xs)) from Ia.hok p _ fz)
  have args := ha.run cpos pins sa σ Ha _ Ia q
  rw [h4] at args ⊢
  refine ⟨"tuple", id, PySem.F.plainAttrs_tuple, slot, hty, ⟨ob, here, ct⟩, fun a e => ⟨ob, by cases e; exact here, nd⟩, ?_⟩
  refine Calls.callWith_builtin ?_ (Calls.evalArgs_plain (thn args fun us sb ⟨vs, Hb, Ib, rb, q2⟩ => hm pins sb σ Hb (.ref p) vs (.ref p) us Q Ib rfl rb q2))
  show (false || (backTo cpos (starEach es X.env)).any (·.1)) = false
  rw [h5]
  rfl⟩
section
variable {X : Cx} {W : List Addr} {ρ : List Cell} {f : Nat} {e o : Expr} {pos apos : Pos} {c : List Nat} {i : Nat}
theorem e_idxT (ho : ED X W ρ 0 o (nT .lot c)) (ha : ED X W ρ 0 e (nD i)) (mi : i ∈ c) (h1 : attributeBase o "index" X.env (eval o X.env) = eval o X.env := by rfl) (h2 : ((backTo pos (starEach (e :: []) X.env)).all (fun x => !x.1) && (backToKw pos (keywordEach [] X.env)).all (fun x => x.1.isSome) && decide ((e :: ([] : List Expr)).length + ([] : List Keyword).length + (if ([] : List Keyword).isEmpty then 0 else 1) < 30)) = true := by rfl)
    (h3 : (apos.endLine == pos.line) = true := by rfl) (h4 : starEach (e :: []) X.env = (false, eval e X.env) :: starEach [] X.env := by rfl) (h5 : (backTo pos (starEach [] X.env)).any (·.1) = false := by rfl) : ED X W ρ f (.Call (.Attribute o "index" apos) [e] [] pos) (nD (c.idxOf i)) := fun O σ H s Q q => by
  refine ⟨_, pe_tm PySem.F.slot_tuple_index PySem.F.type_tuple_index tix_ok ev_pe (pa_cons ev_pe pa_nil h4) h1 h2 h3 h4 h5, ho O σ H s _ fun v H1 d p r => ?_⟩
  subst p
  obtain ⟨a, xs, rfl, ⟨ob, g1, g2, g3⟩, l⟩ := (r.da.mono (hid_le W H1)).tup_inv
  refine ⟨⟨a, ob, xs, rfl, g1, g2, g3⟩, ?_⟩
  have s1 := s.mono r.ex r.wk
  refine ha O σ H1 s1 _ fun u H2 d2 p2 r2 => ?_
  subst p2
  obtain ⟨a2, ys, q1, ⟨ob2, k1, k2, k3⟩, l2⟩ := ((r.da.mono r2.ex).mono (hid_le W H2)).tup_inv
  cases q1
  have e1 : ys = (asI c).map V.int := by
    have : c.map nD = (asI c).map .int := by
      unfold asI
      rw [List.map_map]
      rfl
    rw [this] at l2
    exact l2.ints
  have lt : c.idxOf i < c.length := List.idxOf_lt_length_of_mem mi
  refine ⟨a, asI c, (i : Int), c.idxOf i, rfl, by rw [r2.da.int_inv], by rw [← e1]; exact .inl (.inr ⟨ob2, k1⟩), ?_, fun m hm => ?_, ?_⟩
  · unfold asI
    rw [List.getElem?_map, List.getElem?_eq_getElem lt, List.getElem_idxOf]
    rfl
  · unfold asI
    rw [List.getElem?_map, List.getElem?_eq_getElem (by omega)]
    intro z
    have z : ((c[m] : Nat) : Int) = (i : Int) := Option.some.inj z
    have z : c[m] = i := by omega
    have := List.not_of_lt_findIdx (p := fun y => y == i) (show m < c.findIdx (fun y => y == i) from hm)
    rw [z] at this
    simp at this
  · exact q _ H2 _ rfl (Res.of (s1.mono r2.ex r2.wk).okk (.int _) (r.ex.trans r2.ex) r2.wk)
/-- the first place in a list of sections -/
theorem e_idxL {xs : List (List Nat)} {m : Mk} (hu : X.A.units + 65 < cLine) (ho : ED X W ρ 0 o (.lst (xs.map (nT .key)))) (ha : ED X W ρ 0 e (nT m c)) (mi : c ∈ xs) (h1 : attributeBase o "index" X.env (eval o X.env) = eval o X.env := by rfl) (h2 : ((backTo pos (starEach (e :: []) X.env)).all (fun x => !x.1) && (backToKw pos (keywordEach [] X.env)).all (fun x => x.1.isSome) && decide ((e :: ([] : List Expr)).length + ([] : List Keyword).length + (if ([] : List Keyword).isEmpty then 0 else 1) < 30)) = true := by rfl)
    (h3 : (apos.endLine == pos.line) = true := by rfl) (h4 : starEach (e :: []) X.env = (false, eval e X.env) :: starEach [] X.env := by rfl) (h5 : (backTo pos (starEach [] X.env)).any (·.1) = false := by rfl) : ED X W ρ f (.Call (.Attribute o "index" apos) [e] [] pos) (nD (xs.idxOf c)) := fun O σ H s Q q => by
  refine ⟨_, pe_bm PySem.F.plainAttrs_list PySem.F.slot_list_index PySem.F.type_list_index (mt_indexD hu) ev_pe (pa_cons ev_pe pa_nil h4) h1 h2 h3 h4 h5, ho O σ H s _ fun v H1 d p r => ?_⟩
  subst p
  obtain ⟨a, vs, rfl, g1, g2⟩ := (r.da.mono (hid_le W H1)).ls_inv
  refine ⟨.inl ⟨rfl, vs, SqL.of g1⟩, ?_⟩
  have s1 := s.mono r.ex r.wk
  refine ha O σ H1 s1 _ fun u H2 d2 p2 r2 => ?_
  subst p2
  have lt : xs.idxOf c < xs.length := List.idxOf_lt_length_of_mem mi
  have dl := ((r.da.mono r2.ex).mono (hid_le W H2)).dp
  have shl : Sh 2 (.lst (xs.map (nT .key))) := Sh.lst fun d m => by
    obtain ⟨x, _, rfl⟩ := List.mem_map.mp m
    exact sh_nT x
  have hsl := shl.ok (by decide)
  rw [er, erL_map] at dl hsl
  have at_ : ∀ k (hk : k < xs.length), ((xs.map (nT .key)).map er)[k]? = some (er (nT .key xs[k])) := fun k hk => by
    rw [List.getElem?_map, List.getElem?_map, List.getElem?_eq_getElem hk]
    rfl
  refine ⟨a, u, er (nT m c), (xs.map (nT .key)).map er, xs.idxOf c, er (nT .key (xs[xs.idxOf c])), rfl, rfl, dl, (r2.da.mono (hid_le W H2)).dp, hsl, (sh_nT c).ok (by decide), at_ _ lt, ?_, fun k z hk hz => ?_, ?_⟩
  · rw [eqv_nT, List.getElem_idxOf]
    exact beq_self_eq_true c
  · rw [at_ k (by omega)] at hz
    cases hz
    rw [eqv_nT]
    have := List.not_of_lt_findIdx (p := fun y => y == c) (show k < xs.findIdx (fun y => y == c) from hk)
    simpa using this
  · exact q _ H2 _ rfl (Res.of (s1.mono r2.ex r2.wk).okk (.int _) (r.ex.trans r2.ex) r2.wk)
end
end K19
end

section
set_option Elab.async false
set_option linter.all false
set_option maxRecDepth 100000
set_option maxHeartbeats 4000000
namespace K19
open PySem PySem.Spec PyProof.Rows L2
/-! ### sections and their places -/
theorem snoc_ind {α : Type} {P : List α → Prop} (h0 : P []) (h1 : ∀ c i, P c → P (c ++ [i])) (c : List α) : P c := by
  have key : ∀ r : List α, P r.reverse := by
    intro r
    induction r with
    | nil => exact h0
    | cons i r ih =>
      rw [List.reverse_cons]
      exact h1 _ _ ih
  have h := key c.reverse
  rw [List.reverse_reverse] at h
  exact h
/-- a section of the lot -/
def Vs (os c s : List Nat) : Prop := s.length = c.length ∧ ∀ z ∈ c.zip s, z.2 < os.getD z.1 0
theorem vs_snoc {os c s : List Nat} {i : Nat} (h : Vs os (c ++ [i]) s) : ∃ t o, s = t ++ [o] ∧ Vs os c t ∧ o < os.getD i 0 := by
  obtain ⟨hl, hz⟩ := h
  rw [List.length_append] at hl
  have ne : s ≠ [] := fun e => by
    rw [e] at hl
    simp at hl
  have e := List.dropLast_concat_getLast ne
  have tl : s.dropLast.length = c.length := by
    rw [List.length_dropLast, hl]
    simp
  refine ⟨s.dropLast, s.getLast ne, e.symm, ⟨tl, fun z m => hz z ?_⟩, ?_⟩
  · rw [← e, List.zip_append tl.symm]
    exact List.mem_append_left _ m
  · refine hz (i, s.getLast ne) ?_
    have : (c ++ [i]).zip s = c.zip s.dropLast ++ [(i, s.getLast ne)] := by
      conv => lhs; rw [← e]
      rw [List.zip_append tl.symm]
      rfl
    rw [this]
    exact List.mem_append_right _ (List.mem_singleton.mpr rfl)
theorem vs_put {os c t : List Nat} {i o : Nat} (h : Vs os c t) (lt : o < os.getD i 0) : Vs os (c ++ [i]) (t ++ [o]) := by
  refine ⟨by rw [List.length_append, List.length_append, h.1]; rfl, fun z m => ?_⟩
  rw [List.zip_append h.1.symm] at m
  rcases List.mem_append.mp m with m | m
  · exact h.2 z m
  · have e : z = (i, o) := by
      simpa using m
    rw [e]
    exact lt
theorem place_put {os c t : List Nat} {i o : Nat} (h : t.length = c.length) : placeN os (c ++ [i]) (t ++ [o]) = placeN os c t * os.getD i 0 + o := by
  unfold placeN
  rw [List.zip_append h.symm, List.foldl_append]
  rfl
theorem grow_get {k : Nat} : ∀ {f : List (List Nat)} {p : Nat} {t : List Nat} {o : Nat}, f[p]? = some t → o < k → (grow k f)[p * k + o]? = some (t ++ [o])
  | [], p, t, o, h, _ => by simp at h
  | a :: f, 0, t, o, h, lt => by
    cases h
    unfold grow
    rw [List.flatMap_cons, Nat.zero_mul, Nat.zero_add, List.getElem?_append_left (by rw [List.length_map, List.length_range]; exact lt), List.getElem?_map, List.getElem?_range lt]
    rfl
  | a :: f, p + 1, t, o, h, lt => by
    have ih := grow_get (f := f) (p := p) (t := t) (o := o) (by simpa using h) lt
    unfold grow at ih ⊢
    rw [List.flatMap_cons, List.getElem?_append_right (by rw [List.length_map, List.length_range, Nat.succ_mul]; omega), List.length_map, List.length_range]
    have e : (p + 1) * k + o - k = p * k + o := by
      rw [Nat.succ_mul]
      omega
    rw [e]
    exact ih
theorem sects_at (os : List Nat) (c : List Nat) : ∀ s, Vs os c s → (sects os c)[placeN os c s]? = some s := by
  induction c using snoc_ind with
  | h0 =>
    intro s h
    have := h.1
    have e : s = [] := List.length_eq_zero_iff.mp this
    subst e
    rfl
  | h1 c i ih =>
    intro s h
    obtain ⟨t, o, rfl, ht, lt⟩ := vs_snoc h
    rw [sects_snoc, place_put ht.1]
    exact grow_get (ih t ht) lt
theorem sects_inv (os : List Nat) (c : List Nat) : ∀ p s, (sects os c)[p]? = some s → Vs os c s ∧ placeN os c s = p := by
  induction c using snoc_ind with
  | h0 =>
    intro p s h
    cases p with
    | zero =>
      cases h
      exact ⟨⟨rfl, fun z m => by cases m⟩, rfl⟩
    | succ p => cases h
  | h1 c i ih =>
    intro p s h
    rw [sects_snoc] at h
    have lt : p < (sects os c).length * os.getD i 0 := by
      rw [← grow_len]
      exact (List.getElem?_eq_some_iff.mp h).1
    have k0 : 0 < os.getD i 0 := Nat.pos_of_ne_zero fun z => by
      rw [z] at lt
      omega
    have pl : p / os.getD i 0 < (sects os c).length := (Nat.div_lt_iff_lt_mul k0).mpr lt
    have g := grow_get (List.getElem?_eq_getElem pl) (Nat.mod_lt p k0)
    have e : p / os.getD i 0 * os.getD i 0 + p % os.getD i 0 = p := by
      rw [Nat.mul_comm]
      exact Nat.div_add_mod ..
    rw [e, h] at g
    cases g
    obtain ⟨h1, h2⟩ := ih _ _ (List.getElem?_eq_getElem pl)
    refine ⟨vs_put h1 (Nat.mod_lt p k0), ?_⟩
    rw [place_put h1.1, h2, e]
theorem sects_mem {os c s : List Nat} : s ∈ sects os c ↔ Vs os c s := by
  constructor
  · intro m
    obtain ⟨p, h⟩ := List.getElem?_of_mem m
    exact (sects_inv os c p s h).1
  · intro h
    exact List.mem_of_getElem? (sects_at os c s h)
theorem place_lt {os c s : List Nat} (h : Vs os c s) : placeN os c s < (sects os c).length := (List.getElem?_eq_some_iff.mp (sects_at os c s h)).1
theorem sects_idx {os c s : List Nat} (h : Vs os c s) : (sects os c).idxOf s = placeN os c s := by
  have m := sects_mem.mpr h
  have lt := List.idxOf_lt_length_of_mem m
  have e := List.getElem_idxOf lt
  exact ((sects_inv os c _ s (by rw [List.getElem?_eq_getElem lt, e])).2).symm
theorem sects_nodup (os c : List Nat) : (sects os c).Nodup := by
  rw [List.nodup_iff_pairwise_ne, List.pairwise_iff_getElem]
  intro i j hi hj lt e
  have a := (sects_inv os c i _ (List.getElem?_eq_getElem hi)).2
  have b := (sects_inv os c j _ (List.getElem?_eq_getElem hj)).2
  rw [e] at a
  omega
/-- a whole assignment -/
def Whole (os wh : List Nat) : Prop := wh.length = os.length ∧ ∀ i, i < os.length → wh.getD i 0 < os.getD i 0
theorem whole_vs {os wh : List Nat} : Vs os (List.range os.length) wh ↔ Whole os wh := by
  constructor
  · rintro ⟨h1, h2⟩
    rw [List.length_range] at h1
    refine ⟨h1, fun i lt => h2 (i, wh.getD i 0) ?_⟩
    have : ((List.range os.length).zip wh)[i]? = some (i, wh.getD i 0) := by
      rw [List.getElem?_zip_eq_some]
      exact ⟨by rw [List.getElem?_range lt], getD_some (by omega)⟩
    exact List.mem_of_getElem? this
  · rintro ⟨h1, h2⟩
    refine ⟨by rw [List.length_range]; exact h1, fun z m => ?_⟩
    obtain ⟨i, h⟩ := List.getElem?_of_mem m
    rw [List.getElem?_zip_eq_some] at h
    have lt : i < os.length := by
      have := (List.getElem?_eq_some_iff.mp h.1).1
      rw [List.length_range] at this
      exact this
    have e1 : i = z.1 := by
      have := h.1
      rw [List.getElem?_range lt] at this
      exact Option.some.inj this
    have e2 : wh.getD i 0 = z.2 := by
      rw [List.getD_eq_getElem?_getD, h.2]
      rfl
    rw [← e1, ← e2]
    exact h2 i lt
theorem pick_vs {os wh c : List Nat} (h : Whole os wh) (hc : ∀ i ∈ c, i < os.length) : Vs os c (pick wh c) := by
  refine ⟨by unfold pick; rw [List.length_map], fun z m => ?_⟩
  obtain ⟨k, e⟩ := List.getElem?_of_mem m
  rw [List.getElem?_zip_eq_some] at e
  unfold pick at e
  have e2 := e.2
  rw [List.getElem?_map, e.1] at e2
  have e2 : wh.getD z.1 0 = z.2 := Option.some.inj e2
  rw [← e2]
  exact h.2 z.1 (hc z.1 (List.mem_of_getElem? e.1))
/-- what a section says of a smaller lot -/
def part (s c less : List Nat) : List Nat := less.map fun i => s.getD (c.idxOf i) 0
theorem part_pick {wh c less : List Nat} (h : ∀ i ∈ less, i ∈ c) : part (pick wh c) c less = pick wh less := by
  unfold part pick
  refine List.map_congr_left fun i m => ?_
  have lt := List.idxOf_lt_length_of_mem (h i m)
  rw [List.getD_eq_getElem?_getD, List.getElem?_map, List.getElem?_eq_getElem lt, List.getElem_idxOf lt]
  rfl
theorem idx_range {n i : Nat} (h : i < n) : (List.range n).idxOf i = i := by
  have m : i ∈ List.range n := List.mem_range.mpr h
  have lt := List.idxOf_lt_length_of_mem m
  have e := List.getElem_idxOf lt
  rw [List.getElem_range] at e
  exact e
theorem part_whole {wh c : List Nat} {n : Nat} (h : ∀ i ∈ c, i < n) : part wh (List.range n) c = pick wh c := by
  unfold part pick
  refine List.map_congr_left fun i m => ?_
  rw [idx_range (h i m)]
end K19
end

section
set_option Elab.async false
set_option linter.all false
set_option maxRecDepth 100000
set_option maxHeartbeats 4000000
namespace K19
open PySem PySem.Spec PyProof.Rows L2
section
variable {P : Program} {w : World} {K : PySem.W.Frag} {mg : Str → Option Value} {base : Heap}
def Spartof : List D → D → Prop := fun ds d => ∃ m m' s c less, (∀ i ∈ less, i ∈ c) ∧ s.length = c.length ∧ less.length ≤ 90000 ∧ ds = [nT m s, nT .lot c, nT m' less] ∧ d = nT .key (part s c less)
theorem f_part_of (C : Ct K mg) : Fc P w K mg base 1 "part_of" (spD K Spartof) := by
  refine mk_D (k := 0) C 21 rfl ["section", "lot", "less", "each"] ["section", "lot", "less"] ⟨rfl, rfl, rfl, by decide +kernel, rfl, by decide +kernel, by decide +kernel⟩ (fun _ _ _ _ _ _ us hl => match us, hl with | [_, _, _], _ => rfl) (fun ds d s => ?_) fun f cdv A outer s H E hr nd ds d sd => ?_
  -- slots: 0=section 1=lot 2=less 3=each
  · obtain ⟨m, m', s, c, less, _, _, _, rfl, _⟩ := s
    rfl
  obtain ⟨m, m', s, c, less, hi, hl, hz, rfl, rfl⟩ := sd
  refine r_retD (d := nT .key (part s c less)) ?_ rfl rfl
  refine ED.eq (e_tuple C.g (e_lcA0 (t := .nm 3) (own := [("each", 3)]) (xs := less) (g0 := nD) (gg := fun i => nD (s.getD (c.idxOf i) 0)) rfl nd (it_tupD (e_name 2 rfl)) (blkOk_by rfl) (fun _ _ _ _ _ => pgN 3 nd) (by decide) (fun _ _ => rfl) (fun x _ y _ => nD_inj x y) (fun i mi _ _ _ _ _ => ?_) (fun _ _ => rfl) hz)) ?_
  · exact e_at (g := nD) (m := m) (e_name 0 rfl) (e_idxT (e_name 1 rfl) (e_name 3 rfl) (hi i mi)) (getD_some (by rw [hl]; exact List.idxOf_lt_length_of_mem (hi i mi)))
  · unfold nT part
    rw [List.map_map]
    rfl
theorem zip_swap {os wh : List Nat} : ∀ (ws : List (List Rat)) (cs : List (List Nat)), (ws.zip cs).map (fun z => wAt os wh (z.2, z.1)) = (cs.zip ws).map (wAt os wh)
  | [], [] => rfl
  | [], _ :: _ => rfl
  | _ :: _, [] => rfl
  | w :: ws, c :: cs => by
    rw [List.zip_cons_cons, List.zip_cons_cons, List.map_cons, List.map_cons, zip_swap ws cs]
theorem mem_swap {α β : Type} {xs : List α} {ys : List β} {z : α × β} (h : z ∈ xs.zip ys) : (z.2, z.1) ∈ ys.zip xs := by
  obtain ⟨i, e⟩ := List.getElem?_of_mem h
  rw [List.getElem?_zip_eq_some] at e
  refine List.mem_of_getElem? (i := i) ?_
  rw [List.getElem?_zip_eq_some]
  exact ⟨e.2, e.1⟩
def Sworth2 : List D → D → Prop := fun ds d => ∃ m N M os cs ws wh, WsV os cs ws wh N M ∧ Whole os wh ∧ ds = [scD os cs, rows ws, nT m wh] ∧ d = fr (worthQ os cs ws wh)
theorem f_worth_of (C : Ct K mg) : Fc P w K mg base 3 "worth_of" (spD K Sworth2) := by
  refine mk_D (k := 2) C 30 rfl ["scenario", "weights_told", "assignment", "found", "weights", "lot", "section"] ["scenario", "weights_told", "assignment"] ⟨rfl, rfl, rfl, by decide +kernel, rfl, by decide +kernel, by decide +kernel⟩ (fun _ _ _ _ _ _ us hl => match us, hl with | [_, _, _], _ => rfl) (fun ds d s => ?_) fun f cdv A outer s H E hr nd ds d sd => ?_
  -- slots: 0=scenario 1=weights_told 2=assignment 3=found 4=weights 5=lot 6=section
  · obtain ⟨m, N, M, os, cs, ws, wh, _, _, rfl, _⟩ := s
    rfl
  obtain ⟨m, N, M, os, cs, ws, wh, V, Wh, rfl, rfl⟩ := sd
  have ho : ∀ o ∈ os, o ≤ 4 := fun o m => (V.sc.o2 o m).2
  have hn := V.sc.n6
  have tk : ∀ i, ((cs.zip ws).map (wAt os wh)).take i = ((ws.zip cs).map fun z => wAt os wh (z.2, z.1)).take i := fun i => by rw [zip_swap]
  have ll : (ws.zip cs).length = (cs.zip ws).length := by rw [List.length_zip, List.length_zip, Nat.min_comm]
  refine r_setD 3 (e_zero C.g) ?_ nd
  refine r_for (t := .pr 4 5) (ds := (ws.zip cs).map (prD row (nT .lot))) ?_ (fun d md => ?_) (pgP 4 5 nd) (fun i ρ => ∃ c4 c5 c6 : Cell, c4.dull = true ∧ c5.dull = true ∧ ρ = [.da (scD os cs), .da (rows ws), .da (nT m wh), .da (fr (tot (((cs.zip ws).map (wAt os wh)).take i))), c4, c5, c6]) ⟨.un, .un, .un, rfl, rfl, rfl⟩ ?_ ?_ rfl
  · rw [← zipD_map]
    exact it_zip C.g (e_name 1 rfl) (e_cs (e_name 0 rfl)) rfl rfl
  · obtain ⟨z, _, rfl⟩ := List.mem_map.mp md
    rfl
  · rintro i d ρ' hi ⟨c4, c5, c6, h4, h5, rfl⟩
    obtain ⟨z, e, rfl⟩ := get_map hi
    have hm := List.mem_of_getElem? e
    have lt := (List.getElem?_eq_some_iff.mp e).1
    have mc := (List.of_mem_zip hm).2
    have hL := V.sc.lot _ mc
    have hc3 := V.sc.c3 _ mc
    obtain ⟨g1, g2⟩ := V.get (mem_swap hm)
    have vs : Vs os z.2 (pick wh z.2) := pick_vs Wh hL.1.2
    refine ⟨fun j hj => ?_, ?_⟩
    · rcases List.mem_cons.mp hj with e | hj
      · subst e
        exact ⟨c4, rfl, (dull_no h4).1⟩
      · cases List.mem_singleton.mp hj
        exact ⟨c5, rfl, (dull_no h5).1⟩
    · refine r_setD 6 (d := nT .key (pick wh z.2)) (e_callD (f_part_of C) hr (ad_cons (e_name 2 rfl) (ad_cons (e_tupRg C.g (n := wh.length) rfl (ED.eq (e_len C.g (e_name (d := nT m wh) 2 rfl) rfl) (by rw [List.length_map])) (by have := Wh.1; omega)) (ad_one (e_name 5 rfl)))) ⟨m, .lot, wh, List.range wh.length, z.2, fun i mi => ?_, by rw [List.length_range], by omega, rfl, ?_⟩) ?_ nd
      · have := hL.1.2 i mi
        have := Wh.1
        exact List.mem_range.mpr (by omega)
      · rw [part_whole fun i mi => by
          have := hL.1.2 i mi
          have := Wh.1
          omega]
      · refine r_setD 3 (d := fr (tot (((cs.zip ws).map (wAt os wh)).take i) + wAt os wh (z.2, z.1))) (e_callD (f_plus C) hr (ad_cons (e_name 3 rfl) (ad_one (e_at (g := fr) (e_name 4 rfl) (ED.eq (e_idxL (xs := sects os z.2) (c := pick wh z.2) hr.u65 (e_callD (f_sections_by C) hr (ad_cons (e_name 0 rfl) (ad_one (e_name 5 rfl))) (sects_call (K := K) V.sc mc)) (e_name 6 rfl) (sects_mem.mpr vs)) (by rw [sects_idx vs])) g1))) ⟨_, _, V.part i (by omega), g2.bq V.n1 V.m1, rfl, rfl⟩) (r_nil ⟨.da (row z.1), .da (nT .lot z.2), .da (nT .key (pick wh z.2)), rfl, rfl, ?_⟩) nd
        have e2 : ((ws.zip cs).map fun z => wAt os wh (z.2, z.1))[i]? = some (wAt os wh (z.2, z.1)) := by rw [List.getElem?_map, e]; rfl
        rw [tk, tk, tot_take e2]
        rfl
  · rintro ρ' ⟨c4, c5, c6, h4, h5, rfl⟩
    refine r_retD (d := fr (worthQ os cs ws wh)) (ED.eq (e_name 3 rfl) ?_) rfl rfl
    rw [List.take_of_length_le (by rw [List.length_map, List.length_map]; omega)]
    rfl
def oBW (b : Option (Rat × List Nat)) : D := match b with
  | none => .non
  | some z => prD fr (nT .key) z
theorem f_greatest_by (C : Ct K mg) : Fc P w K mg base 4 "greatest_by" (spD K Sgreat) := by
  refine mk_D (k := 3) C 35 rfl ["scenario", "weights", "best", "each", "worth"] ["scenario", "weights"] ⟨rfl, rfl, rfl, by decide +kernel, rfl, by decide +kernel, by decide +kernel⟩ (fun _ _ _ _ _ _ us hl => match us, hl with | [_, _], _ => rfl) (fun ds d s => ?_) fun f cdv A outer s H E hr nd ds d sd => ?_
  -- slots: 0=scenario 1=weights 2=best 3=each 4=worth
  · obtain ⟨N, M, os, cs, ws, b, _, _, _, rfl, _⟩ := s
    rfl
  obtain ⟨N, M, os, cs, ws, b, V, S, hb, rfl, rfl⟩ := sd
  have ho : ∀ o ∈ os, o ≤ 4 := fun o m => (S.o2 o m).2
  have hn := S.n6
  refine r_setD 2 (d := .non) e_non ?_ nd
  refine r_for (t := .nm 3) (it_listD (e_callD (f_globals_of C) hr (ad_one (e_name 0 rfl)) ⟨os, cs, ho, by omega, rfl, rfl⟩)) (fits_map fun _ => rfl) (pgN 3 nd) (fun i ρ => ∃ c3 c4 : Cell, c3.dull = true ∧ ρ = [.da (scD os cs), .da (rows ws), .da (oBW (bestOf (worthQ os cs ws) ((sects os (List.range os.length)).take i))), c3, c4]) ⟨.un, .un, rfl, rfl⟩ ?_ ?_ rfl
  · rintro i d ρ' hi ⟨c3, c4, h3, rfl⟩
    obtain ⟨g, e, rfl⟩ := get_map hi
    have hm := List.mem_of_getElem? e
    have wg : Whole os g := whole_vs.mp (sects_mem.mp hm)
    refine ⟨fun j hj => ?_, ?_⟩
    · cases List.mem_singleton.mp hj
      exact ⟨c3, rfl, (dull_no h3).1⟩
    refine r_setD 4 (d := fr (worthQ os cs ws g)) (e_callD (f_worth_of C) hr (ad_cons (e_name 0 rfl) (ad_cons (e_name 1 rfl) (ad_one (e_name 3 rfl)))) ⟨.key, N, M, os, cs, ws, g, V g hm, wg, rfl, rfl⟩) ?_ nd
    rw [best_take e]
    have take : ∀ ρ2, ρ2 = [.da (scD os cs), .da (rows ws), .da (oBW (some (worthQ os cs ws g, g))), .da (nT .key g), .da (fr (worthQ os cs ws g))] → ∃ c3 c4 : Cell, c3.dull = true ∧ ρ2 = [.da (scD os cs), .da (rows ws), .da (oBW (some (worthQ os cs ws g, g))), c3, c4] := fun ρ2 e => ⟨_, _, rfl, e⟩
    cases eb : bestOf (worthQ os cs ws) ((sects os (List.range os.length)).take i) with
    | none =>
      refine r_ifT (t_of (tw_or (P := fun z => z = true) (t_cmpD op_isN (e_name (d := .non) 2 rfl) e_non od_isN) (fun z => by cases z) fun _ => rfl)) ?_
      exact r_setD 2 (d := prD fr (nT .key) (worthQ os cs ws g, g)) (e_tup (ad_cons (e_name (d := fr (worthQ os cs ws g)) 4 rfl) (ad_one (e_name (d := nT .key g) 3 rfl)))) (r_nil (r_nil (take _ rfl))) nd
    | some z =>
      obtain ⟨q, h⟩ := z
      obtain ⟨mh, hq⟩ := best_val i q h eb
      have bq : Bq q := by
        rw [hq]
        exact (V h mh).all
      refine r_if (t_of (tw_or (P := fun z => z = false) (P' := fun z => z = decide (q < worthQ os cs ws g)) (t_cmpD op_isN (e_name (d := prD fr (nT .key) (q, h)) 2 rfl) e_non od_isN) (fun _ => tw_or1 (t_valD (e_callD (f_is_less C) hr (ad_cons (e_ixT (m := .key) (ds := [fr q, nT .key h]) (d := fr q) (e_name 2 rfl) e_int rfl) (ad_one (e_name 4 rfl))) ⟨_, _, bq, (V g hm).all, rfl, rfl⟩))) fun z => by cases z)) (fun p => ?_) fun p => ?_
      · have lt := of_decide_eq_true p.symm
        refine r_setD 2 (d := prD fr (nT .key) (worthQ os cs ws g, g)) (e_tup (ad_cons (e_name (d := fr (worthQ os cs ws g)) 4 rfl) (ad_one (e_name (d := nT .key g) 3 rfl)))) (r_nil (r_nil ?_)) nd
        unfold bestStep
        simp only [if_pos lt]
        exact take _ rfl
      · have lt := of_decide_eq_false p.symm
        refine r_nil (r_nil ?_)
        unfold bestStep
        simp only [if_neg lt]
        exact ⟨_, _, rfl, rfl⟩
  · rintro ρ' ⟨c3, c4, h3, rfl⟩
    rw [List.length_map, List.take_length, hb]
    exact r_retD (ED.lq (e_name (d := prD fr (nT .key) b) 2 rfl) (.any (.cons (.refl _) (.cons (.any (LqL.refl _)) .nil)))) rfl rfl
def Sclas : List D → D → Prop := fun ds d => ∃ N M os cs qs wins b, (∀ wh ∈ sects os (List.range os.length), WsV os cs (paidQ qs wins) wh N M) ∧ ScV os cs ∧ GmV os cs qs wins ∧ bestOf (worthQ os cs (paidQ qs wins)) (sects os (List.range os.length)) = some b ∧ ds = [scD os cs, gmD qs wins] ∧ d = prA fr (nT .any) b
theorem GmV.wl {os : List Nat} {cs : List (List Nat)} {qs : List Rat} {wins : List (List Nat)} (G : GmV os cs qs wins) (S : ScV os cs) : ∀ x ∈ wins, x.length ≤ 64 := fun x m => by
  obtain ⟨i, e⟩ := List.getElem?_of_mem m
  have lt : i < cs.length := by
    have := (List.getElem?_eq_some_iff.mp e).1
    have := G.l2
    omega
  have mz : (x, cs[i]) ∈ wins.zip cs := by
    refine List.mem_of_getElem? (i := i) ?_
    rw [List.getElem?_zip_eq_some]
    exact ⟨e, List.getElem?_eq_getElem lt⟩
  have h := (G.row _ mz).1
  have := S.sl (List.of_mem_zip mz).2
  show x.length ≤ 64
  rw [h]
  exact this
theorem f_classical_by (C : Ct K mg) : Fc P w K mg base 5 "classical_by" (spD K Sclas) := by
  refine mk_D (k := 4) C 36 rfl ["scenario", "game"] ["scenario", "game"] ⟨rfl, rfl, rfl, by decide +kernel, rfl, by decide +kernel, by decide +kernel⟩ (fun _ _ _ _ _ _ us hl => match us, hl with | [_, _], _ => rfl) (fun ds d s => ?_) fun f cdv A outer s H E hr nd ds d sd => ?_
  -- slots: 0=scenario 1=game
  · obtain ⟨N, M, os, cs, qs, wins, b, _, _, _, _, rfl, _⟩ := s
    rfl
  obtain ⟨N, M, os, cs, qs, wins, b, V, S, G, hb, rfl, rfl⟩ := sd
  exact r_retD (e_callD (f_greatest_by C) hr (ad_cons (e_name 0 rfl) (ad_one (e_callD (f_won_by C) hr (ad_one (e_name 1 rfl)) ⟨qs, wins, by have := G.l1; have := S.c8; omega, fun x m => by have := G.wl S x m; omega, rfl, rfl⟩))) ⟨N, M, os, cs, _, b, V, S, hb, rfl, rfl⟩) rfl rfl
theorem f_classical_value (C : Ct K mg) : Fc P w K mg base 8 "classical_value" (spD K Sclas) := by
  refine mk_D (k := 7) C 39 rfl ["scenario", "game"] ["scenario", "game"] ⟨rfl, rfl, rfl, by decide +kernel, rfl, by decide +kernel, by decide +kernel⟩ (fun _ _ _ _ _ _ us hl => match us, hl with | [_, _], _ => rfl) (fun ds d s => ?_) fun f cdv A outer s H E hr nd ds d sd => ?_
  -- slots: 0=scenario 1=game
  · obtain ⟨N, M, os, cs, qs, wins, b, _, _, _, _, rfl, _⟩ := s
    rfl
  obtain ⟨N, M, os, cs, qs, wins, b, V, S, G, hb, rfl, rfl⟩ := sd
  refine r_expr (e_callD (f_check_game C) hr (ad_cons (e_name 0 rfl) (ad_one (e_name 1 rfl))) ⟨os, cs, qs, wins, S, G, rfl, rfl⟩) ?_
  exact r_retD (e_callD (f_classical_by C) hr (ad_cons (e_name 0 rfl) (ad_one (e_name 1 rfl))) ⟨N, M, os, cs, qs, wins, b, V, S, G, hb, rfl, rfl⟩) rfl rfl
end
end K19
end

section
set_option Elab.async false
set_option linter.all false
set_option maxRecDepth 100000
set_option maxHeartbeats 4000000
namespace K19
open PySem PySem.Spec PyProof.Rows L2
/-! ### a comprehension's dict that tuples open -/
theorem dset_tup {X : Cx} {pins : List (Addr × Obj)} {σ : L2.St} {H : Hp} {s : Shared} {A : Around} {E : Value → Shared → Prop} {Dd b : Addr} {kvs : List (List Key × V)} {k : List Key} {v : V} {r : Value} {Q : Unit → Shared → Prop} (hu : A.units < cLine) (I : Inv X pins σ H s) (hD : H Dd = some (.dT kvs)) (hb : H b = some (.tup (k.map kV))) (room : kvs.length < sizeLine)
    (rv : RelV v r) (fin : ∀ s', Inv X pins σ (upd H Dd (.dT (putK kvs k v))) s' → Q () s') : wpAny (model X.prog X.w) A (dictSet Dd (.ref b) r) Q E s := by
  obtain ⟨few, notSys, held, kt, isD⟩ := dt_of I.hok hD
  have few2 : held.length ≤ sizeLine := by
    rw [← Paired.length kt]
    exact few
  have grown := length_putK kvs k v
  refine wpAny_dictSet_heap (hsz := few2) hu (key_of I.hok hb) isD fun h2 isD2 only => fin _ ?_
  obtain ⟨ob, ents, epoch, at_, ex1, ex2, ex3, _, nd⟩ := isD2
  have all : ObjOk X.prog X.w (upd H Dd (.dT (putK kvs k v))) h2 Dd (.dT (putK kvs k v)) := by
    refine ⟨by omega, notSys, _, (kt.put k hb rv).keeps fun c ys ec => ?_, ob, ents, epoch, at_, ex1, ex2, ex3, nd⟩
    rw [upd_ne fun e => by rw [e, hD] at ec; cases ec]
    exact ec
  exact d_write I (by rw [hD]; exact True.intro) only ⟨ob, at_⟩ all
def tDcT (wi : TI) (g : TG) (tk tv : TE) (vs : List Nat) : TE := fun σ H Q => wi σ H fun J Ha => ∀ Dd, Ha Dd = none → ∃ U : Nat → Nat → Hp → Prop, (∃ m, U 0 m (upd Ha Dd (.dT []))) ∧ ∀ n m Hb, U n m Hb →
  (J.stop n Hb ∧ Q (.ref Dd) Hb) ∨ (J.go n Hb ∧ ∃ Nx : Hp → Prop, (∀ Hc, Nx Hc → ∃ m2, m2 < m ∧ U (n + 1) m2 Hc) ∧ ∀ x Hc, J.yld n Hb x Hc → g x (wipe σ vs) Hc fun τ Hd => wipe τ vs = wipe σ vs ∧
    tk τ Hd fun y He => tv τ He fun z Hf => ∃ kvs k b, y = .ref b ∧ Hf Dd = some (.dT kvs) ∧ Hf b = some (.tup (k.map kV)) ∧ kvs.length < sizeLine ∧ Nx (upd Hf Dd (.dT (putK kvs k z))))
section
variable {X : Cx} {kx vx tg iter : Expr} {scope : Scope} {own : List (Str × Nat)} {pos : Pos} {wi : TI} {g : TG} {tk tv : TE}
theorem pe_dcT (hu : X.A.units < cLine) (calm : X.calm = true) (ndN : X.N.Nodup) (walk : PI X tg iter wi) (blk : BlkOk X.N X.env.scope scope own) (tgt : Bk X scope fun Y => PG Y tg g) (keyX : Bk X scope fun Y => PE Y kx tk) (valX : Bk X scope fun Y => PE Y vx tv) (noFold : ∀ x, foldedSetIterable iter X.env x = pure x) :
    PE X (.DictComp kx vx [⟨tg, iter, [], 0⟩] scope pos) (tDcT wi g tk tv (own.map (·.2))) := by
  refine ⟨fun pins s0 σ H Q I0 want => ?_⟩
  rw [arm_eval_DictComp]
  have captured : ∀ y ∈ scope.names, y.2 = .free → ∃ c, X.env.cells.lookup y.1 = some c := fun y my ey => (blk.free y my ey).elim (fun k => I0.ok.has _ (.inl k)) fun k => I0.ok.has _ (.inr k)
  refine wpAny_comprehension_free (use := none) rfl noFold (closure_ok captured) blk.kind (fun y my ey => by rw [blk.uniq y my, ey])
    (thn (walk.run pins s0 σ H _ I0 want) fun _ sa got => thn got fun _ sb got2 => ?_)
  obtain ⟨it, fp, tn, J, Ha, rfl, Ib, T, stb, fpb, want2⟩ := got2
  refine wpAny_newObj_type (newEnv_comp ?_)
  -- the new dict's place
  have freshD : Ha sb.heap.objs.size = none := Ib.hok.fresh (Nat.le_refl _)
  obtain ⟨U, ⟨m0, u0⟩, turn⟩ := want2 _ freshD
  generalize eD : sb.heap.objs.size = Dd at freshD u0 turn
  generalize esc : ({ sb with heap := sb.heap.push { cls := .type "dict", data := .dict #[] } } : Shared) = sc
  have hpc : sc.heap = sb.heap.push { cls := .type "dict", data := .dict #[] } := by rw [← esc]
  have Ic : Inv X pins σ (upd Ha Dd (.dT [])) sc := by
    rw [← esc]
    refine Ib.laid (t' := sb.toks) (fun _ _ e => Heap.get?_push_of_some _ e) (Nat.le_of_eq eD) ?_
    rw [← eD]
    exact dt_empty sb.heap Ib.big
  have small : ∀ b ∈ fp, b < sb.heap.objs.size := fun b mb => by
    obtain ⟨_, e, _⟩ := T.obj _ _ stb b mb
    exact Heap.lt_size e
  have fpc : ∀ b ∈ fp, FpOk X pins (upd Ha Dd (.dT [])) b ∧ b < sc.heap.objs.size := fun b mb => by
    have lt := small b mb
    have ne : b ≠ Dd := by
      rw [← eD]
      exact Nat.ne_of_lt lt
    refine ⟨⟨?_, (fpb b mb).2⟩, ?_⟩
    · rw [upd_ne ne]
      exact (fpb b mb).1
    · rw [hpc, Heap.size_push]
      exact Nat.lt_succ_of_lt lt
  have stc : tn 0 sc.heap := T.keep _ _ _ stb fun b _ o e => by
    rw [hpc]
    exact Heap.get?_push_of_some _ e
  have Id := block_start Ic blk ndN fpc
  have rT := tgt sc (upd Ha Dd (.dT [])) sc.heap.objs.size (cellsFrom (sc.heap.objs.size + 1) scope.names (cloFrom X.env.cells scope.names [])) fp
  have rK := keyX sc (upd Ha Dd (.dT [])) sc.heap.objs.size (cellsFrom (sc.heap.objs.size + 1) scope.names (cloFrom X.env.cells scope.names [])) fp
  have rV := valX sc (upd Ha Dd (.dT [])) sc.heap.objs.size (cellsFrom (sc.heap.objs.size + 1) scope.names (cloFrom X.env.cells scope.names [])) fp
  show codeAny _ _ (.compStart (.DictComp kx vx [⟨tg, iter, [], 0⟩] scope pos) 0 (.ref it) (.ref Dd) (compEnvC scope (cellsFrom (sc.heap.objs.size + 1) scope.names (cloFrom X.env.cells scope.names [])) sc.heap.objs.size X.env)) (compPost (model X.prog X.w) X.A X.xe none _ (.ref Dd) sc.heap.objs.size) { sc with heap := pushCells (sc.heap.push { cls := .type "dict", data := .dict #[] }) scope.names }
  have noneFp : ∀ b ∈ fp, (upd Ha Dd (.dT [])) b = none := fun b mb => (fpc b mb).1.1
  generalize eenv : compEnvC scope (cellsFrom (sc.heap.objs.size + 1) scope.names (cloFrom X.env.cells scope.names [])) sc.heap.objs.size X.env = ce at Id rT rK rV ⊢
  have locs : ce.locals = sc.heap.objs.size := by
    subst eenv
    rfl
  generalize eHc : upd Ha Dd (.dT []) = Hc at Ic Id rT rK rV u0 noneFp fpc
  generalize esd : ({ sc with heap := pushCells (sc.heap.push { cls := .type "dict", data := .dict #[] }) scope.names } : Shared) = sd at Id ⊢
  have std : tn 0 sd.heap := T.keep _ _ _ stc fun b _ o e => by
    rw [← esd]
    exact pushCells_keeps _ _ _ _ (Heap.get?_push_of_some _ e)
  have still : ∀ {τ : L2.St} {Hx : Hp} {sx : Shared}, Inv (X.blk sc Hc scope ce fp) [] τ Hx sx → (∀ b ∈ fp, Hx b = none) → ∀ b ∈ fp, FpOk (X.blk sc Hc scope ce fp) [] Hx b := fun {τ Hx sx} J1 nn b mb =>
    ⟨nn b mb, (J1.ok.exf b mb).1, J1.ok.exfs b mb, .inl mb, fun y c e => (J1.ok.exf b mb).2 y c e, fun q mq => absurd (show q ∈ ([] : List (Addr × Obj)) ++ [] from mq) (by simp)⟩
  refine (fun body => codeAny_compStart_dict body (T.self X.A 0 _ _ _ std body)) ?_
  refine compLoop_anyD (fun m sx => ∃ n Hx, Inv (X.blk sc Hc scope ce fp) [] (wipe σ (own.map (·.2))) Hx sx ∧ tn n sx.heap ∧ (∀ b ∈ fp, Hx b = none) ∧ U n m Hx) ?_ m0 ⟨0, Hc, Id, std, noneFp, u0⟩
  rintro m se ⟨n, He, Ie, ste, ne, ue⟩
  rcases turn n m He ue with ⟨atEnd, done⟩ | ⟨going, Nx, less, step⟩
  · refine thnF (T.done (X.blk sc Hc scope ce fp) rfl rfl rfl calm n [] se _ He (fun _ _ => False) Ie (still Ie ne) ste atEnd) fun r sf ⟨er, If⟩ => ?_
    subst er
    have Ig : Inv X pins σ He sf := Ic.call' (ch := fp) If.os If.base If.hok If.bare fun b mb => ⟨(fpc b mb).1.2.2.2.1, (fpc b mb).1.2.1, (fpc b mb).1.2.2.2.2.1, (fpc b mb).1.2.2.2.2.2⟩
    have freeC : He sc.heap.objs.size = none := by
      have z : He ce.locals = none := If.free
      rw [locs] at z
      exact z
    obtain ⟨mm, isNs, _⟩ := If.loc
    have isNs : sf.heap.Ns ce.locals mm := isNs
    rw [locs] at isNs
    refine ⟨mm, isNs, fun hz same => ?_⟩
    obtain ⟨q0, q1, q2, q3, q4, q5⟩ := Ic.fpOk (Nat.le_refl _) freeC
    exact ⟨.ref Dd, He, Ig.turned (t' := sf.toks) (fun b o hb e => (same.2 b hb).trans e) q0 q1 q3 q4 q5, rfl, done⟩
  · refine thnF (T.item (X.blk sc Hc scope ce fp) rfl rfl rfl calm n [] se _ He (fun _ _ => False) Ie (still Ie ne) ste going) fun r sf ⟨u, er, got3⟩ => ?_
    subst er
    refine thnF got3 fun _ sg ⟨x, Hg, Ig, rg, yg, stg, ng⟩ => ?_
    have Ip := Ig.pinned (still Ig ng) (T.obj _ _ stg)
    refine thnF (rT.run _ sg _ Hg x u _ Ip rg (step x Hg yg)) fun _ sh ⟨τ, Hh, Ih, same, wantK⟩ => ?_
    refine wpAny_tests_nil ?_
    rw [if_pos rfl]
    refine thnF (rK.run _ sh τ Hh _ Ih wantK) fun kv si ⟨y, Hi, Ii, ri, wantV⟩ => ?_
    refine thnF (rV.run _ si τ Hi _ Ii wantV) fun vv sj ⟨z, Hj, Ij, rj, kvs, k, b, ey, hD, hb, lt, nx⟩ => ?_
    subst ey
    cases ri
    refine dset_tup (X := X.blk sc Hc scope ce fp) hu Ij hD hb lt rj fun sk Ik => ?_
    obtain ⟨m2, lt2, u2⟩ := less _ nx
    have kept : ∀ b ∈ fp, ∀ o, sg.heap.get? b = some o → sk.heap.get? b = some o ∧ _ := fun b mb o e =>
      have w := Ik.pin (b, o) (List.mem_append_right _ (List.mem_append_right _ (mem_pinsAt mb e)))
      ⟨w.1, w.2.1⟩
    have len : (wipe σ (own.map (·.2))).length = τ.length := by rw [← same, wipe_length]
    refine ⟨m2, lt2, n + 1, _, (Ik.unpinned (pins := [])).weak len (fun j v e => ?_), T.keep _ _ _ stg fun b mb o e => (kept b mb o e).1, fun b mb => ?_, u2⟩
    · rw [← same] at e
      exact (wipe_some e).1
    · obtain ⟨o, e, _⟩ := T.obj _ _ stg b mb
      exact (kept b mb o e).2
end
end K19
end

section
set_option Elab.async false
set_option linter.all false
set_option maxRecDepth 100000
set_option maxHeartbeats 4000000
namespace K19
open PySem PySem.Spec PyProof.Rows L2
/-! ### a dict's data: sections to fractions -/
def kvD (z : List Nat × Rat) : List Int × D := (asI z.1, fr z.2)
def dicC (ks : List (List Nat)) (qs : List Rat) : Cell := .dic ((ks.zip qs).map kvD)
def keyOf (s : List Nat) : List Key := (asI s).map Sum.inl
theorem keyOf_inj {a b : List Nat} (h : keyOf a = keyOf b) : a = b := by
  unfold keyOf asI at h
  rw [List.map_map, List.map_map] at h
  induction a generalizing b with
  | nil => cases b with
    | nil => rfl
    | cons _ _ => cases h
  | cons x a ih => cases b with
    | nil => cases h
    | cons y b =>
      rw [List.map_cons, List.map_cons] at h
      injection h with h1 h2
      have e : (x : Int) = (y : Int) := by
        injection h1
      rw [ih h2]
      congr 1
      omega
theorem tup_key {K : PySem.W.Frag} {H : Hp} {v : V} {s : List Nat} (h : Da K H v (nT .key s)) : ∃ b, v = .ref b ∧ H b = some (.tup ((keyOf s).map kV)) := by
  obtain ⟨b, xs, rfl, h1, h2⟩ := h.tup_inv
  refine ⟨b, rfl, ?_⟩
  have e : s.map nD = (asI s).map .int := by
    unfold asI
    rw [List.map_map]
    rfl
  rw [e] at h2
  have h1 : H b = some (.tup xs) := h1
  rw [h1, h2.ints]
  unfold keyOf
  rw [List.map_map]
  rfl
section
variable {K : PySem.W.Frag} {H : Hp}
theorem kv_none : ∀ {ks : List (List Nat)} {qs : List Rat} {vs : List (List Key × V)} {s : List Nat}, ImK K H vs ((ks.zip qs).map kvD) → s ∉ ks → valV vs (keyOf s) = none
  | [], _, _, _, h, _ => by
    cases h
    rfl
  | _ :: _, [], _, _, h, _ => by
    cases h
    rfl
  | k :: ks, q :: qs, _, s, h, n => by
    cases h with
    | cons h l =>
      rw [valV_neg fun e => n (by
        rw [h.1] at e
        rw [← keyOf_inj e]
        exact List.mem_cons_self ..)]
      exact kv_none l fun m => n (List.mem_cons_of_mem _ m)
theorem kv_get : ∀ {ks : List (List Nat)} {qs : List Rat} {vs : List (List Key × V)} {s : List Nat}, ImK K H vs ((ks.zip qs).map kvD) → s ∈ ks → ks.length = qs.length → ∃ v, valV vs (keyOf s) = some v ∧ Im K H v (fr (qs.getD (ks.idxOf s) 0))
  | k :: ks, q :: qs, _, s, h, m, l => by
    cases h with
    | cons h r =>
      by_cases e : k = s
      · subst e
        refine ⟨_, valV_pos h.1, ?_⟩
        rw [List.idxOf_cons_self]
        exact h.2
      · have m2 : s ∈ ks := (List.mem_cons.mp m).elim (fun z => absurd z.symm e) id
        obtain ⟨v, h1, h2⟩ := kv_get r m2 (by simpa using l)
        refine ⟨v, ?_, ?_⟩
        · rw [valV_neg fun z => e (keyOf_inj (by
            rw [h.1] at z
            exact z))]
          exact h1
        · rw [List.idxOf_cons, (beq_eq_false_iff_ne.mpr e)]
          exact h2
theorem kv_put {v : V} {q' : Rat} (hv : Im K H v (fr q')) : ∀ {ks : List (List Nat)} {qs : List Rat} {vs : List (List Key × V)} {s : List Nat}, ImK K H vs ((ks.zip qs).map kvD) → s ∈ ks → ks.Nodup → ks.length = qs.length →
    ImK K H (vs.map fun kv => if kv.1 = keyOf s then (kv.1, v) else kv) ((ks.zip (qs.set (ks.idxOf s) q')).map kvD)
  | k :: ks, q :: qs, _, s, h, m, nd, l => by
    have same : ∀ {ks : List (List Nat)} {qs : List Rat} {vs : List (List Key × V)}, ImK K H vs ((ks.zip qs).map kvD) → s ∉ ks → (vs.map fun kv => if kv.1 = keyOf s then (kv.1, v) else kv) = vs := by
      intro ks
      induction ks with
      | nil =>
        intro qs vs h _
        cases h
        rfl
      | cons k ks ih =>
        intro qs vs h n
        cases qs with
        | nil =>
          cases h
          rfl
        | cons q qs =>
          cases h with
          | cons h r =>
            rw [List.map_cons, if_neg fun e => n (by
              rw [h.1] at e
              rw [← keyOf_inj e]
              exact List.mem_cons_self ..), ih r fun m => n (List.mem_cons_of_mem _ m)]
    obtain ⟨n1, n2⟩ := List.nodup_cons.mp nd
    cases h with
    | cons h r =>
      rw [List.map_cons]
      by_cases e : k = s
      · subst e
        have hk : _ = keyOf k := h.1
        rw [if_pos hk, List.idxOf_cons_self, same r n1]
        exact .cons ⟨h.1, hv⟩ r
      · have m2 : s ∈ ks := (List.mem_cons.mp m).elim (fun z => absurd z.symm e) id
        rw [if_neg fun z => e (keyOf_inj (by
          rw [h.1] at z
          exact z)), List.idxOf_cons, (beq_eq_false_iff_ne.mpr e)]
        exact .cons h (kv_put hv r m2 n2 (by simpa using l))
theorem kv_putK {v : V} {q' : Rat} (hv : Im K H v (fr q')) {ks : List (List Nat)} {qs : List Rat} {vs : List (List Key × V)} {s : List Nat} (h : ImK K H vs ((ks.zip qs).map kvD)) (m : s ∈ ks) (nd : ks.Nodup) (l : ks.length = qs.length) : ImK K H (putK vs (keyOf s) v) ((ks.zip (qs.set (ks.idxOf s) q')).map kvD) := by
  obtain ⟨u, e, _⟩ := kv_get h m l
  unfold putK
  rw [valV_any, e, Option.isSome_some, if_pos rfl]
  exact kv_put hv h m nd l
theorem imK_len {vs : List (List Key × V)} {kvs : List (List Int × D)} (h : ImK K H vs kvs) : vs.length = kvs.length := Paired.length h
theorem tk_dic {l : Addr} {xs ys : List (List Key × V)} (h : H l = some (.dT xs)) : TK K H (upd H l (.dT ys)) := fun a zs m q => by
  have key : ∀ o : HO, ¬ Sta o → H a = some o → upd H l (.dT ys) a = some o := fun o no e => by
    rw [upd_ne]
    · exact e
    · rintro rfl
      rw [h] at e
      cases e
      exact no trivial
  cases m with
  | any =>
    rcases q with (q | ⟨o, q⟩) | q
    · exact .inl (.inl (key _ (fun z => z) q))
    · exact .inl (.inr ⟨o, key _ (fun z => z) q⟩)
    · exact .inr q
  | key => exact key _ (fun z => z) q
  | lot =>
    obtain ⟨o, q, r⟩ := q
    exact ⟨o, key _ (fun z => z) q, r⟩
end
/-! ### reading and writing it -/
section
variable {X : Cx} {W : List Addr} {ρ : List Cell} {f : Nat} {e ix : Expr} {P : D → Prop} {pos : Pos} {ks : List (List Nat)} {qs : List Rat} {s' : List Nat} {rest : List Stmt} {N : List Cell → Prop} {Rt : D → Prop} {x : Str}
theorem e_dicGet (i : Nat) {p1 : Pos} (hu : X.A.units + 1 < cLine) (ho : ρ[i]? = some (dicC ks qs)) (hx : ED X W ρ 0 ix (nT .key s')) (m : s' ∈ ks) (l : ks.length = qs.length) (hs : NoSl ix := by exact fun _ _ => rfl) (hN : X.N[i]? = some x := by rfl) (hv : Vis X.env.scope x := by first | exact Or.inl rfl | exact Or.inr (Or.inl rfl) | exact Or.inr (Or.inr rfl))
    (hd : (x == ("__debug__" : Str)) = false := by decide) (hcd : (x == ("__classdict__" : Str)) = false := by decide) : ED X W ρ f (.Subscript (.Name x p1) ix pos) (fr (qs.getD (ks.idxOf s') 0)) := fun O σ H s Q q => by
  obtain ⟨a, vs0, h1, h2, h3, h4⟩ := s.at_ i _ ho
  refine ⟨_, pe_dget hu (pe_var hN hv hd hcd) ev_pe hs, _, h1, hx O σ H s _ fun v H1 d p r => ?_⟩
  subst p
  have s1 := s.mono r.ex r.wk
  obtain ⟨a', vs, g1, g2, g3, g4⟩ := s1.at_ i _ ho
  rw [h1] at g1
  cases g1
  obtain ⟨b, rfl, kb⟩ := tup_key r.da
  obtain ⟨u, e1, e2⟩ := kv_get g4 m l
  refine ⟨a, u, rfl, ?_, q u H1 _ rfl (Res.of s1.okk (e2.mono (hid_app W O H1).tk) r.ex r.wk)⟩
  rw [← e1]
  exact DGet.t g3 (hid_some kb).2
/-- d[k] = e -/
theorem r_dicSet (i : Nat) {p1 p2 : Pos} {q' : Rat} (hu : X.A.units + 1 < cLine) (ho : ρ[i]? = some (dicC ks qs)) (h : ED X W ρ 0 e (fr q')) (hx : ED X W ρ 0 ix (nT .key s')) (m : s' ∈ ks) (nd : ks.Nodup) (l : ks.length = qs.length) (lz : ks.length ≤ 90000) (k : R X W (ρ.set i (dicC ks (qs.set (ks.idxOf s') q'))) rest N Rt) (hN : X.N[i]? = some x := by rfl) (hv : Vis X.env.scope x := by first | exact Or.inl rfl | exact Or.inr (Or.inl rfl) | exact Or.inr (Or.inr rfl))
    (hd : (x == ("__debug__" : Str)) = false := by decide) (hcd : (x == ("__classdict__" : Str)) = false := by decide)
    (hs : swapsWithSole [.Subscript (.Name x p1) ix p2] e pos.line X.env = pure false := by rfl) (hw : swappedStores [.Subscript (.Name x p1) ix p2] e X.env = pure none := by rfl)
    (h1 : (assignEach [.Subscript (.Name x p1) ix p2] X.env).map (·.2) = [assign (.Subscript (.Name x p1) ix p2) X.env] := by rfl)
    (ha : ∀ v, assign (.Subscript (.Name x p1) ix p2) X.env v = (do
      let ov ← holding [v] (eval (.Name x p1) X.env)
      let iv ← holding [v, ov] (eval ix X.env)
      standAt p2
      holding [v, ov, iv] (setItem ov iv v)
      release [v, ov, iv] []) := by intro _; rfl) :
    R X W ρ (.Assign [.Subscript (.Name x p1) ix p2] e pos :: rest) N Rt := fun O H0 σ H s D nx rt => by
  obtain ⟨a, vs0, h1', h2, h3, h4⟩ := s.sl.at_ i _ ho
  refine ⟨_, pss_cons (ps_asg ev_pe (pg_sub (pe_var hN hv hd hcd) ev_pe (set_dict hu) ha) hs hw h1) svs_pss, ?_⟩
  refine h O σ H s.sl _ fun v H1 d pd r => ?_
  subst pd
  have sB := s.mono r.ex r.wk
  refine ⟨_, h1', hx O σ H1 sB.sl _ fun v2 H2 d2 pd2 r2 => ?_⟩
  subst pd2
  have s1 := sB.mono r2.ex r2.wk
  obtain ⟨a', vs, g1, g2, g3, g4⟩ := s1.sl.at_ i _ ho
  rw [h1'] at g1
  cases g1
  obtain ⟨b, rfl, kb⟩ := tup_key r2.da
  have few : vs.length < sizeLine := by
    rw [imK_len g4, List.length_map, List.length_zip]
    exact Nat.lt_of_le_of_lt (Nat.le_trans (Nat.min_le_left ..) lz) (by decide)
  refine ⟨a, _, rfl, DPut.t g3 (hid_some kb).2 few, ?_⟩
  refine k O H0 σ _ ?_ D nx rt
  have inO : a ∈ W ++ O := List.mem_append_right _ g2
  have nW := (s1.sl.ok a g2).1
  have same : hid (W ++ O) (upd H2 a (.dT (putK vs (keyOf s') v))) = hid (W ++ O) H2 := hid_upd_in inO
  have iv : Im X.K (hid (W ++ O) H2) v (fr q') := ((r.da.mono r2.ex).im_of rfl).mono (tk_clean s1.sl.okk)
  refine ⟨⟨fun j c q => ?_, fun c mc => ?_, fun c mc => ?_, by simpa using s1.sl.len⟩, s1.new, ?_, fun j k c c' z k1 k2 o1 o2 e1 e2 => ?_⟩
  · by_cases hj : i = j
    · subst hj
      by_cases lt : i < ρ.length
      · rw [List.getElem?_set_self lt] at q
        cases q
        exact ⟨a, _, h1', g2, upd_same, by rw [same]; exact kv_putK iv g4 m nd l⟩
      · rw [List.getElem?_eq_none (by simpa using lt)] at q
        cases q
    · rw [List.getElem?_set_ne hj] at q
      have z := s1.sl.at_ j c q
      have apart : c.isOwn = true → ∀ y, σ[j]? = some (some (.ref y)) → y ≠ a := fun oc y ey e => by
        subst e
        exact hj (s1.inj i j _ c y ho q rfl oc h1' ey)
      cases c with
      | un => trivial
      | da d =>
        obtain ⟨u, z1, z2⟩ := z
        exact ⟨u, z1, by rw [same]; exact z2⟩
      | own es =>
        obtain ⟨y, ys, z1, z2, z3, z4⟩ := z
        exact ⟨y, ys, z1, z2, by rw [upd_ne (apart rfl y z1)]; exact z3, by rw [same]; exact z4⟩
      | dic es =>
        obtain ⟨y, ys, z1, z2, z3, z4⟩ := z
        exact ⟨y, ys, z1, z2, by rw [upd_ne (apart rfl y z1)]; exact z3, by rw [same]; exact z4⟩
      | pin y es => exact ⟨z.1, by rw [same]; exact z.2⟩
      | scr y ns => exact ⟨z.1, by rw [same]; exact z.2⟩
      | well => exact z
  · obtain ⟨u, w', z, q, gd⟩ := s1.sl.wk c mc
    exact ⟨u, w', z, by rw [upd_ne fun e => nW (by rw [← e]; exact mc)]; exact q, gd⟩
  · obtain ⟨n, o, q, so⟩ := s1.sl.ok c mc
    refine ⟨n, ?_⟩
    by_cases e : c = a
    · rw [e]
      exact ⟨_, upd_same, trivial⟩
    · rw [upd_ne e]
      exact ⟨o, q, so⟩
  · rw [hid_upd_out nW]
    refine Ex.mut s1.ex ?_
    rw [hid_out nW]
    exact s.new a h2
  · have back : ∀ (j : Nat) (c : Cell), (ρ.set i (dicC ks (qs.set (ks.idxOf s') q')))[j]? = some c → c.isOwn = true → ∃ c0 : Cell, ρ[j]? = some c0 ∧ c0.isOwn = true := fun j c q o => by
      by_cases hj : i = j
      · subst hj
        exact ⟨_, ho, rfl⟩
      · rw [List.getElem?_set_ne hj] at q
        exact ⟨c, q, o⟩
    obtain ⟨c1, k1, o1⟩ := back j c k1 o1
    obtain ⟨c2, k2, o2⟩ := back k c' k2 o2
    exact s1.inj j k c1 c2 z k1 k2 o1 o2 e1 e2
/-- d = {k: v for k in a list of sections} -/
theorem r_dicNew (i : Nat) {tg iter kx vx : Expr} {scope : Scope} {own : List (Str × Nat)} {j1 : Nat} {lpos py : Pos} {q0 : Rat} (hu : X.A.units < cLine) (hi : ITD X W ρ 0 tg iter (ks.map (nT .key))) (ok : BlkOk X.N X.env.scope scope own) (hg : Bk X scope fun Y => PG Y tg ((Tgt.nm j1).g X.K)) (hj : j1 ∈ own.map (·.2))
    (hk : ∀ s' ∈ ks, Bk X scope fun Y => ED Y W ((Tgt.nm j1).put (nT .key s') (wipeC ρ (own.map (·.2)))) 0 kx (nT .key s')) (he : ∀ s' ∈ ks, Bk X scope fun Y => ED Y W ((Tgt.nm j1).put (nT .key s') (wipeC ρ (own.map (·.2)))) 0 vx (fr q0)) (ndk : ks.Nodup) (lz : ks.length ≤ 90000)
    (k : R X W (ρ.set i (dicC ks (ks.map fun _ => q0))) rest N Rt) (hN : X.N.Nodup) (hc : X.calm = true := by rfl) (hy : X.N[i]? = some x := by rfl) (hx : Loc X.env.scope x := by first | exact Or.inl rfl | exact Or.inr rfl) (hs : swapsWith (.DictComp kx vx [⟨tg, iter, [], 0⟩] scope lpos) (some (.Name x py)) pos.line X.env = pure false := by rfl)
    (hf : X.fn x = true ∨ X.env.scope.names.lookup x = some .local := by first | exact .inl rfl | exact .inr rfl) (hfold : ∀ x, foldedSetIterable iter X.env x = pure x := by intro _; rfl) :
    R X W ρ (.Assign [.Name x py] (.DictComp kx vx [⟨tg, iter, [], 0⟩] scope lpos) pos :: rest) N Rt := fun O H0 σ H s D nx rt => by
  refine ⟨_, pss_cons (ps_set hN hy hx (pe_dcT hu hc hN iv_pi ok hg (tk := bE X scope kx) (tv := bE X scope vx) bE_ok bE_ok hfold) hs hf) svs_pss, ?_⟩
  refine hi O σ H s.sl _ fun J Ha ds1 pe walk _ e1 wk1 => ?_
  subst pe
  intro Dd nD
  have nW : Dd ∉ W := new_out wk1 nD
  have sA := s.mono e1 wk1
  -- what stands at the new dict behind n turns
  let Lv2 : Nat → Hp → Prop := fun n Hb => Ex (hid W Ha) (hid W Hb) ∧ WOk W Hb ∧ ∃ vs, Hb Dd = some (.dT vs) ∧ ImK X.K (hid W Hb) vs (((ks.take n).zip ((ks.take n).map fun _ => q0)).map kvD)
  have keep : ∀ {n : Nat} {Hb Hc : Hp}, Lv2 n Hb → Ex (hid W Hb) (hid W Hc) → WOk W Hc → Lv2 n Hc := fun {n Hb Hc} ⟨a1, a2, vs, a3, a4⟩ ex wk => ⟨a1.trans ex, wk, vs, (hid_some (ex Dd _ (by rw [hid_out nW]; exact a3))).2, a4.mono ex.tk⟩
  have len1 : (ks.map (nT .key)).length = ks.length := List.length_map ..
  rw [show Wk X.K J (hid W Ha) (ks.map (nT .key)) = Walk J ks.length (fun H => Ex (hid W Ha) H) (YD X.K (hid W Ha) (ks.map (nT .key))) from by unfold Wk; rw [len1]] at walk
  refine ⟨fun n m Hb => m = ks.length - n ∧ n ≤ ks.length ∧ Lv2 n Hb, ⟨ks.length, by simp, Nat.zero_le _, hid_new nD, wok_upd wk1 nD, [], upd_same, .nil⟩, ?_⟩
  rintro n m Hb ⟨rfl, hn, L⟩
  have G : Ex (hid W Ha) Hb := L.1.trans (hid_le W Hb)
  by_cases lt : n < ks.length
  · refine .inr ⟨walk.goes n Hb lt G, Lv2 (n + 1), fun Hc L2 => ⟨ks.length - (n + 1), by omega, rfl, lt, L2⟩, fun y Hc yl => ?_⟩
    have yd := walk.yields n Hb y Hc lt G yl
    have sB : Sl X.K W O Hb σ ρ := sA.sl.mono L.1 L.2.1
    have sw := sB.wipe (own.map (·.2))
    have fits : ∀ d ∈ ks.map (nT .key), (Tgt.nm j1).fits d = true := fits_map fun _ => rfl
    have js : ∀ j ∈ (Tgt.nm j1).js, j ∈ own.map (·.2) := fun j mj => by
      rw [List.mem_singleton.mp mj]
      exact hj
    refine tgt_ok sw yd (L.1.tk.trans (tk_clean sw.okk)) fits (fun τ Hd d ed sd xd wd _ => ⟨?_, ?_⟩) wipe_set
    · rw [wd _ js, wipe_wipe]
    obtain ⟨s', es, rfl⟩ := get_map ed
    have ms := List.mem_of_getElem? es
    have L4 : Lv2 n Hd := keep L (hid_exH xd) sd.wk
    intro bs bH bC bcl bfp
    refine hk s' ms bs bH bC bcl bfp O τ Hd sd _ fun kv He pk1 pk2 rk => ?_
    subst pk2
    have L5 := keep L4 rk.ex rk.wk
    intro bs bH bC bcl bfp
    refine he s' ms bs bH bC bcl bfp O τ He (sd.mono rk.ex rk.wk) _ fun vv Hf pv1 pv2 rv => ?_
    subst pv2
    obtain ⟨x1, x2, vs, x3, x4⟩ := keep L5 rv.ex rv.wk
    obtain ⟨b, rfl, kb⟩ := tup_key (rk.da.mono rv.ex)
    have few : vs.length < sizeLine := by
      rw [imK_len x4, List.length_map, List.length_zip, List.length_take]
      exact Nat.lt_of_le_of_lt (show min (min n ks.length) _ ≤ 90000 by omega) (by decide)
    refine ⟨vs, keyOf s', b, rfl, x3, (hid_some kb).2, few, ?_⟩
    have x3' : hid W Hf Dd = some (.dT vs) := by
      rw [hid_out nW]
      exact x3
    have new : s' ∉ ks.take n := fun mt => by
      obtain ⟨i2, e2⟩ := List.getElem?_of_mem mt
      have l2 : i2 < n := by
        have := (List.getElem?_eq_some_iff.mp e2).1
        rw [List.length_take] at this
        omega
      rw [List.getElem?_take_of_lt l2] at e2
      have pw := List.pairwise_iff_getElem.mp (List.nodup_iff_pairwise_ne.mp ndk) i2 n (by omega) lt l2
      rw [(List.getElem?_eq_some_iff.mp e2).2, (List.getElem?_eq_some_iff.mp es).2] at pw
      exact pw rfl
    rw [putK_new vv (kv_none x4 new)]
    refine ⟨?_, fun c mc => ?_, _, upd_same, ?_⟩
    · rw [hid_upd_out nW]
      exact Ex.mut x1 (by rw [hid_out nW]; exact nD)
    · obtain ⟨u, w', z, q, gd⟩ := x2 c mc
      exact ⟨u, w', z, by rw [upd_ne fun e => nW (by rw [← e]; exact mc)]; exact q, gd⟩
    · rw [hid_upd_out nW, take_succ_get es, List.map_append, List.zip_append (by rw [List.length_map]), List.map_append]
      have tk := tk_dic (K := X.K) (ys := vs ++ [(keyOf s', vv)]) x3'
      exact Paired.snoc (x4.mono tk) ⟨rfl, (rv.da.im_of rfl).mono tk⟩
  · have en : n = ks.length := by omega
    subst en
    refine .inl ⟨walk.stops Hb G, ?_⟩
    obtain ⟨x1, x2, vs, x3, x4⟩ := L
    rw [List.take_length] at x4
    have sB := sA.mono x1 x2
    have s5 : S3 X.K W (Dd :: O) H0 Hb σ ρ := sA.push x1 x2 nD x3 trivial
    refine k (Dd :: O) H0 _ Hb (s5.take (c := dicC ks (ks.map fun _ => q0)) (List.mem_cons_self ..) ⟨Dd, vs, rfl, List.mem_cons_self .., x3, x4.mono (tk_clean s5.sl.okk)⟩ (sA.not_new nD) i) D nx rt
end
end K19
end

section
set_option Elab.async false
set_option linter.all false
set_option maxRecDepth 100000
set_option maxHeartbeats 4000000
namespace K19
open PySem PySem.Spec PyProof.Rows L2
theorem _root_.L2.Room.u1 {k : Nat} {A : Around} (h : Room k A) : A.units + 1 < cLine := by
  have := h.un
  omega
/-! ### sums by places -/
def addAll (zs : List (Nat × Rat)) (r : List Rat) : List Rat := zs.foldl (fun r z => addAt r z.1 z.2) r
theorem addAll_len : ∀ (zs : List (Nat × Rat)) (r : List Rat), (addAll zs r).length = r.length
  | [], _ => rfl
  | z :: zs, r => by
    show (addAll zs (addAt r z.1 z.2)).length = _
    rw [addAll_len zs, addAt_len]
theorem addAll_snoc (zs : List (Nat × Rat)) (z : Nat × Rat) (r : List Rat) : addAll (zs ++ [z]) r = addAt (addAll zs r) z.1 z.2 := by
  unfold addAll
  rw [List.foldl_append]
  rfl
theorem addAll_dn {N M : Nat} : ∀ (zs : List (Nat × Rat)) (r : List Rat) (B : Nat), (∀ z ∈ zs, Dn N M z.2) → (∀ q ∈ r, Dn N B q) → ∀ q ∈ addAll zs r, Dn N (B + zs.length * M) q
  | [], r, B, _, hr, q, m => (hr q m).mono (by omega)
  | z :: zs, r, B, hp, hr, q, m => by
    have h := addAll_dn zs (addAt r z.1 z.2) (B + M) (fun y my => hp y (List.mem_cons_of_mem _ my)) (fun q mq => ?_) q m
    · refine h.mono ?_
      rw [List.length_cons, Nat.succ_mul]
      omega
    · rcases addAt_mem mq with mq | ⟨rfl, lt⟩
      · exact (hr q mq).mono (by omega)
      · refine Dn.add (hr _ ?_) (hp z (List.mem_cons_self ..))
        rw [List.getD_eq_getElem?_getD, List.getElem?_eq_getElem lt]
        exact List.getElem_mem ..
/-- the places of what a section says -/
def mp (os c less : List Nat) (z : List Nat × Rat) : Nat × Rat := (placeN os less (part z.1 c less), z.2)
def margQ (os c less : List Nat) (r : List Rat) : List Rat := addAll (((sects os c).zip r).map (mp os c less)) ((sects os less).map fun _ => 0)
theorem part_vs {os c less s : List Nat} (h : Vs os c s) (hi : ∀ i ∈ less, i ∈ c) : Vs os less (part s c less) := by
  refine ⟨by unfold part; rw [List.length_map], fun z m => ?_⟩
  obtain ⟨k, e⟩ := List.getElem?_of_mem m
  rw [List.getElem?_zip_eq_some] at e
  unfold part at e
  have e2 := e.2
  rw [List.getElem?_map, e.1] at e2
  have e2 : s.getD (c.idxOf z.1) 0 = z.2 := Option.some.inj e2
  have lt := List.idxOf_lt_length_of_mem (hi z.1 (List.mem_of_getElem? e.1))
  rw [← e2]
  refine h.2 (z.1, s.getD (c.idxOf z.1) 0) (List.mem_of_getElem? (i := c.idxOf z.1) ?_)
  rw [List.getElem?_zip_eq_some]
  exact ⟨by rw [List.getElem?_eq_getElem lt, List.getElem_idxOf lt], getD_some (by rw [h.1]; exact lt)⟩
section
variable {P : Program} {w : World} {K : PySem.W.Frag} {mg : Str → Option Value} {base : Heap}
def Smarg : List D → D → Prop := fun ds d => ∃ m N M os cs c less r, 0 < N ∧ N ≤ 2 ^ 240 ∧ M ≤ 2 ^ 240 ∧ 64 * M ≤ 2 ^ 240 ∧ ScV os cs ∧ c ∈ cs ∧ (∀ i ∈ less, i ∈ c) ∧ less.length ≤ 6 ∧ r.length = (sects os c).length ∧ (∀ q ∈ r, Dn N M q) ∧
  ds = [scD os cs, row r, nT .lot c, nT m less] ∧ d = row (margQ os c less r)
theorem zero_len (os less : List Nat) : ((sects os less).map fun _ => (0 : Rat)).length = (sects os less).length := List.length_map ..
theorem f_marginal_by (C : Ct K mg) : Fc P w K mg base 3 "marginal_by" (spD K Smarg) := by
  refine mk_D (k := 2) C 22 rfl ["scenario", "row", "lot", "less", "sums", "section", "number", "part"] ["scenario", "row", "lot", "less"] ⟨rfl, rfl, rfl, by decide +kernel, rfl, by decide +kernel, by decide +kernel⟩ (fun _ _ _ _ _ _ us hl => match us, hl with | [_, _, _, _], _ => rfl) (fun ds d s => ?_) fun f cdv A outer s H E hr nd ds d sd => ?_
  -- slots: 0=scenario 1=row 2=lot 3=less 4=sums 5=section 6=number 7=part
  · obtain ⟨m, N, M, os, cs, c, less, r, _, _, _, _, _, _, _, _, _, _, rfl, _⟩ := s
    rfl
  obtain ⟨m, N, M, os, cs, c, less, r, h0, hN, hM, hM2, V, mc, hi, hl, hr2, hq, rfl, rfl⟩ := sd
  have ho : ∀ o ∈ os, o ≤ 4 := fun o m => (V.o2 o m).2
  have hL := V.lot c mc
  have hc3 := V.c3 c mc
  have hS := V.sl mc
  have lessOk : ∀ i ∈ less, i < os.length := fun i m => hL.1.2 i (hi i m)
  have sl : (sects os less).length ≤ 4096 := Nat.le_trans (sects_len ho less) (Nat.pow_le_pow_right (by decide) hl)
  have call2 : Ssects [scD os cs, nT m less] (.lst ((sects os less).map (nT .key))) := ⟨m, os, cs, less, ho, lessOk, hl, rfl, rfl⟩
  have zl : ((sects os c).zip r).length ≤ 64 := zip_len hS
  refine r_dicNew 4 (ks := sects os less) (q0 := 0) (own := [("section", 5)]) (j1 := 5) hr.u0 (it_listD (e_callD (f_sections_by C) hr (ad_cons (e_name 0 rfl) (ad_one (e_name 3 rfl))) call2)) (blkOk_by rfl) (fun _ _ _ _ _ => pgN 5 nd) (by decide) (fun s' ms _ _ _ _ _ => e_name 5 rfl) (fun s' ms _ _ _ _ _ => e_zero C.g) (sects_nodup os less) (by omega) ?_ nd
  refine r_for (t := .pr 5 6) (ds := ((sects os c).zip r).map (prD (nT .key) fr)) ?_ (fun d md => ?_) (pgP 5 6 nd) (fun i ρ => ∃ c5 c6 c7 : Cell, c5.dull = true ∧ c6.dull = true ∧ ρ = [.da (scD os cs), .da (row r), .da (nT .lot c), .da (nT m less), dicC (sects os less) (addAll ((((sects os c).zip r).map (mp os c less)).take i) ((sects os less).map fun _ => 0)), c5, c6, c7]) ⟨.un, .un, .un, rfl, rfl, rfl⟩ ?_ ?_ rfl
  · rw [← zipD_map]
    exact it_zip C.g (e_callD (f_sections_by C) hr (ad_cons (e_name 0 rfl) (ad_one (e_name 2 rfl))) (sects_call (K := K) V mc)) (e_name 1 rfl) rfl rfl
  · obtain ⟨z, _, rfl⟩ := List.mem_map.mp md
    rfl
  · rintro i d ρ' hi' ⟨c5, c6, c7, h5, h6, rfl⟩
    obtain ⟨z, e, rfl⟩ := get_map hi'
    have hm := List.mem_of_getElem? e
    have lt := (List.getElem?_eq_some_iff.mp e).1
    have vs : Vs os c z.1 := sects_mem.mp (List.of_mem_zip hm).1
    have vp : Vs os less (part z.1 c less) := part_vs vs hi
    have mpz := sects_mem.mpr vp
    have dz := hq z.2 (List.of_mem_zip hm).2
    have e2 : (((sects os c).zip r).map (mp os c less))[i]? = some (mp os c less z) := by rw [List.getElem?_map, e]; rfl
    have len : (sects os less).length = (addAll ((((sects os c).zip r).map (mp os c less)).take i) ((sects os less).map fun _ => 0)).length := by rw [addAll_len, zero_len]
    have dn : Dn N (64 * M) ((addAll ((((sects os c).zip r).map (mp os c less)).take i) ((sects os less).map fun _ => 0)).getD ((sects os less).idxOf (part z.1 c less)) 0) := by
      have lt2 : (sects os less).idxOf (part z.1 c less) < (addAll ((((sects os c).zip r).map (mp os c less)).take i) ((sects os less).map fun _ => 0)).length := by
        rw [← len]
        exact List.idxOf_lt_length_of_mem mpz
      refine (addAll_dn (N := N) (M := M) _ _ 0 (fun y my => ?_) (fun q mq => ?_) _ (by rw [List.getD_eq_getElem?_getD, List.getElem?_eq_getElem lt2]; exact List.getElem_mem lt2)).mono ?_
      · obtain ⟨y', my', rfl⟩ := List.mem_map.mp (List.mem_of_mem_take my)
        exact hq _ (List.of_mem_zip my').2
      · obtain ⟨_, _, rfl⟩ := List.mem_map.mp mq
        exact Dn.zero h0
      · rw [Nat.zero_add, List.length_take, List.length_map]
        exact Nat.mul_le_mul_right _ (by omega)
    refine ⟨fun j hj => ?_, ?_⟩
    · rcases List.mem_cons.mp hj with e | hj
      · subst e
        exact ⟨c5, rfl, (dull_no h5).1⟩
      · cases List.mem_singleton.mp hj
        exact ⟨c6, rfl, (dull_no h6).1⟩
    · refine r_setD 7 (d := nT .key (part z.1 c less)) (e_callD (f_part_of C) hr (ad_cons (e_name 5 rfl) (ad_cons (e_name 2 rfl) (ad_one (e_name 3 rfl)))) ⟨.key, m, z.1, c, less, hi, vs.1, by omega, rfl, rfl⟩) ?_ nd
      refine r_dicSet 4 hr.u1 rfl (e_callD (f_plus C) hr (ad_cons (e_dicGet 4 hr.u1 rfl (e_name 7 rfl) mpz len) (ad_one (e_name 6 rfl))) ⟨_, _, dn.bq hN hM2, dz.bq hN hM, rfl, rfl⟩) (e_name 7 rfl) mpz (sects_nodup os less) len (by omega) (r_nil ⟨.da (nT .key z.1), .da (fr z.2), .da (nT .key (part z.1 c less)), rfl, rfl, ?_⟩)
      rw [take_succ_get e2, addAll_snoc]
      unfold addAt
      rw [sects_idx vp]
      rfl
  · rintro ρ' ⟨c5, c6, c7, h5, h6, rfl⟩
    have et : (((sects os c).zip r).map (mp os c less)).take (((sects os c).zip r).map (prD (nT .key) fr)).length = ((sects os c).zip r).map (mp os c less) := List.take_of_length_le (by rw [List.length_map, List.length_map]; exact Nat.le_refl _)
    rw [et]
    have len : (sects os less).length = (margQ os c less r).length := by
      unfold margQ
      rw [addAll_len, zero_len]
    refine r_retD (d := row (margQ os c less r)) (ED.lq (e_tuple C.g (e_lcA0 (t := .nm 5) (own := [("section", 5)]) (xs := sects os less) (g0 := nT .key) (gg := fun s' => fr ((margQ os c less r).getD ((sects os less).idxOf s') 0)) rfl nd (it_listD (e_callD (f_sections_by C) hr (ad_cons (e_name 0 rfl) (ad_one (e_name 3 rfl))) call2)) (blkOk_by rfl) (fun _ _ _ _ _ => pgN 5 nd) (by decide) (fun _ _ => rfl) (fun x _ y _ => nT_inj x y) (fun s' ms _ _ _ _ _ => e_dicGet (ks := sects os less) (qs := margQ os c less r) 4 hr.u1 rfl (e_name 5 rfl) ms len) (fun _ _ => rfl) (by omega))) ?_) rfl rfl
    have all : ((sects os less).map fun s' => fr ((margQ os c less r).getD ((sects os less).idxOf s') 0)) = (margQ os c less r).map fr := by
      apply List.ext_getElem?
      intro k
      rw [List.getElem?_map, List.getElem?_map]
      cases e : (sects os less)[k]? with
      | none =>
        have h1 := List.getElem?_eq_none_iff.mp e
        rw [List.getElem?_eq_none (by omega)]
        rfl
      | some s' =>
        obtain ⟨i1, i2⟩ := sects_inv os less k s' e
        have lk := (List.getElem?_eq_some_iff.mp e).1
        have lk2 : k < (margQ os c less r).length := by omega
        rw [List.getElem?_eq_getElem lk2]
        show some (fr _) = some (fr _)
        rw [sects_idx i1, i2, List.getD_eq_getElem?_getD, List.getElem?_eq_getElem lk2]
        rfl
    rw [all]
    exact .any (LqL.refl _)

def shb (a b : List Nat) : List Nat := a.filter fun i => b.contains i
/-- families that hold -/
structure FmV (os : List Nat) (cs : List (List Nat)) (fam : List (List Rat)) (N M : Nat) : Prop where
  n0 : 0 < N
  n1 : N ≤ Cap
  m1 : 64 * M ≤ Cap
  len : fam.length = cs.length
  ch : ∀ (i : Nat) (c : List Nat) (r : List Rat), cs[i]? = some c → fam[i]? = some r → Chs r ∧ r.length = (sects os c).length ∧ ∀ q ∈ r, Dn N M q
  agr : ∀ (i j : Nat) (c1 : List Nat) (r1 : List Rat) (c2 : List Nat) (r2 : List Rat), cs[i]? = some c1 → fam[i]? = some r1 → cs[j]? = some c2 → fam[j]? = some r2 → margQ os c1 (shb c1 c2) r1 = margQ os c2 (shb c1 c2) r2
def Sagree : List D → D → Prop := fun ds d => ∃ N M os cs fam i j, ScV os cs ∧ FmV os cs fam N M ∧ i < cs.length ∧ j < cs.length ∧ ds = [scD os cs, rows fam, nD i, nD j] ∧ d = .bl true
theorem shb_mem {a b : List Nat} {i : Nat} (h : i ∈ shb a b) : i ∈ a ∧ i ∈ b := by
  obtain ⟨h1, h2⟩ := List.mem_filter.mp h
  exact ⟨h1, by rw [List.contains_eq_mem] at h2; exact of_decide_eq_true h2⟩
theorem f_agree (C : Ct K mg) : Fc P w K mg base 4 "agree" (spD K Sagree) := by
  refine mk_D (k := 3) C 24 rfl ["scenario", "family", "one", "two", "first", "second", "both"] ["scenario", "family", "one", "two"] ⟨rfl, rfl, rfl, by decide +kernel, rfl, by decide +kernel, by decide +kernel⟩ (fun _ _ _ _ _ _ us hl => match us, hl with | [_, _, _, _], _ => rfl) (fun ds d s => ?_) fun f cdv A outer s H E hr nd ds d sd => ?_
  -- slots: 0=scenario 1=family 2=one 3=two 4=first 5=second 6=both
  · obtain ⟨N, M, os, cs, fam, i, j, _, _, _, _, rfl, _⟩ := s
    rfl
  obtain ⟨N, M, os, cs, fam, i, j, V, F, li, lj, rfl, rfl⟩ := sd
  have ei := List.getElem?_eq_getElem li
  have ej := List.getElem?_eq_getElem lj
  have lfi : i < fam.length := by
    rw [F.len]
    exact li
  have lfj : j < fam.length := by
    rw [F.len]
    exact lj
  have fi := List.getElem?_eq_getElem lfi
  have fj := List.getElem?_eq_getElem lfj
  have mi := List.mem_of_getElem? ei
  have mj := List.mem_of_getElem? ej
  have h1 := F.ch i _ _ ei fi
  have h2 := F.ch j _ _ ej fj
  have hA := F.agr i j _ _ _ _ ei fi ej fj
  have ci := V.c3 _ mi
  have cj := V.c3 _ mj
  have sl : (shb cs[i] cs[j]).length ≤ 6 := Nat.le_trans (List.length_filter_le ..) (by omega)
  have cN : N ≤ 2 ^ 240 := Nat.le_trans F.n1 cap_le
  have cM : M ≤ 2 ^ 240 := Nat.le_trans (Nat.le_trans (Nat.le_mul_of_pos_left M (by decide)) F.m1) cap_le
  have cM2 : 64 * M ≤ 2 ^ 240 := Nat.le_trans F.m1 cap_le
  refine r_pair 4 5 1 1 (P1 := fun z => z = nT .lot cs[i]) (P2 := fun z => z = nT .lot cs[j]) (e_at (g := nT .lot) (e_cs (e_name 0 rfl)) (e_name 2 rfl) ei) (e_at (g := nT .lot) (e_cs (e_name 0 rfl)) (e_name 3 rfl) ej) (fun d1 d2 e1 e2 => ?_) nd
  subst e1 e2
  refine r_setD 6 (d := nT .any (shb cs[i] cs[j])) (e_callD (f_shared_by C) hr (ad_cons (e_name 4 rfl) (ad_one (e_name 5 rfl))) ⟨.lot, .lot, cs[i], cs[j], by omega, rfl, rfl⟩) ?_ nd
  refine r_retD (d := .bl true) (ED.eq (e_cmpD (op_eqD hr.u64) (e_callD (f_marginal_by C) hr (ad_cons (e_name 0 rfl) (ad_cons (e_at (g := row) (e_name 1 rfl) (e_name 2 rfl) fi) (ad_cons (e_name 4 rfl) (ad_one (e_name 6 rfl))))) ⟨.any, N, M, os, cs, cs[i], shb cs[i] cs[j], fam[i], F.n0, cN, cM, cM2, V, mi, fun k mk => (shb_mem mk).1, sl, h1.2.1, h1.2.2, rfl, rfl⟩)
    (e_callD (f_marginal_by C) hr (ad_cons (e_name 0 rfl) (ad_cons (e_at (g := row) (e_name 1 rfl) (e_name 3 rfl) fj) (ad_cons (e_name 5 rfl) (ad_one (e_name 6 rfl))))) ⟨.any, N, M, os, cs, cs[j], shb cs[i] cs[j], fam[j], F.n0, cN, cM, cM2, V, mj, fun k mk => (shb_mem mk).2, sl, h2.2.1, h2.2.2, rfl, rfl⟩) (od_eq ((sh_row _).ok (by decide)) ((sh_row _).ok (by decide)))) ?_) rfl rfl
  rw [hA, eqv_self (sh_row _)]
def Sfm : List D → D → Prop := fun ds d => ∃ N M os cs fam, ScV os cs ∧ FmV os cs fam N M ∧ ds = [scD os cs, rows fam] ∧ d = .bl true
theorem rgF_map (i n : Nat) : rgF ((i : Int) + 1) n = ((List.range n).map fun k => i + 1 + k).map nD := by
  unfold rgF
  rw [List.map_map]
  refine List.map_congr_left fun k _ => ?_
  show D.int _ = D.int _
  congr 1
theorem f_is_agreed (C : Ct K mg) : Fc P w K mg base 5 "is_agreed" (spD K Sfm) := by
  refine mk_D (k := 4) C 25 rfl ["scenario", "family", "many", "one", "two"] ["scenario", "family"] ⟨rfl, rfl, rfl, by decide +kernel, rfl, by decide +kernel, by decide +kernel⟩ (fun _ _ _ _ _ _ us hl => match us, hl with | [_, _], _ => rfl) (fun ds d s => ?_) fun f cdv A outer s H E hr nd ds d sd => ?_
  -- slots: 0=scenario 1=family 2=many 3=one 4=two
  · obtain ⟨N, M, os, cs, fam, _, _, rfl, _⟩ := s
    rfl
  obtain ⟨N, M, os, cs, fam, V, F, rfl, rfl⟩ := sd
  have h8 := V.c8
  refine r_setD 2 (d := nD cs.length) (ED.eq (e_len C.g (e_cs (e_name 0 rfl)) rfl) (by rw [List.length_map]; rfl)) ?_ nd
  have e3 : ((List.range cs.length).flatMap fun i => (((List.range (cs.length - (i + 1))).map fun k => i + 1 + k).filter fun _ => true).map fun _ => D.bl true) = ((List.range cs.length).flatMap fun i => (((List.range (cs.length - (i + 1))).map fun k => i + 1 + k).filter fun _ => true).map fun _ => true).map .bl := by
    rw [List.map_flatMap]
    simp only [List.map_map]
    rfl
  have e4 : (((List.range cs.length).flatMap fun i => (((List.range (cs.length - (i + 1))).map fun k => i + 1 + k).filter fun _ => true).map fun _ => true)).all id = true := by
    rw [List.all_eq_true]
    intro x m
    obtain ⟨_, _, m⟩ := List.mem_flatMap.mp m
    obtain ⟨_, _, rfl⟩ := List.mem_map.mp m
    rfl
  refine r_retD (d := .bl true) (ED.eq (e_all C.g rfl (bs := (List.range cs.length).flatMap fun i => (((List.range (cs.length - (i + 1))).map fun k => i + 1 + k).filter fun _ => true).map fun _ => true) ?_) (congrArg D.bl e4)) rfl rfl
  rw [← e3]
  refine e_lc2A (t := .nm 3) (t1 := .nm 4) (own := [("one", 3), ("two", 4)]) (vs1 := [4]) (g0 := nD) (ys := fun i => (List.range (cs.length - (i + 1))).map fun k => i + 1 + k) (g1 := nD) (p2 := fun _ _ => true) (g2 := fun _ _ => .bl true) rfl nd (it_rangeD C.g (n := cs.length) (e_name 2 rfl) (by omega)) (blkOk_by rfl) (fun _ _ _ _ _ => pgN 3 nd) (fun _ _ _ _ _ => pgN 4 nd) (by decide) (by decide) (fun _ _ => rfl) (by decide) (fun x _ y _ => nD_inj x y) (fun _ _ x _ y _ => nD_inj x y)
    (fun i mi _ _ _ _ _ => ?_) (fun _ _ _ _ => rfl) (fun i mi j mj _ _ _ _ _ => ts_nil) (fun i mi j mj _ _ _ _ _ _ => ?_) (fun _ _ _ _ _ => rfl) ?_
  · have li := List.mem_range.mp mi
    rw [← rgF_map]
    have en : ((cs.length : Int) - ((i : Int) + 1)).toNat = cs.length - (i + 1) := by omega
    rw [← en]
    exact it_range2D C.g (e_add (e_name (d := nD i) 3 rfl) e_int) (e_name (d := nD cs.length) 2 rfl) (by omega) (by omega)
  · have li := List.mem_range.mp mi
    obtain ⟨k, mk, rfl⟩ := List.mem_map.mp mj
    have lk := List.mem_range.mp mk
    exact e_callD (f_agree C) hr (ad_cons (e_name 0 rfl) (ad_cons (e_name 1 rfl) (ad_cons (e_name 3 rfl) (ad_one (e_name 4 rfl))))) ⟨N, M, os, cs, fam, i, i + 1 + k, V, F, li, by omega, rfl, rfl⟩
  · refine Nat.le_trans (flat_len2 (k := 8) _ fun i mi => ?_) ?_
    · rw [List.length_map, List.length_range]
      omega
    · rw [List.length_range]
      omega
def Scfam : List D → D → Prop := fun ds d => ∃ N M os cs fam, ScV os cs ∧ FmV os cs fam N M ∧ ds = [scD os cs, rows fam] ∧ d = .non
theorem f_check_agreed (C : Ct K mg) : Fc P w K mg base 6 "check_agreed" (spD K Scfam) := by
  refine mk_D (k := 5) C 28 rfl ["scenario", "family"] ["scenario", "family"] ⟨rfl, rfl, rfl, by decide +kernel, rfl, by decide +kernel, by decide +kernel⟩ (fun _ _ _ _ _ _ us hl => match us, hl with | [_, _], _ => rfl) (fun ds d s => ?_) fun f cdv A outer s H E hr nd ds d sd => ?_
  -- slots: 0=scenario 1=family
  · obtain ⟨N, M, os, cs, fam, _, _, rfl, _⟩ := s
    rfl
  obtain ⟨N, M, os, cs, fam, V, F, rfl, rfl⟩ := sd
  exact r_ifN (t_notD (k := true) (t_valD (e_callD (f_is_agreed C) hr (ad_cons (e_name 0 rfl) (ad_one (e_name 1 rfl))) ⟨N, M, os, cs, fam, V, F, rfl, rfl⟩))) (r_nil rfl)
theorem enumD_map {α : Type} (g : α → D) (xs : List α) : enumD (xs.map g) = ((List.range xs.length).zip xs).map (prD nD g) := by
  unfold enumD
  rw [List.length_map]
  exact zipD_map nD g _ _
theorem f_check_family (C : Ct K mg) : Fc P w K mg base 5 "check_family" (spD K Scfam) := by
  refine mk_D (k := 4) C 27 rfl ["scenario", "value", "index", "row"] ["scenario", "value"] ⟨rfl, rfl, rfl, by decide +kernel, rfl, by decide +kernel, by decide +kernel⟩ (fun _ _ _ _ _ _ us hl => match us, hl with | [_, _], _ => rfl) (fun ds d s => ?_) fun f cdv A outer s H E hr nd ds d sd => ?_
  -- slots: 0=scenario 1=value 2=index 3=row
  · obtain ⟨N, M, os, cs, fam, _, _, rfl, _⟩ := s
    rfl
  obtain ⟨N, M, os, cs, fam, V, F, rfl, rfl⟩ := sd
  refine r_ifN (t_notD (k := true) (t_valD (e_callD (f_is_tuple_of C) hr (ad_cons (e_name 1 rfl) (ad_one (e_len C.g (e_cs (e_name 0 rfl)) rfl))) ⟨.any, fam.map row, by rw [List.length_map, List.length_map, F.len]; rfl, rfl⟩))) ?_
  refine r_for (t := .pr 2 3) (ds := ((List.range fam.length).zip fam).map (prD nD row)) ?_ (fun d md => ?_) (pgP 2 3 nd) (fun i ρ => ∃ c2 c3 : Cell, c2.dull = true ∧ c3.dull = true ∧ ρ = [.da (scD os cs), .da (rows fam), c2, c3]) ⟨.un, .un, rfl, rfl, rfl⟩ ?_ ?_ rfl
  · rw [← enumD_map]
    exact it_enum C.g (e_name (d := rows fam) 1 rfl) rfl
  · obtain ⟨z, _, rfl⟩ := List.mem_map.mp md
    rfl
  · rintro i d ρ' hi ⟨c2, c3, h2, h3, rfl⟩
    obtain ⟨z, e, rfl⟩ := get_map hi
    obtain ⟨e1, e2⟩ := List.getElem?_zip_eq_some.mp e
    have lt := (List.getElem?_eq_some_iff.mp e2).1
    rw [List.getElem?_range lt] at e1
    have e1 : i = z.1 := Option.some.inj e1
    have lc : i < cs.length := by
      rw [← F.len]
      exact lt
    have ec := List.getElem?_eq_getElem lc
    obtain ⟨g1, g2, g3⟩ := F.ch i _ _ ec e2
    refine ⟨fun j hj => ?_, ?_⟩
    · rcases List.mem_cons.mp hj with e | hj
      · subst e
        exact ⟨c2, rfl, (dull_no h2).1⟩
      · cases List.mem_singleton.mp hj
        exact ⟨c3, rfl, (dull_no h3).1⟩
    · refine r_ifN (t_notD (k := true) (t_valD (e_callD (f_is_chances C) hr (ad_cons (e_name (d := row z.2) 3 rfl) (ad_one (e_len C.g (e_callD (f_sections_by C) hr (ad_cons (e_name 0 rfl) (ad_one (e_at (g := nT .lot) (e_cs (e_name 0 rfl)) (e_name (d := nD z.1) 2 rfl) (by rw [← e1]; exact ec)))) (sects_call (K := K) V (List.mem_of_getElem? ec))) rfl))) ⟨z.2, g1, by rw [List.length_map, g2]; rfl, rfl⟩))) (r_nil ⟨.da (nD z.1), .da (row z.2), rfl, rfl, rfl⟩)
  · rintro ρ' ⟨c2, c3, h2, h3, rfl⟩
    exact r_nil rfl
def Sgv : List D → D → Prop := fun ds d => ∃ N M N' M' L os cs qs wins fam, ScV os cs ∧ GmV os cs qs wins ∧ FmV os cs fam N' M' ∧ 0 < N ∧ (∀ r ∈ paidQ qs wins, r.length ≤ L ∧ ∀ q ∈ r, Dn N M q) ∧ N ≤ Cap ∧ M ≤ Cap ∧ L ≤ 64 ∧ 8 * (L * (M * M')) ≤ Cap ∧ ds = [scD os cs, gmD qs wins, rows fam] ∧ d = fr (valQ (paidQ qs wins) fam)
theorem f_game_value (C : Ct K mg) : Fc P w K mg base 8 "game_value" (spD K Sgv) := by
  refine mk_D (k := 7) C 38 rfl ["scenario", "game", "family"] ["scenario", "game", "family"] ⟨rfl, rfl, rfl, by decide +kernel, rfl, by decide +kernel, by decide +kernel⟩ (fun _ _ _ _ _ _ us hl => match us, hl with | [_, _, _], _ => rfl) (fun ds d s => ?_) fun f cdv A outer s H E hr nd ds d sd => ?_
  -- slots: 0=scenario 1=game 2=family
  · obtain ⟨N, M, N', M', L, os, cs, qs, wins, fam, _, _, _, _, _, _, _, _, _, rfl, _⟩ := s
    rfl
  obtain ⟨N, M, N', M', L, os, cs, qs, wins, fam, V, G, F, h0, hp, c1, c2, cL, cm, rfl, rfl⟩ := sd
  have h8 := V.c8
  have l1 := G.l1
  have cM' : M' ≤ Cap := Nat.le_trans (Nat.le_mul_of_pos_left M' (by decide)) F.m1
  refine r_expr (e_callD (f_check_game C) hr (ad_cons (e_name 0 rfl) (ad_one (e_name 1 rfl))) ⟨os, cs, qs, wins, V, G, rfl, rfl⟩) ?_
  refine r_expr (e_callD (f_check_family C) hr (ad_cons (e_name 0 rfl) (ad_one (e_name 2 rfl))) ⟨N', M', os, cs, fam, V, F, rfl, rfl⟩) ?_
  refine r_expr (e_callD (f_check_agreed C) hr (ad_cons (e_name 0 rfl) (ad_one (e_name 2 rfl))) ⟨N', M', os, cs, fam, V, F, rfl, rfl⟩) ?_
  refine r_retD (e_callD (f_game_value_by C) hr (ad_cons (e_name 1 rfl) (ad_one (e_name 2 rfl))) ⟨N, M, N', M', L, qs, wins, fam, Nat.mul_pos h0 F.n0, hp, fun r mr q mq => ?_, c1, c2, F.n1, cM', by omega, by omega, fun x m => by have := G.wl V x m; omega, Nat.le_trans (Nat.mul_le_mul_right _ (by omega)) cm, Nat.le_trans (Nat.le_mul_of_pos_left _ (by decide)) cm, rfl, rfl⟩) rfl rfl
  obtain ⟨i, e⟩ := List.getElem?_of_mem mr
  have lt : i < cs.length := by
    rw [← F.len]
    exact (List.getElem?_eq_some_iff.mp e).1
  exact (F.ch i _ _ (List.getElem?_eq_getElem lt) e).2.2 q mq
end
end K19
end

section
set_option Elab.async false
set_option linter.all false
set_option maxRecDepth 100000
set_option maxHeartbeats 4000000
namespace K19
open PySem PySem.Spec PyProof.Rows L2
/-! ### tuples of ints of unlike length, sorted -/
def rk : Nat → List Int → Int
  | 0, _ => 0
  | _ + 1, [] => 0
  | n + 1, d :: r => (d + 1) * 9 ^ n + rk n r
def Dig (ns : List Int) : Prop := ∀ m ∈ ns, 0 ≤ m ∧ m < 8
theorem rk_bd : ∀ (n : Nat) (ns : List Int), Dig ns → 0 ≤ rk n ns ∧ rk n ns < 9 ^ n
  | 0, ns, _ => by
    unfold rk
    decide
  | n + 1, [], _ => by
    unfold rk
    exact ⟨Int.le_refl _, Int.pow_pos (by decide)⟩
  | n + 1, d :: r, h => by
    have hd := h d (List.mem_cons_self ..)
    obtain ⟨c0, c1⟩ := rk_bd n r fun m mm => h m (List.mem_cons_of_mem _ mm)
    have z := TS.num1 (P := 9 ^ n) (d := d + 1) (B := 9) c0 c1 (by omega) (by omega)
    unfold rk
    rw [Int.pow_succ]
    exact z
theorem rk_lt : ∀ (n : Nat) (ns ms : List Int), ns.length ≤ n → ms.length ≤ n → Dig ns → Dig ms → (rk n ns < rk n ms ↔ HT.lexLt ns ms = true)
  | 0, [], [], _, _, _, _ => by
    unfold rk HT.lexLt
    decide
  | 0, _ :: _, _, h, _, _, _ => by simp at h
  | 0, [], _ :: _, _, h, _, _ => by simp at h
  | n + 1, [], [], _, _, _, _ => by
    unfold rk HT.lexLt
    decide
  | n + 1, [], e :: q, _, hl, _, h => by
    have he := h e (List.mem_cons_self ..)
    obtain ⟨c0, c1⟩ := rk_bd n q fun m mm => h m (List.mem_cons_of_mem _ mm)
    have z := TS.num2 (P := 9 ^ n) (d := 0) (e := e + 1) (c := 0) (g := rk n q) (Int.le_refl _) (Int.pow_pos (by decide)) c0 (by omega)
    unfold rk HT.lexLt
    rw [Int.zero_mul, Int.zero_add] at z
    exact ⟨fun _ => rfl, fun _ => z⟩
  | n + 1, d :: r, [], _, _, h, _ => by
    have z := (rk_bd (n + 1) (d :: r) h).1
    have e0 : rk (n + 1) [] = 0 := rfl
    have e1 : HT.lexLt (d :: r) [] = false := rfl
    rw [e0, e1]
    exact ⟨fun y => by omega, fun y => by cases y⟩
  | n + 1, d :: r, e :: q, h1, h2, b1, b2 => by
    have t1 : Dig r := fun m mm => b1 m (List.mem_cons_of_mem _ mm)
    have t2 : Dig q := fun m mm => b2 m (List.mem_cons_of_mem _ mm)
    have ih := rk_lt n r q (by simpa using h1) (by simpa using h2) t1 t2
    obtain ⟨c0, c1⟩ := rk_bd n r t1
    obtain ⟨g0, g1⟩ := rk_bd n q t2
    rw [HT.lexLt_cons]
    by_cases de : d = e
    · subst de
      rw [if_pos rfl, ← ih]
      show (d + 1) * 9 ^ n + rk n r < (d + 1) * 9 ^ n + rk n q ↔ _
      generalize (d + 1) * 9 ^ n = y
      constructor <;> intro z <;> omega
    · rw [if_neg de, decide_eq_true_iff]
      show (d + 1) * 9 ^ n + rk n r < (e + 1) * 9 ^ n + rk n q ↔ _
      constructor
      · intro z
        rcases Int.lt_trichotomy d e with y | y | y
        · exact y
        · exact absurd y de
        · have := TS.num2 (P := 9 ^ n) (d := e + 1) (e := d + 1) g0 g1 c0 (by omega)
          omega
      · intro z
        exact TS.num2 c0 c1 g0 (by omega)
theorem lex_tot : ∀ a b : List Int, HT.lexLt a b = false → HT.lexLt b a = false → a = b
  | [], [], _, _ => rfl
  | [], _ :: _, h, _ => by cases h
  | _ :: _, [], _, h => by cases h
  | x :: a, y :: b, h1, h2 => by
    rw [HT.lexLt_cons] at h1 h2
    by_cases e : x = y
    · subst e
      rw [if_pos rfl] at h1 h2
      rw [lex_tot a b h1 h2]
    · rw [if_neg e] at h1
      rw [if_neg fun z => e z.symm] at h2
      have := of_decide_eq_false h1
      have := of_decide_eq_false h2
      omega
section
variable {prog : Program} {w : World} {A : Around} {E : Value → Shared → Prop} {s : Shared} {Q : Bool → Shared → Prop}
theorem lex_any {b : Bool} : ∀ {xs ys : List Value} {ns ms : List Int} (i : Nat), IntsAre xs ns → IntsAre ys ms → Q (HT.lexLt ns ms) s → PySem.W.KatLex prog w A b (decide (xs.length < ys.length)) Q (xs.zip ys) i s
  | _, _, _, _, i, .nil, .nil, h => PySem.W.kat_nil h
  | _, _, _, _, i, .nil, .cons q u hy, h => by
    refine PySem.W.kat_nil ?_
    rw [decide_eq_true (by simp)]
    exact h
  | _, _, _, _, i, .cons p t hx, .nil, h => by
    refine PySem.W.kat_nil ?_
    rw [decide_eq_false (by simp)]
    exact h
  | _, _, _, _, i, .cons p t (vs := xs) (ns := ns) hx, .cons q u (vs := ys) (ns := ms) hy, h => by
    show PySem.W.KatLex prog w A b _ Q ((Value.int p t, Value.int q u) :: xs.zip ys) i s
    rw [HT.lexLt_cons] at h
    have same : decide ((Value.int p t :: xs).length < (Value.int q u :: ys).length) = decide (xs.length < ys.length) := decide_eq_decide.mpr (by simp)
    rw [same]
    refine PySem.W.kat_cons (wpAny_eqBool_int ?_)
    by_cases e : p = q
    · rw [if_pos e] at h
      subst e
      rw [beq_self_eq_true]
      exact PySem.W.kat_yes (lex_any (i + 1) hx hy h)
    · rw [if_neg e] at h
      rw [show (p == q) = false from beq_eq_false_iff_ne.mpr e]
      exact PySem.W.kat_no (TS.oneLt_ints _ h)
/-- what is sorted -/
def TuU (h : Heap) (vs : List Value) : Prop := ∀ v ∈ vs, ∃ ns, TS.TupInts h v ns ∧ ns ≠ [] ∧ ns.length ≤ 4 ∧ Dig ns
theorem TuU.keeps {h h' : Heap} {vs : List Value} (x : TuU h vs) (k : ∀ b o, h.get? b = some o → o.cls = .type "tuple" → h'.get? b = some o) : TuU h' vs := fun v m => by
  obtain ⟨ns, t, r⟩ := x v m
  exact ⟨ns, t.keeps k, r⟩
theorem heads {h : Heap} : ∀ vs : List Value, TuU h vs → ∃ fs, PySem.W.KatTups h vs fs ∧ fs.length = vs.length ∧ ∀ f ∈ fs, ∃ n t, f = Value.int n t
  | [], _ => ⟨[], .nil, rfl, fun f m => by cases m⟩
  | v :: vs, x => by
    obtain ⟨fs, kats, len, all⟩ := heads vs fun u m => x u (List.mem_cons_of_mem _ m)
    obtain ⟨ns, ⟨a, items, rfl, ⟨ob, at_, ct, cnt, da⟩, are⟩, ne, _⟩ := x v (List.mem_cons_self ..)
    cases el : items.toList with
    | nil =>
      rw [el] at are
      cases are
      exact absurd rfl ne
    | cons y ys =>
      rw [el] at are
      cases are with
      | cons n t _ =>
        refine ⟨Value.int n t :: fs, PySem.W.KatTups.cons at_ ct da ?_ kats, by rw [List.length_cons, List.length_cons, len], fun f m => ?_⟩
        · have z := congrArg (fun l : List Value => l[0]?) el
          simpa using z
        · rcases List.mem_cons.mp m with e | m
          · exact ⟨n, t, e⟩
          · exact all f m
section
variable {prog : Program} {w : World} {A : Around} {E : Value → Shared → Prop} {s : Shared}
/-- list.sort of such a list -/
theorem sort_any {a : Addr} {vs : List Value} {cnt : Nat} {Q : Value → Shared → Prop} (ho : s.heap.get? a = some (seqObj "list" vs.toArray cnt)) (few : vs.length < 64) (x : TuU s.heap vs)
    (fin : ∀ out : Array Value, out.toList.Perm vs → out.toList.Pairwise (fun u v => rk 4 (TS.intsOf s.heap u) ≤ rk 4 (TS.intsOf s.heap v)) → Q .none { s with heap := sortedHeap s.heap a vs out }) :
    wpAny (model prog w) A (call (.builtin "list.sort") [.ref a]) Q E s := by
  refine wpAny_call_entry slot_list_sort ⟨_, ho, rfl⟩ entry_list_sort ?_ (args_list_sort _)
  have stay : ∀ b o, s.heap.get? b = some o → o.cls = .type "tuple" → (TS.midHeap s.heap a vs).get? b = some o := fun b o e ct => by
    refine TS.midHeap_old (fun eb => ?_) e
    rw [eb, ho] at e
    cases e
    have ct : Value.type "list" = Value.type "tuple" := ct
    injection ct with ct
    exact absurd ct (by decide)
  refine SK.plain_sort (r := fun v => rk 4 (TS.intsOf s.heap v)) ho few (fun two Q2 go => ?_) fun ps out h1 h2 h3 => ?_
  · have y := x.keeps stay
    obtain ⟨fs, kats, len, all⟩ := heads vs y
    refine PySem.W.kat_kind (T := Value.type "int") kats (by omega) (fun f m => ?_) rfl (go _ ?_)
    · obtain ⟨n, t, rfl⟩ := all f m
      exact PySem.W.Looks.of_pure rfl
    · intro p q mp mq Q3 E3 done
      rw [pairsOf_toList] at mp mq
      have mp2 := (mem_zip_self mp).2
      have mq2 := (mem_zip_self mq).2
      obtain ⟨ns, tp, _, lp, bp⟩ := y _ mp2
      obtain ⟨ms, tq, _, lq, bq⟩ := y _ mq2
      obtain ⟨ns0, tp0, _⟩ := x _ mp2
      obtain ⟨ms0, tq0, _⟩ := x _ mq2
      have e1 : TS.intsOf s.heap p.1 = ns := by rw [tp0.ints, ← (tp0.keeps stay).ints, tp.ints]
      have e2 : TS.intsOf s.heap q.1 = ms := by rw [tq0.ints, ← (tq0.keeps stay).ints, tq.ints]
      have done2 : Q3 (HT.lexLt ns ms) { s with heap := TS.midHeap s.heap a vs } := by
        have z : decide (rk 4 (TS.intsOf s.heap p.1) < rk 4 (TS.intsOf s.heap q.1)) = HT.lexLt ns ms := by
          rw [e1, e2, Bool.eq_iff_iff, decide_eq_true_iff]
          exact rk_lt 4 ns ms lp lq bp bq
        rw [← z]
        exact done
      obtain ⟨b1, i1, f1, ⟨o1, g1, c1, n1, d1⟩, a1⟩ := tp
      obtain ⟨b2, i2, f2, ⟨o2, g2, c2, n2, d2⟩, a2⟩ := tq
      rw [f1, f2]
      refine PySem.W.kat_lt g1 d1 g2 d2 ?_
      have sz : decide (i1.size < i2.size) = decide (i1.toList.length < i2.toList.length) := by rw [Array.length_toList, Array.length_toList]
      rw [sz]
      exact lex_any 0 a1 a2 done2
  · obtain ⟨pm, srt⟩ := TS.out_rank (r := fun v => rk 4 (TS.intsOf s.heap v)) h1 h2 h3
    exact ⟨_, rfl, fin out pm srt⟩
theorem perm_map_inv {α β : Type} (f : α → β) : ∀ (L : List α) (l : List β), l.Perm (L.map f) → ∃ L' : List α, L'.Perm L ∧ l = L'.map f
  | [], l, h => ⟨[], .refl _, by
    rw [List.map_nil] at h
    rw [h.eq_nil]
    rfl⟩
  | a :: L, l, h => by
    rw [List.map_cons] at h
    have m : f a ∈ l := h.mem_iff.mpr (List.mem_cons_self ..)
    obtain ⟨s, t, rfl⟩ := List.append_of_mem m
    have h2 : (s ++ t).Perm (L.map f) := (List.perm_middle.symm.trans h).cons_inv
    obtain ⟨L2, p2, e2⟩ := perm_map_inv f L (s ++ t) h2
    obtain ⟨x, y, rfl, rfl, rfl⟩ := List.map_eq_append_iff.mp e2.symm
    exact ⟨x ++ a :: y, List.perm_middle.trans (p2.cons a), by rw [List.map_append, List.map_cons]⟩
/-- sorted(the set of such tuples) -/
theorem sorted_any {P : Program} {a : Addr} {L : List (Addr × List Int)} {es : Array (Int × Value)} {ep : Nat} {t : SetTable} {Q : Value → Shared → Prop} (R : SetTR P w s.heap a L es ep t) (hh : A.handled = none) (ok : ∀ p ∈ L, p.2 ≠ [] ∧ p.2.length ≤ 4 ∧ Dig p.2)
    (fin : ∀ s2 p (out : Array Value) (c : Nat) (L2 : List (Addr × List Int)), (∀ b o, s.heap.get? b = some o → s2.heap.get? b = some o) → s2.gens = s.gens → s2.os = s.os → s.heap.objs.size ≤ p → s2.heap.get? p = some (seqObj "list" out c) → out.toList = L2.map (fun q => Value.ref q.1) → L2.Perm L →
      L2.Pairwise (fun q r => rk 4 q.2 ≤ rk 4 r.2) → Q (.ref p) s2) : wpAny (model P w) A (call (.builtin "sorted") [.ref a]) Q E s := by
  obtain ⟨ob, at_, exact_, dat⟩ := R.ob
  have few := R.few
  have size := R.size
  refine Calls.call_function_entry kind_sorted plain_sorted entry_sorted (args_sorted1 _) ?_
  unfold Builtin.«sorted»
  refine wpAny_bind (m := checkCount "sorted" 1 1 _) (wpAny_pure ?_)
  refine wpAny_bind (collect_set (A := A.in1) hh ⟨ob, at_, exact_.1, dat⟩ R.fits (by unfold scanBound; omega) R.tab.ris R.led fun s1 vs keep1 z1 z2 z3 perm => ?_)
  have rows_ : es.toList.map (·.2) = L.map fun q => Value.ref q.1 := by
    rw [R.rows]
    unfold rowsOf
    rw [List.map_map]
    rfl
  rw [rows_] at perm
  have len : vs.length < 64 := by
    rw [perm.length_eq, List.length_map]
    exact few
  refine wpAny_bind (wpAny_newList ?_ (by rw [sizeLine_eq]; omega))
  have here : (s1.heap.push (seqObj "list" vs.toArray 0)).get? s1.heap.objs.size = some (seqObj "list" vs.toArray 0) := Heap.get?_push_size _ rfl
  have tups : ∀ q ∈ L, TS.TupInts (s1.heap.push (seqObj "list" vs.toArray 0)) (.ref q.1) q.2 := fun q mq => tupInts_of (P := P) (w := w) (isT_keep (R.tup q mq) fun b u e => Heap.get?_push_of_some _ (keep1 b u e))
  have all : TuU (s1.heap.push (seqObj "list" vs.toArray 0)) vs := fun v mv => by
    obtain ⟨q, mq, e⟩ := List.mem_map.mp (perm.mem_iff.mp mv)
    rw [← e]
    exact ⟨q.2, tups q mq, ok q mq⟩
  refine wpAny_bind (wpAny_holding (sort_any (s := { s1 with heap := s1.heap.push (seqObj "list" vs.toArray 0) }) here len all fun out p1 p2 => ?_))
  obtain ⟨c, hc⟩ := sortedHeap_at (vs := vs) (out := out) here
  obtain ⟨L2, p3, e3⟩ := perm_map_inv (fun q : Addr × List Int => Value.ref q.1) L out.toList (p1.trans perm)
  have srt : L2.Pairwise (fun q r => rk 4 q.2 ≤ rk 4 r.2) := by
    rw [e3] at p2
    refine List.Pairwise.imp_of_mem (fun {q r} mq mr le => ?_) (List.pairwise_map.mp p2)
    have f1 : TS.intsOf (s1.heap.push (seqObj "list" vs.toArray 0)) (.ref q.1) = q.2 := (tups q (p3.mem_iff.mp mq)).ints
    have f2 : TS.intsOf (s1.heap.push (seqObj "list" vs.toArray 0)) (.ref r.1) = r.2 := (tups r (p3.mem_iff.mp mr)).ints
    rw [← f1, ← f2]
    exact le
  refine wpAny_pure ⟨_, rfl, fin _ s1.heap.objs.size out c L2 (fun b u e => ?_) z2 z3 z1 hc e3 p3 srt⟩
  have old := keep1 b u e
  have lt := Heap.lt_size old
  show (sortedHeap (s1.heap.push (seqObj "list" vs.toArray 0)) s1.heap.objs.size vs out).get? b = some u
  rw [sortedHeap_old (Nat.ne_of_lt lt) (by rw [size_push']; exact Nat.lt_succ_of_lt lt)]
  exact Heap.get?_push_of_some _ old
end
end
end K19
end

section
set_option Elab.async false
set_option linter.all false
set_option maxRecDepth 100000
set_option maxHeartbeats 4000000
namespace K19
open PySem PySem.Spec PyProof.Rows L2
/-! ### sorted(set(lots)) -/
def rSortU (K : PySem.W.Frag) (P : Program) (w : World) : List V → Hp → VK → Prop := fun vs H Q => ∃ (a : Addr) (L : List (Addr × List Int)), vs = [V.ref a] ∧ H a = some (SetTO P w a L) ∧ (∀ p ∈ L, SqT K H p.1 (p.2.map V.int)) ∧ (∀ p ∈ L, p.2 ≠ [] ∧ p.2.length ≤ 4 ∧ Dig p.2) ∧
  ∀ (L2 : List (Addr × List Int)) (p : Addr), L2.Perm L → (L2.map (·.2)).Nodup → L2.length < 64 → L2.Pairwise (fun q r => rk 4 q.2 ≤ rk 4 r.2) → H p = none → Q (.ref p) (upd H p (.lst (L2.map fun q => V.ref q.1)))
theorem cr_sortU {X : Cx} (calm : X.calm = true) : CallR X (.builtin "sorted") (rSortU X.K X.prog X.w) := by
  intro pins s σ H vs us Q I rel h
  obtain ⟨a, L, rfl, isSet, tups, ok, fin⟩ := h
  have R0 : SetT0 X.prog X.w s.heap a L := (I.hok a _ isSet).1
  obtain ⟨es, ep, t, R⟩ := R0.full fun p mp => I.isT (tups p mp)
  rw [Vals.ref1 rel]
  refine sorted_any R (I.ok.hd calm) ok fun s2 p out c L2 keep g o new at_ eo pm srt => ?_
  have few : L2.length < 64 := by
    rw [pm.length_eq]
    exact R.few
  have none_ : H p = none := I.hok.fresh new
  have I2 : Inv X pins σ (upd H p (.lst (L2.map fun q => V.ref q.1))) { s with heap := s2.heap, gens := s2.gens, drawn := s2.drawn, toks := s2.toks } := by
    refine I.call (ch := []) (Un.laid keep new none_) (I.hok.laid keep new ⟨?_, out.toList, c, ?_, at_⟩) (by rw [g]; exact I.bare) fun _ z => nomatch z
    · rw [List.length_map, sizeLine_eq]
      omega
    · rw [eo]
      exact vals_of_refs L2
  have same : s2 = { s with heap := s2.heap, gens := s2.gens, drawn := s2.drawn, toks := s2.toks } := by
    cases s2
    cases s
    cases o
    rfl
  rw [same]
  exact ⟨.ref p, _, I2, rfl, fin L2 p pm ((pm.map (·.2)).nodup_iff.mpr R.nd) few srt none_⟩
theorem lots_of {K : PySem.W.Frag} {H : Hp} : ∀ {vs : List V} {ks : List (List Nat)}, ImL K H vs (ks.map (nT .lot)) → ∃ kz : List (Addr × List Int), vs = kz.map (fun p => V.ref p.1) ∧ kz.map (·.2) = ks.map asI ∧ ∀ p ∈ kz, ∃ c ∈ ks, p.2 = asI c ∧ Im K H (.ref p.1) (nT .lot c)
  | vs, [], h => by
    cases h
    exact ⟨[], rfl, rfl, fun p m => (by cases m)⟩
  | vs, k :: ks, h => by
    rw [List.map_cons] at h
    cases h with
    | cons h l =>
      obtain ⟨kz, h1, h2, h3⟩ := lots_of l
      obtain ⟨a, xs, rfl, t1, t2⟩ := (Da.im h).tup_inv
      refine ⟨(a, asI k) :: kz, by rw [List.map_cons, h1], by rw [List.map_cons, List.map_cons, h2], fun p m => ?_⟩
      rcases List.mem_cons.mp m with e | m
      · rw [e]
        exact ⟨k, List.mem_cons_self .., rfl, h⟩
      · obtain ⟨c, c1, c2⟩ := h3 p m
        exact ⟨c, List.mem_cons_of_mem _ c1, c2⟩
theorem asI_inj {a b : List Nat} (h : asI a = asI b) : a = b := keyOf_inj (by unfold keyOf; rw [h])
/-- strictly rising lots -/
def Rise (ks : List (List Nat)) : Prop := ks.Pairwise fun a b => HT.lexLt (asI a) (asI b) = true
section
variable {X : Cx} {W : List Addr} {ρ : List Cell} {f : Nat} {e : Expr} {P : D → Prop} {p p2 pos pos2 : Pos} {ks : List (List Nat)} (g : Gm X.K X.mg)
include g in
theorem e_sortSet {l : Nat} (hr : Room l X.A) (hc : X.calm = true) (ha : ED X W ρ 0 e (.lst (ks.map (nT .lot)))) (hk : ∀ c ∈ ks, c ≠ [] ∧ c.length ≤ 4 ∧ ∀ i ∈ c, i < 8) (h64 : ks.length < 64) (h : ∀ ks' : List (List Nat), Rise ks' → (∀ c, c ∈ ks' ↔ c ∈ ks) → P (.lst (ks'.map (nT .lot)))) (hg : Gl X "sorted" := by rfl) (hg2 : Gl X "set" := by rfl)
    (he : starEach (.Call (.Name "set" p2) [e] [] pos2 :: []) X.env = (false, eval (.Call (.Name "set" p2) [e] [] pos2) X.env) :: starEach [] X.env := by rfl) (he2 : starEach (e :: []) X.env = (false, eval e X.env) :: starEach [] X.env := by rfl) :
    E X W ρ f (.Call (.Name "sorted" p) [.Call (.Name "set" p2) [e] [] pos2] [] pos) P := fun O σ H s Q q => by
  refine ⟨_, pe_callB (cr_sortU hc) hg g.sorted (by decide +kernel) (pa_cons (pe_callTy (cr_setOfT hc hr.u64) hg2 g.set (by decide +kernel) (pa_cons ev_pe pa_nil he2) (by decide) (by decide) he2) pa_nil he) (by decide) (by decide) he, ha O σ H s _ fun v H1 d pd r => ?_⟩
  subst pd
  have s1 := s.mono r.ex r.wk
  obtain ⟨a, vs, rfl, h1, h2⟩ := r.da.ls_inv
  obtain ⟨kz, rfl, ez, hz⟩ := lots_of h2
  have sq : ∀ p ∈ kz, SqT X.K H1 p.1 (p.2.map V.int) := fun p m => by
    obtain ⟨c, mc, ec, ic⟩ := hz p m
    obtain ⟨a', xs, e1, t1, t2⟩ := (Da.im ic).tup_inv
    cases e1
    have eI : c.map nD = (asI c).map .int := by
      unfold asI
      rw [List.map_map]
      rfl
    rw [eI] at t2
    rw [ec, ← t2.ints]
    exact (hid_le W H1).tk _ _ .any t1.sq
  have len : kz.length = ks.length := by
    have := congrArg List.length ez
    rw [List.length_map, List.length_map] at this
    exact this
  refine ⟨a, kz, rfl, SqL.of (hid_some h1).2, sq, by omega, fun sa L n1 sub all => ?_⟩
  have dig : ∀ p ∈ L, p.2 ≠ [] ∧ p.2.length ≤ 4 ∧ Dig p.2 := fun p m => by
    obtain ⟨c, mc, ec, _⟩ := hz p (sub p m)
    obtain ⟨k1, k2, k3⟩ := hk c mc
    rw [ec]
    refine ⟨fun z => k1 (asI_inj z), by unfold asI; rw [List.length_map]; exact k2, fun i mi => ?_⟩
    obtain ⟨n, mn, rfl⟩ := List.mem_map.mp mi
    have := k3 n mn
    omega
  have ex1 : Ex H1 (upd H1 sa (SetTO X.prog X.w sa L)) := Ex.new n1
  refine ⟨sa, L, rfl, upd_same, fun p m => ex1.tk _ _ .any (sq p (sub p m)), dig, fun L2 np pm nd few srt n2 => ?_⟩
  -- what the sorted list's items stand for
  have conv : ∀ M : List (Addr × List Int), (∀ p ∈ M, p ∈ kz) → ∃ cs : List (List Nat), M.map (·.2) = cs.map asI ∧ (∀ c ∈ cs, c ∈ ks) ∧ ImL X.K (hid W H1) (M.map fun q => V.ref q.1) (cs.map (nT .lot)) := by
    intro M
    induction M with
    | nil => exact fun _ => ⟨[], rfl, fun c m => (by cases m), .nil⟩
    | cons p M ih =>
      intro hM
      obtain ⟨cs, c1, c2, c3⟩ := ih fun q m => hM q (List.mem_cons_of_mem _ m)
      obtain ⟨c, mc, ec, ic⟩ := hz p (hM p (List.mem_cons_self ..))
      refine ⟨c :: cs, by rw [List.map_cons, List.map_cons, c1, ec], fun d m => ?_, .cons ic c3⟩
      rcases List.mem_cons.mp m with e | m
      · rw [e]
        exact mc
      · exact c2 d m
  obtain ⟨cs, c1, c2, c3⟩ := conv L2 fun p m => sub p (pm.mem_iff.mp m)
  have digc : ∀ c ∈ cs, (asI c).length ≤ 4 ∧ Dig (asI c) := fun c m => by
    obtain ⟨k1, k2, k3⟩ := hk c (c2 c m)
    refine ⟨by unfold asI; rw [List.length_map]; exact k2, fun i mi => ?_⟩
    obtain ⟨n, mn, rfl⟩ := List.mem_map.mp mi
    have := k3 n mn
    omega
  have ndc : (cs.map asI).Nodup := by
    rw [← c1]
    exact nd
  have rise : Rise cs := by
    have s2 : (L2.map (·.2)).Pairwise (fun x y => rk 4 x ≤ rk 4 y) := List.pairwise_map.mpr srt
    rw [c1] at s2
    have s3 := List.pairwise_map.mp s2
    have s4 := List.pairwise_map.mp (List.nodup_iff_pairwise_ne.mp ndc)
    refine List.Pairwise.imp_of_mem (fun {x y} mx my h => ?_) (s3.and s4)
    obtain ⟨le, ne⟩ := h
    refine (rk_lt 4 _ _ (digc x mx).1 (digc y my).1 (digc x mx).2 (digc y my).2).mp ?_
    rcases Int.lt_or_eq_of_le le with lt | eq
    · exact lt
    · exfalso
      have n1 : HT.lexLt (asI x) (asI y) = false := by
        cases z : HT.lexLt (asI x) (asI y) with
        | false => rfl
        | true =>
          have := (rk_lt 4 _ _ (digc x mx).1 (digc y my).1 (digc x mx).2 (digc y my).2).mpr z
          omega
      have n2 : HT.lexLt (asI y) (asI x) = false := by
        cases z : HT.lexLt (asI y) (asI x) with
        | false => rfl
        | true =>
          have := (rk_lt 4 _ _ (digc y my).1 (digc x mx).1 (digc y my).2 (digc x mx).2).mpr z
          omega
      exact ne (lex_tot _ _ n1 n2)
  have mem : ∀ c, c ∈ cs ↔ c ∈ ks := fun c => ⟨c2 c, fun m => by
    have m1 : asI c ∈ kz.map (·.2) := by
      rw [ez]
      exact List.mem_map.mpr ⟨c, m, rfl⟩
    obtain ⟨p, mp, ep⟩ := List.mem_map.mp m1
    have m2 : asI c ∈ L.map (·.2) := by
      rw [← ep]
      exact all p mp
    have m3 : asI c ∈ L2.map (·.2) := (pm.map (·.2)).mem_iff.mpr m2
    rw [c1] at m3
    obtain ⟨c', mc', ec'⟩ := List.mem_map.mp m3
    rw [← asI_inj ec']
    exact mc'⟩
  have wk2 := wok_upd (o := SetTO X.prog X.w sa L) s1.wk n1
  have exW : Ex (hid W H1) (hid W (upd H1 sa (SetTO X.prog X.w sa L))) := hid_new n1
  have s2 := s1.mono exW wk2
  exact q _ _ _ (h cs rise mem) ((Res.lst s2 n2 (c3.mono exW.tk)).later (r.ex.trans exW) wk2)
end
end K19
end

section
set_option Elab.async false
set_option linter.all false
set_option maxRecDepth 100000
set_option maxHeartbeats 4000000
namespace K19
open PySem PySem.Spec PyProof.Rows L2
/-! ### sum of a tuple of ints -/
theorem cr_sumT {X : Cx} (calm : X.calm = true) : CallR X (.builtin "sum") (fun vs H Q => ∃ (a : Addr) (ns : List Int), vs = [V.ref a] ∧ SqT X.K H a (ns.map V.int) ∧ Q (.int ns.sum) H) := by
  intro pins s σ H vs us Q I rel h
  obtain ⟨a, ns, rfl, sq, fin⟩ := h
  obtain ⟨items, rv, isT, _⟩ := I.tuple sq
  rw [Vals.ref1 rel]
  obtain ⟨xs, e⟩ := rv.ints.allInts.items
  have nums : numsOf (intItems xs).toList = ns := by
    rw [← e]
    exact rv.ints.numsOf
  rw [nums_intItems] at nums
  have isT2 : s.heap.IsTuple a (intItems xs) := by
    rw [← e]
    exact isT
  refine PySem.W.ktm_sumG (I.ok.hd calm) isT2 fun h' tk t' keep => ?_
  rw [preSum_eq, List.take_of_length_le (by simp), nums]
  exact ⟨.int _, H, I.kept keep, ⟨_, rfl⟩, fin⟩
/-! ### ints that are drawn -/
def EI (X : Cx) (W : List Addr) (ρ : List Cell) (f : Nat) (e : Expr) (P : Int → Prop) : Prop := E X W ρ f e fun d => ∃ i, d = .int i ∧ P i
section
variable {X : Cx} {W : List Addr} {ρ : List Cell} {f : Nat} {e a b c : Expr} {P Q R : Int → Prop} {pos p p2 : Pos} {i j : Int} {ns : List Int}
theorem EI.imp (h : EI X W ρ f e P) (k : ∀ i, P i → Q i) : EI X W ρ f e Q := E.imp h fun d ⟨i, e, p⟩ => ⟨i, e, k i p⟩
theorem ei_of (h : ED X W ρ f e (.int i)) : EI X W ρ f e fun z => z = i := E.imp h fun d e => ⟨i, e, rfl⟩
theorem ei_d (h : ED X W ρ f e (.int i)) (k : P i) : EI X W ρ f e P := E.imp h fun d e => ⟨i, e, k⟩
theorem ei_add (ha : EI X W ρ 0 a P) (hb : EI X W ρ 0 b Q) (h : ∀ i j, P i → Q j → R (i + j)) : EI X W ρ f (.BinOp a .Add b pos) R := e_op op_add ha hb fun d1 d2 ⟨i, e1, p1⟩ ⟨j, e2, p2⟩ => by
  subst e1 e2
  exact fun x y O σ H ρ hx hy s Q' q => od_I0 (h := fun i j => .int (i + j)) (fun _ _ => .int _) x y O σ H ρ hx hy s Q' fun v H' d e r => q v H' d ⟨i + j, e, h i j p1 p2⟩ r
theorem ei_sub (ha : EI X W ρ 0 a P) (hb : EI X W ρ 0 b Q) (h : ∀ i j, P i → Q j → R (i - j)) : EI X W ρ f (.BinOp a .Sub b pos) R := e_op op_sub ha hb fun d1 d2 ⟨i, e1, p1⟩ ⟨j, e2, p2⟩ => by
  subst e1 e2
  exact fun x y O σ H ρ hx hy s Q' q => od_I0 (h := fun i j => .int (i - j)) (fun _ _ => .int _) x y O σ H ρ hx hy s Q' fun v H' d e r => q v H' d ⟨i - j, e, h i j p1 p2⟩ r
theorem ei_mul (ha : EI X W ρ 0 a P) (hb : EI X W ρ 0 b Q) (h : ∀ i j, P i → Q j → CMul i j ∧ R (i * j)) : EI X W ρ f (.BinOp a .Mult b pos) R := e_op op_mul ha hb fun d1 d2 ⟨i, e1, p1⟩ ⟨j, e2, p2⟩ => by
  subst e1 e2
  exact fun x y O σ H ρ hx hy s Q' q => od_I (h := fun i j => .int (i * j)) (fun _ _ => .int _) (h i j p1 p2).1 x y O σ H ρ hx hy s Q' fun v H' d e r => q v H' d ⟨i * j, e, (h i j p1 p2).2⟩ r
theorem ei_mod (ha : EI X W ρ 0 a P) (hb : EI X W ρ 0 b Q) (h : ∀ i j, P i → Q j → 0 < j ∧ R (i % j)) : EI X W ρ f (.BinOp a .Mod b pos) R := e_op op_mod ha hb fun d1 d2 ⟨i, e1, p1⟩ ⟨j, e2, p2⟩ => by
  subst e1 e2
  exact fun x y O σ H ρ hx hy s Q' q => od_I (C := fun _ j => 0 < j) (i := i) (j := j) (h := fun i j => .int (i % j)) (fun _ _ => .int _) (h i j p1 p2).1 x y O σ H ρ hx hy s Q' fun v H' d e r => q v H' d ⟨i % j, e, (h i j p1 p2).2⟩ r
theorem ei_fdiv (ha : EI X W ρ 0 a P) (hb : EI X W ρ 0 b Q) (h : ∀ i j, P i → Q j → CDivW i j ∧ R (i / j)) : EI X W ρ f (.BinOp a .FloorDiv b pos) R := e_op op_fdivW ha hb fun d1 d2 ⟨i, e1, p1⟩ ⟨j, e2, p2⟩ => by
  subst e1 e2
  exact fun x y O σ H ρ hx hy s Q' q => od_I (h := fun i j => .int (i / j)) (fun _ _ => .int _) (h i j p1 p2).1 x y O σ H ρ hx hy s Q' fun v H' d e r => q v H' d ⟨i / j, e, (h i j p1 p2).2⟩ r
/-- a test of drawn ints -/
theorem ti_cmp {op : CmpOp} {r : R2} {k : Int → Int → Bool} {B : Bool → Prop} (ho : OpR X (compareOp op) r) (ha : EI X W ρ 0 a P) (hb : EI X W ρ 0 b Q) (od : ∀ i j, OpD X W r (.int i) (.int j) 0 fun z => z = .bl (k i j)) (h : ∀ i j, P i → Q j → B (k i j)) (hm : behindInMarks op b = false := by first | exact nomark _ | rfl) : T X W ρ (.Compare a [op] [b] pos) B :=
  t_cmp ho ha hb (fun d1 d2 ⟨i, e1, p1⟩ ⟨j, e2, p2⟩ => by
    subst e1 e2
    exact fun x y O σ H ρ hx hy s Q' q => od i j x y O σ H ρ hx hy s Q' fun v H' d e r => q v H' d ⟨k i j, e, h i j p1 p2⟩ r) hm
variable (g : Gm X.K X.mg)
include g in
theorem ei_int (ha : EI X W ρ 0 e P) (hg : Gl X "int" := by rfl) (he : starEach (e :: []) X.env = (false, eval e X.env) :: starEach [] X.env := by rfl) : EI X W ρ f (.Call (.Name "int" p) [e] [] pos) P := 
  e_callTy call_int1 hg g.int (by decide +kernel) (ar_one ha he) (fun ds z vs O σ H ρ l s Q q => by
    obtain ⟨d, rfl, i, rfl, pi⟩ := z
    obtain ⟨v, rfl, w1⟩ := l.one
    exact .inl ⟨i, by rw [w1.int_inv], q _ H _ ⟨i, rfl, pi⟩ (Res.here s (.int i))⟩) (by decide) (by decide) he
include g in
theorem e_sumT {m : Mk} {c : List Nat} (hc : X.calm = true) (ha : ED X W ρ 0 e (nT m c)) (hg : Gl X "sum" := by rfl) (he : starEach (e :: []) X.env = (false, eval e X.env) :: starEach [] X.env := by rfl) : ED X W ρ f (.Call (.Name "sum" p) [e] [] pos) (.int (asI c).sum) :=
  e_callB (cr_sumT hc) hg g.sum (by decide +kernel) (ad_one ha he) (fun ds z vs O σ H ρ l s Q q => by
    subst z
    obtain ⟨v, rfl, w1⟩ := l.one
    obtain ⟨a, xs, rfl, h1, h2⟩ := w1.tup_inv
    have eI : c.map nD = (asI c).map .int := by
      unfold asI
      rw [List.map_map]
      rfl
    rw [eI] at h2
    exact ⟨a, asI c, rfl, by rw [← h2.ints]; exact (hid_le W H).tk _ _ .any h1.sq, q _ H _ rfl (Res.here s (.int _))⟩) (by decide) (by decide) he
include g in
/-- sorted of a drawn list of ints -/
theorem e_sortN {P1 P2 : D → Prop} (ha : E X W ρ 0 e P1) (h : ∀ d, P1 d → ∃ ns : List Int, d = .lst (ns.map .int) ∧ ∀ ns' : List Int, ns'.Perm ns → ns'.Pairwise (· ≤ ·) → P2 (.lst (ns'.map .int))) (hg : Gl X "sorted" := by rfl) (he : starEach (e :: []) X.env = (false, eval e X.env) :: starEach [] X.env := by rfl) : E X W ρ f (.Call (.Name "sorted" p) [e] [] pos) P2 :=
  e_callB cr_sortedI hg g.sorted (by decide +kernel) (ar_one ha he) (fun ds z vs O σ H ρ l s Q q => by
    obtain ⟨d, rfl, pd⟩ := z
    obtain ⟨ns, rfl, k⟩ := h d pd
    obtain ⟨v, rfl, w1⟩ := l.one
    obtain ⟨a, xs, rfl, h1, h2⟩ := w1.ls_inv
    have e := h2.ints
    subst e
    exact ⟨a, ns, rfl, SqL.of (hid_some h1).2, fun ns' t pm pw nt => q _ _ _ (k ns' pm pw) (Res.lst s nt (imL_ints ns'))⟩) (by decide) (by decide) he
end
/-! ### the well -/
def Bw (k : Int) (i : Int) : Prop := 0 ≤ i ∧ (k = 1 → i < 2147483477)
theorem S3.well {K : PySem.W.Frag} {a : Addr} {O : List Addr} {H0 H : Hp} {σ : L2.St} {ρ : List Cell} {x y z : Int} (s : S3 K [a] O H0 H σ ρ) (g : Good x y z) : S3 K [a] O H0 (upd H a (.lst [.int x, .int y, .int z])) σ ρ := by
  have same : ∀ O' : List Addr, hid ([a] ++ O') (upd H a (.lst [.int x, .int y, .int z])) = hid ([a] ++ O') H := fun O' => hid_upd_in (List.mem_append_left _ (List.mem_singleton.mpr rfl))
  have same1 : hid [a] (upd H a (.lst [.int x, .int y, .int z])) = hid [a] H := hid_upd_in (List.mem_singleton.mpr rfl)
  refine ⟨⟨fun j c e => ?_, fun b m => ?_, fun b m => ?_, s.sl.len⟩, s.new, by rw [same1]; exact s.ex, s.inj⟩
  · have h := s.sl.at_ j c e
    have out : ∀ b ∈ O, b ≠ a := fun b m e => (s.sl.ok b m).1 (by rw [e]; exact List.mem_singleton.mpr rfl)
    cases c with
    | un => trivial
    | da d =>
      obtain ⟨v, z1, z2⟩ := h
      exact ⟨v, z1, by rw [same]; exact z2⟩
    | own es =>
      obtain ⟨b, ys, z1, z2, z3, z4⟩ := h
      exact ⟨b, ys, z1, z2, by rw [upd_ne (out b z2)]; exact z3, by rw [same]; exact z4⟩
    | dic es =>
      obtain ⟨b, ys, z1, z2, z3, z4⟩ := h
      exact ⟨b, ys, z1, z2, by rw [upd_ne (out b z2)]; exact z3, by rw [same]; exact z4⟩
    | pin b es => exact ⟨h.1, by rw [same]; exact h.2⟩
    | scr b ns => exact ⟨h.1, by rw [same]; exact h.2⟩
    | well => exact h
  · rw [List.mem_singleton.mp m]
    exact ⟨x, y, z, upd_same, g⟩
  · obtain ⟨n, o, q, so⟩ := s.sl.ok b m
    exact ⟨n, o, by rw [upd_ne fun e => n (by rw [e]; exact List.mem_singleton.mpr rfl)]; exact q, so⟩
theorem well_at {x y z k : Int} (hk : 0 ≤ k ∧ k < 3) (g : Good x y z) : ∃ i, L2.atI [V.int x, V.int y, V.int z] k = some (.int i) ∧ Bw k i := by
  obtain ⟨g1, g2, g3, g4⟩ := g
  have : k = 0 ∨ k = 1 ∨ k = 2 := by omega
  rcases this with rfl | rfl | rfl
  · exact ⟨x, rfl, g1, fun e => by cases e⟩
  · exact ⟨y, rfl, g2, fun _ => g3⟩
  · exact ⟨z, rfl, g4, fun e => by cases e⟩
theorem well_set {x y z k i : Int} (hk : 0 ≤ k ∧ k < 3) (g : Good x y z) (b : Bw k i) : ∃ x' y' z' j, ixN 3 k = some j ∧ [V.int x, V.int y, V.int z].set j (.int i) = [V.int x', V.int y', V.int z'] ∧ Good x' y' z' := by
  obtain ⟨g1, g2, g3, g4⟩ := g
  have : k = 0 ∨ k = 1 ∨ k = 2 := by omega
  rcases this with rfl | rfl | rfl
  · exact ⟨i, y, z, 0, rfl, rfl, b.1, g2, g3, g4⟩
  · exact ⟨x, i, z, 1, rfl, rfl, g1, b.1, b.2 rfl, g4⟩
  · exact ⟨x, y, i, 2, rfl, rfl, g1, g2, g3, b.1⟩
section
variable {X : Cx} {W : List Addr} {ρ : List Cell} {f : Nat} {e : Expr} {pos p1 p2 p3 : Pos} {k : Int} {kk} {x y : Str} {rest : List Stmt} {N : List Cell → Prop} {Rt : D → Prop} {P : D → Prop}
theorem e_well (iw : Nat) (hw : ρ[iw]? = some .well) (hk : 0 ≤ k ∧ k < 3) (hN : X.N[iw]? = some x := by rfl) (hv : Vis X.env.scope x := by first | exact Or.inl rfl | exact Or.inr (Or.inl rfl) | exact Or.inr (Or.inr rfl))
    (hd : (x == ("__debug__" : Str)) = false := by decide) (hcd : (x == ("__classdict__" : Str)) = false := by decide) : EI X W ρ f (.Subscript (.Name x p1) (.Constant (.int k) kk p2) pos) (Bw k) := fun O σ H s Q q => by
  obtain ⟨a, h1, h2⟩ := s.at_ iw _ hw
  subst h2
  obtain ⟨u, v, w', e1, gd⟩ := s.wk a (List.mem_singleton.mpr rfl)
  obtain ⟨i, e2, b⟩ := well_at hk gd
  refine ⟨_, pe_ix ix_list (pe_var hN hv hd hcd) pe_int (by exact fun _ _ => rfl), _, h1, ?_⟩
  exact ⟨a, _, k, .int i, rfl, rfl, SqL.of e1, e2, q _ H _ ⟨i, rfl, b⟩ (Res.here s (.int i))⟩
/-- well[k] = e -/
theorem r_wellSet (iw : Nat) (hw : ρ[iw]? = some .well) (hk : 0 ≤ k ∧ k < 3) (h : EI X W ρ 0 e (Bw k)) (kont : R X W ρ rest N Rt) (hN : X.N[iw]? = some x := by rfl) (hv : Vis X.env.scope x := by first | exact Or.inl rfl | exact Or.inr (Or.inl rfl) | exact Or.inr (Or.inr rfl))
    (hd : (x == ("__debug__" : Str)) = false := by decide) (hcd : (x == ("__classdict__" : Str)) = false := by decide)
    (hs : swapsWithSole [.Subscript (.Name x p1) (.Constant (.int k) kk p2) p3] e pos.line X.env = pure false := by rfl) (hsw : swappedStores [.Subscript (.Name x p1) (.Constant (.int k) kk p2) p3] e X.env = pure none := by rfl)
    (h1 : (assignEach [.Subscript (.Name x p1) (.Constant (.int k) kk p2) p3] X.env).map (·.2) = [assign (.Subscript (.Name x p1) (.Constant (.int k) kk p2) p3) X.env] := by rfl)
    (ha : ∀ v, assign (.Subscript (.Name x p1) (.Constant (.int k) kk p2) p3) X.env v = (do
      let ov ← holding [v] (eval (.Name x p1) X.env)
      let iv ← holding [v, ov] (eval (.Constant (.int k) kk p2) X.env)
      standAt p3
      holding [v, ov, iv] (setItem ov iv v)
      release [v, ov, iv] []) := by intro _; rfl) : R X W ρ (.Assign [.Subscript (.Name x p1) (.Constant (.int k) kk p2) p3] e pos :: rest) N Rt := fun O H0 σ H s D nx rt => by
  refine ⟨_, pss_cons (ps_asg ev_pe (pg_sub (pe_var hN hv hd hcd) pe_int set_list ha) hs hsw h1) svs_pss, ?_⟩
  refine h O σ H s.sl _ fun v H1 d ⟨i, ed, b⟩ r => ?_
  subst ed
  have s1 := s.mono r.ex r.wk
  obtain ⟨a, h2, h3⟩ := s1.sl.at_ iw _ hw
  subst h3
  obtain ⟨u, v2, w', e1, gd⟩ := s1.sl.wk a (List.mem_singleton.mpr rfl)
  obtain ⟨x', y', z', j, q1, q2, q3⟩ := well_set hk gd b
  refine ⟨_, h2, a, [.int u, .int v2, .int w'], k, j, rfl, rfl, e1, q1, ?_⟩
  rw [r.da.int_inv, q2]
  exact kont O H0 σ _ (s1.well q3) D nx rt
/-- well[0], y = divmod(well[0], few) -/
theorem r_wellDiv (g : Gm X.K X.mg) (iw iy : Nat) {few : Expr} {n : Int} {pf p4 p5 p6 p7 p8 : Pos} {k2 k3} (hw : ρ[iw]? = some .well) (hf : ED X W ρ 0 few (.int n)) (hn : 0 < n ∧ n < 1073741824) (kont : ∀ i, 0 ≤ i → i < n → R X W (ρ.set iy (.da (.int i))) rest N Rt) (hNd : X.N.Nodup) (hc : X.calm = true := by rfl)
    (hN : X.N[iw]? = some x := by rfl) (hv : Vis X.env.scope x := by first | exact Or.inl rfl | exact Or.inr (Or.inl rfl) | exact Or.inr (Or.inr rfl)) (hd : (x == ("__debug__" : Str)) = false := by decide) (hcd : (x == ("__classdict__" : Str)) = false := by decide)
    (hy : X.N[iy]? = some y := by rfl) (hly : Loc X.env.scope y := by first | exact Or.inl rfl | exact Or.inr rfl) (hfy : X.fn y = true ∨ X.env.scope.names.lookup y = some .local := by first | exact .inl rfl | exact .inr rfl)
    (hg : Gl X "divmod" := by rfl)
    (he : starEach [.Subscript (.Name x p4) (.Constant (.int 0) k2 p5) p6, few] X.env = (false, eval (.Subscript (.Name x p4) (.Constant (.int 0) k2 p5) p6) X.env) :: starEach [few] X.env := by rfl) (he2 : starEach [few] X.env = (false, eval few X.env) :: starEach [] X.env := by rfl) (hpl : (backTo pf (starEach [few] X.env)).any (·.1) = false := by rfl)
    (hs : swapsWithSole [.Tuple [.Subscript (.Name x p1) (.Constant (.int 0) kk p2) p3, .Name y p7] k3 p8] (.Call (.Name "divmod" pos) [.Subscript (.Name x p4) (.Constant (.int 0) k2 p5) p6, few] [] pf) pos.line X.env = pure false := by rfl)
    (hsw : swappedStores [.Tuple [.Subscript (.Name x p1) (.Constant (.int 0) kk p2) p3, .Name y p7] k3 p8] (.Call (.Name "divmod" pos) [.Subscript (.Name x p4) (.Constant (.int 0) k2 p5) p6, few] [] pf) X.env = pure none := by rfl)
    (h1 : (assignEach [.Tuple [.Subscript (.Name x p1) (.Constant (.int 0) kk p2) p3, .Name y p7] k3 p8] X.env).map (·.2) = [assign (.Tuple [.Subscript (.Name x p1) (.Constant (.int 0) kk p2) p3, .Name y p7] k3 p8) X.env] := by rfl)
    (ha : ∀ v, assign (.Subscript (.Name x p1) (.Constant (.int 0) kk p2) p3) X.env v = (do
      let ov ← holding [v] (eval (.Name x p1) X.env)
      let iv ← holding [v, ov] (eval (.Constant (.int 0) kk p2) X.env)
      standAt p3
      holding [v, ov, iv] (setItem ov iv v)
      release [v, ov, iv] []) := by intro _; rfl) {spos : Pos} (hl : spos.line = pos.line := by rfl) :
    R X W ρ (.Assign [.Tuple [.Subscript (.Name x p1) (.Constant (.int 0) kk p2) p3, .Name y p7] k3 p8] (.Call (.Name "divmod" pos) [.Subscript (.Name x p4) (.Constant (.int 0) k2 p5) p6, few] [] pf) spos :: rest) N Rt := fun O H0 σ H s D nx rt => by
  refine ⟨_, pss_cons (ps_asg (pe_callB call_divmod hg g.divmod (by decide +kernel) (pa_cons ev_pe (pa_cons ev_pe pa_nil he2) he) (by decide) (by decide) he hpl) (pg_tup (n := 2) hc (pgs_cons (pg_sub (pe_var hN hv hd hcd) pe_int set_list ha) (pgs_cons (pg_name hNd hy hly hfy) pgs_nil))) (by rw [hl]; exact hs) hsw h1) svs_pss, ?_⟩
  refine e_well (f := 0) iw hw ⟨Int.le_refl _, by decide⟩ hN hv hd hcd O σ H s.sl _ fun v H1 d ⟨i, ed, b⟩ r => ?_
  subst ed
  have s1 := s.mono r.ex r.wk
  refine hf O σ H1 s1.sl _ fun v2 H2 d2 ed2 r2 => ?_
  subst ed2
  have s2 := s1.mono r2.ex r2.wk
  refine ⟨i, n, by rw [r.da.int_inv, r2.da.int_inv], hn, fun pr n3 => ?_⟩
  have s3 := s2.mono (hid_new n3) (wok_upd s2.sl.wk n3) (H' := upd H2 pr (.tup [.int (i / n), .int (i % n)]))
  obtain ⟨a, h2, h3⟩ := s3.sl.at_ iw _ hw
  subst h3
  obtain ⟨u, u2, u3, e1, gd⟩ := s3.sl.wk a (List.mem_singleton.mpr rfl)
  have bq : Bw 0 (i / n) := ⟨Int.ediv_nonneg b.1 (by omega), fun e => by cases e⟩
  obtain ⟨x', y', z', j, q1, q2, q3⟩ := well_set (k := 0) ⟨Int.le_refl _, by decide⟩ gd bq
  refine ⟨pr, [.int (i / n), .int (i % n)], rfl, .inl (.inl upd_same), rfl, _, _, rfl, ?_⟩
  refine ⟨_, h2, a, [.int u, .int u2, .int u3], 0, j, rfl, rfl, e1, q1, _, _, rfl, ?_⟩
  refine ⟨rfl, ?_⟩
  rw [q2]
  exact kont (i % n) (Int.emod_nonneg _ (by omega)) (Int.emod_lt_of_pos _ hn.1) O H0 _ _ ((s3.well q3).put (.im (.int _)) iy) D nx rt
end
end K19
end

section
set_option Elab.async false
set_option linter.all false
set_option maxRecDepth 100000
set_option maxHeartbeats 4000000
namespace K19
open PySem PySem.Spec PyProof.Rows L2
/-- an owned list's contents are replaced -/
theorem S3.rewrite {K : PySem.W.Frag} {W O : List Addr} {H0 H : Hp} {σ : L2.St} {ρ : List Cell} {i : Nat} {ds es : List D} {l : Addr} {ys : List V} (s : S3 K W O H0 H σ ρ) (ho : ρ[i]? = some (.own ds)) (h1 : σ[i]? = some (some (.ref l))) (hy : ImL K (hid (W ++ O) H) ys es) : S3 K W O H0 (upd H l (.lst ys)) σ (ρ.set i (.own es)) := by
  obtain ⟨l', xs, g1, g2, g3, g4⟩ := s.sl.at_ i _ ho
  rw [h1] at g1
  cases g1
  have inO : l ∈ W ++ O := List.mem_append_right _ g2
  have nW := (s.sl.ok l g2).1
  have same : hid (W ++ O) (upd H l (.lst ys)) = hid (W ++ O) H := hid_upd_in inO
  refine ⟨⟨fun j c q => ?_, fun a m => ?_, fun a m => ?_, by simpa using s.sl.len⟩, s.new, ?_, fun j k c c' a k1 k2 o1 o2 e1 e2 => ?_⟩
  · by_cases hj : i = j
    · subst hj
      by_cases lt : i < ρ.length
      · rw [List.getElem?_set_self lt] at q
        cases q
        exact ⟨l, ys, h1, g2, upd_same, by rw [same]; exact hy⟩
      · rw [List.getElem?_eq_none (by simpa using lt)] at q
        cases q
    · rw [List.getElem?_set_ne hj] at q
      have z := s.sl.at_ j c q
      have apart : c.isOwn = true → ∀ b, σ[j]? = some (some (.ref b)) → b ≠ l := fun oc b eb e => by
        subst e
        exact hj (s.inj i j _ c b ho q rfl oc h1 eb)
      cases c with
      | un => trivial
      | da d =>
        obtain ⟨u, z1, z2⟩ := z
        exact ⟨u, z1, by rw [same]; exact z2⟩
      | own es =>
        obtain ⟨b, zs, z1, z2, z3, z4⟩ := z
        exact ⟨b, zs, z1, z2, by rw [upd_ne (apart rfl b z1)]; exact z3, by rw [same]; exact z4⟩
      | dic es =>
        obtain ⟨b, zs, z1, z2, z3, z4⟩ := z
        exact ⟨b, zs, z1, z2, by rw [upd_ne (apart rfl b z1)]; exact z3, by rw [same]; exact z4⟩
      | pin b es => exact ⟨z.1, by rw [same]; exact z.2⟩
      | scr b ns => exact ⟨z.1, by rw [same]; exact z.2⟩
      | well => exact z
  · obtain ⟨x, y, z, q, gd⟩ := s.sl.wk a m
    exact ⟨x, y, z, by rw [upd_ne fun e => nW (by rw [← e]; exact m)]; exact q, gd⟩
  · obtain ⟨n, o, q, so⟩ := s.sl.ok a m
    refine ⟨n, ?_⟩
    by_cases e : a = l
    · rw [e]
      exact ⟨_, upd_same, trivial⟩
    · rw [upd_ne e]
      exact ⟨o, q, so⟩
  · rw [hid_upd_out nW]
    refine Ex.mut s.ex ?_
    rw [hid_out nW]
    exact s.new l g2
  · have back : ∀ (j : Nat) (c : Cell), (ρ.set i (.own es))[j]? = some c → c.isOwn = true → ∃ c0 : Cell, ρ[j]? = some c0 ∧ c0.isOwn = true := fun j c q o => by
      by_cases hj : i = j
      · subst hj
        exact ⟨_, ho, rfl⟩
      · rw [List.getElem?_set_ne hj] at q
        exact ⟨c, q, o⟩
    obtain ⟨c1, k1, o1⟩ := back j c k1 o1
    obtain ⟨c2, k2, o2⟩ := back k c' k2 o2
    exact s.inj j k c1 c2 a k1 k2 o1 o2 e1 e2
section
variable {X : Cx} {W : List Addr} {ρ : List Cell} {f : Nat} {e : Expr} {pos p1 p2 p3 p4 p5 p6 : Pos} {x y : Str} {rest : List Stmt} {N : List Cell → Prop} {Rt : D → Prop} {P : Int → Prop} {ds es : List D}
/-- xs.append(ys.pop(e)), both owned -/
theorem r_appPop (i j : Nat) (hij : i ≠ j) (ho : ρ[i]? = some (.own ds)) (hp : ρ[j]? = some (.own es)) (h : EI X W ρ 0 e P) (hP : ∀ k, P k → 0 ≤ k ∧ k < (es.length : Int)) (hz : ds.length < 100000) (hz2 : es.length ≤ 100000) (k : ∀ (n : Nat) (d : D), es[n]? = some d → R X W ((ρ.set j (.own (es.eraseIdx n))).set i (.own (ds ++ [d]))) rest N Rt)
    (hN : X.N[i]? = some x := by rfl) (hv : Vis X.env.scope x := by first | exact Or.inl rfl | exact Or.inr (Or.inl rfl) | exact Or.inr (Or.inr rfl)) (hd : (x == ("__debug__" : Str)) = false := by decide) (hcd : (x == ("__classdict__" : Str)) = false := by decide)
    (hN2 : X.N[j]? = some y := by rfl) (hv2 : Vis X.env.scope y := by first | exact Or.inl rfl | exact Or.inr (Or.inl rfl) | exact Or.inr (Or.inr rfl)) (hd2 : (y == ("__debug__" : Str)) = false := by decide) (hcd2 : (y == ("__classdict__" : Str)) = false := by decide)
    (a1 : attributeBase (.Name x p1) "append" X.env (eval (.Name x p1) X.env) = eval (.Name x p1) X.env := by rfl) (b1 : attributeBase (.Name y p4) "pop" X.env (eval (.Name y p4) X.env) = eval (.Name y p4) X.env := by rfl)
    (a2 : ((backTo p3 (starEach (.Call (.Attribute (.Name y p4) "pop" p5) [e] [] p6 :: []) X.env)).all (fun x => !x.1) && (backToKw p3 (keywordEach [] X.env)).all (fun x => x.1.isSome) && decide ((.Call (.Attribute (.Name y p4) "pop" p5) [e] [] p6 :: ([] : List Expr)).length + ([] : List Keyword).length + (if ([] : List Keyword).isEmpty then 0 else 1) < 30)) = true := by rfl)
    (b2 : ((backTo p6 (starEach (e :: []) X.env)).all (fun x => !x.1) && (backToKw p6 (keywordEach [] X.env)).all (fun x => x.1.isSome) && decide ((e :: ([] : List Expr)).length + ([] : List Keyword).length + (if ([] : List Keyword).isEmpty then 0 else 1) < 30)) = true := by rfl)
    (a3 : (p2.endLine == p3.line) = true := by rfl) (b3 : (p5.endLine == p6.line) = true := by rfl) (a4 : starEach (.Call (.Attribute (.Name y p4) "pop" p5) [e] [] p6 :: []) X.env = (false, eval (.Call (.Attribute (.Name y p4) "pop" p5) [e] [] p6) X.env) :: starEach [] X.env := by rfl) (b4 : starEach (e :: []) X.env = (false, eval e X.env) :: starEach [] X.env := by rfl)
    (a5 : (backTo p3 (starEach [] X.env)).any (·.1) = false := by rfl) (b5 : (backTo p6 (starEach [] X.env)).any (·.1) = false := by rfl) (hsw : swapsWith (.Call (.Attribute (.Name x p1) "append" p2) [.Call (.Attribute (.Name y p4) "pop" p5) [e] [] p6] [] p3) none pos.line X.env = pure false := by rfl) :
    R X W ρ (.Expr (.Call (.Attribute (.Name x p1) "append" p2) [.Call (.Attribute (.Name y p4) "pop" p5) [e] [] p6] [] p3) pos :: rest) N Rt := fun O H0 σ H s D nx rt => by
  obtain ⟨l, xs, h1, h2, h3, h4⟩ := s.sl.at_ i _ ho
  obtain ⟨m, zs, h5, h6, h7, h8⟩ := s.sl.at_ j _ hp
  have popE : PE X (.Call (.Attribute (.Name y p4) "pop" p5) [e] [] p6) (tBM X.K "list" rPopAt (fun σ H Q => ∃ v, σ[j]? = some (some v) ∧ Q v H) (tCons (EV X e) tNil)) := pe_bm PySem.F.plainAttrs_list PySem.F.slot_list_pop PySem.F.type_list_pop mt_popAt (pe_var hN2 hv2 hd2 hcd2) (pa_cons ev_pe pa_nil b4) b1 b2 b3 b4 b5
  refine ⟨_, pss_cons (ps_expr (pe_bm PySem.F.plainAttrs_list PySem.F.slot_list_append PySem.F.type_list_append mt_append (pe_var hN hv hd hcd) (pa_cons popE pa_nil a4) a1 a2 a3 a4 a5) hsw) svs_pss, ?_⟩
  refine ⟨_, h1, .inl ⟨rfl, _, SqL.of h3⟩, ?_⟩
  refine ⟨_, h5, .inl ⟨rfl, _, SqL.of h7⟩, ?_⟩
  refine h O σ H s.sl _ fun v H1 d pd r => ?_
  obtain ⟨n, rfl, pn⟩ := pd
  obtain ⟨n0, nl⟩ := hP n pn
  have s1 := s.mono r.ex r.wk
  obtain ⟨l', xs', g1, g2, g3, g4⟩ := s1.sl.at_ i _ ho
  rw [h1] at g1
  cases g1
  obtain ⟨m', zs', k1, k2, k3, k4⟩ := s1.sl.at_ j _ hp
  rw [h5] at k1
  cases k1
  have lz := k4.length
  have lt : n.toNat < es.length := by omega
  obtain ⟨w, ew, iw⟩ := k4.get (List.getElem?_eq_getElem lt)
  refine ⟨m, zs', n, n.toNat, w, rfl, by rw [r.da.int_inv], k3, by omega, by omega, ?_, ew, ?_⟩
  · exact (ixN_seq (by unfold ixN; rw [if_pos n0, if_pos (by omega)])).1
  have s2 := s1.rewrite (ys := zs'.eraseIdx n.toNat) hp h5 (k4.erase n.toNat)
  have ho2 : (ρ.set j (.own (es.eraseIdx n.toNat)))[i]? = some (.own ds) := by
    rw [List.getElem?_set_ne fun e => hij e.symm]
    exact ho
  obtain ⟨l2, xs2, q1, q2, q3, q4⟩ := s2.sl.at_ i _ ho2
  rw [h1] at q1
  cases q1
  refine ⟨l, xs2, w, rfl, rfl, q3, by rw [q4.length]; exact Nat.lt_of_lt_of_le hz (by decide), ?_⟩
  have same : hid (W ++ O) (upd H1 m (.lst (zs'.eraseIdx n.toNat))) = hid (W ++ O) H1 := hid_upd_in (List.mem_append_right _ k2)
  refine k n.toNat _ (List.getElem?_eq_getElem lt) O H0 σ _ (s2.rewrite (ys := xs2 ++ [w]) ho2 h1 (q4.append (.cons ?_ .nil))) D nx rt
  rw [same]
  exact iw
end
end K19
end

section
set_option Elab.async false
set_option linter.all false
set_option maxRecDepth 100000
set_option maxHeartbeats 4000000
namespace K19
open PySem PySem.Spec PyProof.Rows L2
section
variable {P : Program} {w : World} {K : PySem.W.Frag} {mg : Str → Option Value} {base : Heap}
theorem cdw (i : Int) : CDivW i 997 := ⟨by decide, by decide⟩
theorem erase_perm {α : Type} : ∀ {l : List α} {i : Nat} {v : α}, l[i]? = some v → (v :: l.eraseIdx i).Perm l
  | a :: l, 0, v, h => by
    cases h
    exact .refl _
  | a :: l, i + 1, v, h => by
    have ih := erase_perm (l := l) (i := i) (v := v) (by simpa using h)
    rw [List.eraseIdx_cons_succ]
    exact (List.Perm.swap ..).trans (ih.cons a)
theorem map_eraseI {α β : Type} (f : α → β) : ∀ (l : List α) (i : Nat), (l.map f).eraseIdx i = (l.eraseIdx i).map f
  | [], _ => rfl
  | _ :: _, 0 => rfl
  | a :: l, i + 1 => by
    rw [List.map_cons, List.eraseIdx_cons_succ, List.eraseIdx_cons_succ, List.map_cons, map_eraseI f l i]
def Sdraw : List D → Prop := fun ds => ∃ n : Int, 0 < n ∧ n < 1073741824 ∧ ds = [.int n]
def Rdraw : List D → D → Prop := fun ds d => ∃ n i : Int, ds = [.int n] ∧ d = .int i ∧ 0 ≤ i ∧ i < n
theorem ei_name {X : Cx} {W : List Addr} {ρ : List Cell} {i : Int} {x : Str} {pos : Pos} (h : ED X W ρ 0 (.Name x pos) (.int i)) : EI X W ρ 0 (.Name x pos) fun z => z = i := ei_of h
theorem f_law_draw (C : Ct K mg) : Fc P w K mg base 1 "_law_draw" (spW K Sdraw Rdraw) := by
  refine mk_W (k := 0) C 41 rfl ["_law_well_here", "_law_few", "_law_figure", "_law_mixed"] ["_law_well_here", "_law_few"] ⟨rfl, rfl, rfl, by decide +kernel, rfl, by decide +kernel, by decide +kernel⟩ (fun _ _ _ _ _ _ us hl => match us, hl with | [_, _], _ => rfl) (fun ds s => ?_) fun f cdv A outer s H E hr nd wa ds sd => ?_
  -- slots: 0=_law_well_here 1=_law_few 2=_law_figure 3=_law_mixed
  · obtain ⟨n, _, _, rfl⟩ := s
    rfl
  obtain ⟨n, h0, h1, rfl⟩ := sd
  refine r_if (P := fun _ => True) (ti_cmp (k := fun i j => decide (j < i)) op_gt (e_well (k := 0) 0 rfl ⟨by decide, by decide⟩) (ei_of e_int) (fun i j => od_gt) fun _ _ _ _ => trivial) (fun _ => ?_) fun _ => r_nil ?_
  · exact r_wellDiv C.g 0 2 rfl (e_name 1 rfl) ⟨h0, h1⟩ (fun i i0 i1 => r_retD (e_name 2 rfl) rfl ⟨n, i, rfl, rfl, i0, i1⟩) nd
  refine r_wellSet (k := 2) 0 rfl ⟨by decide, by decide⟩ (ei_add (e_well (k := 2) 0 rfl ⟨by decide, by decide⟩) (ei_of e_int) (R := Bw 2) fun i j pi pj => ⟨by have := pi.1; omega, fun e => by cases e⟩) ?_
  have m1 : ∀ i j : Int, (-(2 ^ 64) < j ∧ j < 2 ^ 64) → CMul i j := fun i j h => .inr h
  refine r_set 3 (P := fun d => ∃ i, d = .int i ∧ 0 ≤ i ∧ i < 2147483477) (K19.E.up (f1 := 0) (ei_mod (ei_int C.g (ei_add (R := fun _ => True) (ei_mul (R := fun _ => True) (e_well (k := 1) 0 rfl ⟨by decide, by decide⟩) (ei_of e_int) fun i j _ pj => ⟨m1 _ _ (by rw [pj]; decide), trivial⟩) (ei_mul (R := fun _ => True) (ei_of e_int) (e_well (k := 2) 0 rfl ⟨by decide, by decide⟩) fun i j pi _ => ⟨.inl (by rw [pi]; decide), trivial⟩) fun _ _ _ _ => trivial)) (ei_of e_int) (R := fun i => 0 ≤ i ∧ i < 2147483477) fun i j _ pj => ⟨by rw [pj]; decide, by rw [pj]; exact ⟨Int.emod_nonneg _ (by decide), Int.emod_lt_of_pos _ (by decide)⟩⟩) fun d e => by
    obtain ⟨i, rfl, _⟩ := e
    rfl) (fun d e => ?_) nd
  obtain ⟨m, rfl, m0, mM⟩ := e
  refine r_wellSet (k := 1) 0 rfl ⟨by decide, by decide⟩ (ei_mod (ei_int C.g (ei_add (R := fun _ => True) (ei_mul (R := fun _ => True) (ei_of (e_name 3 rfl)) (ei_add (R := fun i => 0 ≤ i ∧ i < 100000) (ei_mod (R := fun i => 0 ≤ i ∧ i < 4999) (ei_int C.g (ei_of (e_name 3 rfl))) (ei_of e_int) fun i j _ pj => ⟨by rw [pj]; decide, by rw [pj]; exact ⟨Int.emod_nonneg _ (by decide), Int.emod_lt_of_pos _ (by decide)⟩⟩) (ei_of e_int) fun i j pi pj => by rw [pj]; omega) fun i j _ pj => ⟨m1 _ _ (by omega), trivial⟩) (e_well (k := 2) 0 rfl ⟨by decide, by decide⟩) fun _ _ _ _ => trivial)) (ei_of e_int) (R := Bw 1) fun i j _ pj => ⟨by rw [pj]; decide, by rw [pj]; exact ⟨Int.emod_nonneg _ (by decide), fun _ => Int.emod_lt_of_pos _ (by decide)⟩⟩) ?_
  refine r_retI (P := fun d => ∃ i, d = .int i ∧ 0 ≤ i ∧ i < n) (ei_mod (ei_int C.g (ei_fdiv (R := fun _ => True) (e_well (k := 1) 0 rfl ⟨by decide, by decide⟩) (ei_of e_int) fun i j _ pj => ⟨by rw [pj]; exact cdw i, trivial⟩)) (ei_of (e_name 1 rfl)) (R := fun i => 0 ≤ i ∧ i < n) fun i j _ pj => ⟨by rw [pj]; exact h0, by rw [pj]; exact ⟨Int.emod_nonneg _ (by omega), Int.emod_lt_of_pos _ h0⟩⟩) fun d e => ?_
  obtain ⟨i, rfl, i0, i1⟩ := e
  exact ⟨rfl, n, i, rfl, rfl, i0, i1⟩
/-- a draw below n -/
theorem e_draw {X : Cx} {W : List Addr} {ρ : List Cell} {f l : Nat} {e : Expr} {y : Str} {p pos : Pos} {py} {n : Int} (C : Fc X.prog X.w X.K X.mg X.base 1 "_law_draw" (spW X.K Sdraw Rdraw)) (iw : Nat) (hr : Room l X.A) (hw : ρ[iw]? = some .well) (ha : ED X W ρ 0 e (.int n)) (hn : 0 < n ∧ n < 1073741824) (hk : 1 ≤ l := by decide) (hg : Gl X "_law_draw" := by rfl)
    (hN : X.N[iw]? = some y := by rfl) (hv : Vis X.env.scope y := by first | exact Or.inl rfl | exact Or.inr (Or.inl rfl) | exact Or.inr (Or.inr rfl)) (hd : (y == ("__debug__" : Str)) = false := by decide) (hcd : (y == ("__classdict__" : Str)) = false := by decide)
    (he : starEach (.Name y py :: [e]) X.env = (false, eval (.Name y py) X.env) :: starEach [e] X.env := by rfl) (he2 : starEach (e :: []) X.env = (false, eval e X.env) :: starEach [] X.env := by rfl) (hpl : (backTo pos (starEach [e] X.env)).any (·.1) = false := by rfl) :
    EI X W ρ f (.Call (.Name "_law_draw" p) [.Name y py, e] [] pos) fun i => 0 ≤ i ∧ i < n := by
  have h : E X W ρ 1 (.Call (.Name "_law_draw" p) [.Name y py, e] [] pos) fun d => ∃ i, d = .int i ∧ 0 ≤ i ∧ i < n := e_callW iw C hr hw (ar_one (P := fun z => z = .int n) ha he2) (fun ds z => by
    obtain ⟨d, rfl, rfl⟩ := z
    refine ⟨⟨n, hn.1, hn.2, rfl⟩, fun d r => ?_⟩
    obtain ⟨n', i, e1, e2, e3, e4⟩ := r
    cases e1
    exact ⟨i, e2, e3, e4⟩) hk hg hN hv hd hcd (by decide) he hpl
  exact K19.E.up h fun d e => by
    obtain ⟨i, rfl, _⟩ := e
    rfl
def Sone : List D → Prop := fun ds => ∃ d xs k, ds = [d] ∧ itemsD d = some (xs, k) ∧ 0 < xs.length ∧ xs.length ≤ 90000 ∧ ∀ x ∈ xs, isL x = false
def Rone : List D → D → Prop := fun ds r => ∃ d xs k, ds = [d] ∧ itemsD d = some (xs, k) ∧ r ∈ xs
theorem at_drawn {xs : List D} {i : Int} (h : 0 ≤ i ∧ i < (xs.length : Int)) : ∃ d, L2.atI xs i = some d ∧ d ∈ xs := by
  have lt : i.toNat < xs.length := by omega
  refine ⟨xs[i.toNat], ?_, List.getElem_mem lt⟩
  have z := atI_at (List.getElem?_eq_getElem lt)
  rw [Int.toNat_of_nonneg h.1] at z
  exact z
theorem f_law_one (C : Ct K mg) : Fc P w K mg base 2 "_law_one" (spW K Sone Rone) := by
  refine mk_W (k := 1) C 42 rfl ["_law_well_here", "_law_some"] ["_law_well_here", "_law_some"] ⟨rfl, rfl, rfl, by decide +kernel, rfl, by decide +kernel, by decide +kernel⟩ (fun _ _ _ _ _ _ us hl => match us, hl with | [_, _], _ => rfl) (fun ds s => ?_) fun f cdv A outer s H E hr nd wa ds sd => ?_
  -- slots: 0=_law_well_here 1=_law_some
  · obtain ⟨d, xs, k, rfl, _⟩ := s
    rfl
  obtain ⟨d, xs, k, rfl, hi, h0, hz, hl⟩ := sd
  have len : lenD d = some xs.length := by
    cases d with
    | tup m es =>
      cases hi
      rfl
    | lst es =>
      cases hi
      rfl
    | _ => cases hi
  cases d with
  | tup m es =>
    cases hi
    refine r_retI (P := fun z => z ∈ xs) (e_ixTN (P2 := fun d => ∃ i, d = .int i ∧ 0 ≤ i ∧ i < (xs.length : Int)) (e_name 1 rfl) (e_draw (f_law_draw C) 0 hr rfl (e_len C.g (e_name 1 rfl) len) (by omega)) fun d e => ?_) fun d e => ⟨hl d e, _, xs, _, rfl, rfl, e⟩
    obtain ⟨i, rfl, i0, i1⟩ := e
    obtain ⟨d, e1, e2⟩ := at_drawn ⟨i0, i1⟩
    exact ⟨i, rfl, d, e1, e2⟩
  | lst es =>
    cases hi
    refine r_retI (P := fun z => z ∈ xs) (e_ixLN (P2 := fun d => ∃ i, d = .int i ∧ 0 ≤ i ∧ i < (xs.length : Int)) (e_name 1 rfl) (e_draw (f_law_draw C) 0 hr rfl (e_len C.g (e_name 1 rfl) len) (by omega)) fun d e => ?_) fun d e => ⟨hl d e, _, xs, _, rfl, rfl, e⟩
    obtain ⟨i, rfl, i0, i1⟩ := e
    obtain ⟨d, e1, e2⟩ := at_drawn ⟨i0, i1⟩
    exact ⟨i, rfl, d, e1, e2⟩
  | _ => cases hi
def Sdealt : List D → Prop := fun ds => ∃ n : Nat, n ≤ 8 ∧ ds = [nD n]
def Rdealt : List D → D → Prop := fun ds d => ∃ (n : Nat) (l : List Nat), ds = [nD n] ∧ d = .lst (l.map nD) ∧ l.Perm (List.range n)
theorem f_law_dealt (C : Ct K mg) : Fc P w K mg base 2 "_law_dealt" (spW K Sdealt Rdealt) := by
  refine mk_W (k := 1) C 43 rfl ["_law_well_here", "_law_few", "_law_left", "_law_found", "_law_turn"] ["_law_well_here", "_law_few"] ⟨rfl, rfl, rfl, by decide +kernel, rfl, by decide +kernel, by decide +kernel⟩ (fun _ _ _ _ _ _ us hl => match us, hl with | [_, _], _ => rfl) (fun ds s => ?_) fun f cdv A outer s H E hr nd wa ds sd => ?_
  -- slots: 0=_law_well_here 1=_law_few 2=_law_left 3=_law_found 4=_law_turn
  · obtain ⟨n, _, rfl⟩ := s
    rfl
  obtain ⟨n, hn, rfl⟩ := sd
  refine r_pair 2 3 2 2 (P1 := fun z => z = .lst ((List.range n).map nD)) (P2 := fun z => z = .lst []) (e_listRg C.g (n := n) rfl (e_name 1 rfl) (by omega)) (e_lst a_nil) (fun d1 d2 e1 e2 => ?_) nd
  subst e1 e2
  refine r_for (t := .nm 4) (it_rangeD C.g (n := n) (e_name 1 rfl) (by omega)) (fits_map (g := nD) (xs := List.range n) fun _ => rfl) (pgN 4 nd) (fun k ρ => ∃ (c4 : Cell) (l f : List Nat), c4.dull = true ∧ l.length + k = n ∧ (f ++ l).Perm (List.range n) ∧ ρ = [.well, .da (nD n), .own (l.map nD), .own (f.map nD), c4]) ⟨.un, List.range n, [], rfl, by rw [List.length_range]; rfl, .refl _, rfl⟩ ?_ ?_ rfl
  · rintro k d ρ' hi ⟨c4, l, fo, h4, hl, hp, rfl⟩
    obtain ⟨k', e, rfl⟩ := get_map (g := nD) (xs := List.range n) hi
    have lt := (List.getElem?_eq_some_iff.mp e).1
    rw [List.length_range] at lt
    refine ⟨fun j hj => ?_, ?_⟩
    · cases List.mem_singleton.mp hj
      exact ⟨c4, rfl, (dull_no h4).1⟩
    have fl : fo.length + l.length = n := by
      have := hp.length_eq
      rw [List.length_append, List.length_range] at this
      exact this
    refine r_appPop 3 2 (by decide) rfl rfl (e_draw (f_law_draw C) 0 hr rfl (e_len C.g (e_own 2 rfl) rfl) (by rw [List.length_map]; omega)) (fun i pi => pi) (by rw [List.length_map]; omega) (by rw [List.length_map]; omega) (fun i d ed => ?_)
    obtain ⟨v, ev, rfl⟩ := get_map ed
    have il := (List.getElem?_eq_some_iff.mp ev).1
    refine r_nil ⟨.da (nD k'), l.eraseIdx i, fo ++ [v], rfl, ?_, ?_, ?_⟩
    · rw [List.length_eraseIdx, if_pos il]
      omega
    · refine List.Perm.trans ?_ hp
      rw [List.append_assoc]
      refine List.Perm.append_left fo ?_
      exact erase_perm ev
    · rw [List.map_append, ← map_eraseI]
      rfl
  · rintro ρ' ⟨c4, l, fo, h4, hl, hp, rfl⟩
    have l0 : l = [] := by
      unfold rgD at hl
      rw [List.length_map, List.length_range] at hl
      exact List.length_eq_zero_iff.mp (by omega)
    subst l0
    rw [List.append_nil] at hp
    exact r_retOwn 3 rfl ⟨n, fo, rfl, rfl, hp⟩
end
end K19
end

section
set_option Elab.async false
set_option linter.all false
set_option maxRecDepth 100000
set_option maxHeartbeats 4000000
namespace K19
open PySem PySem.Spec PyProof.Rows L2
section
variable {X : Cx} {W : List Addr} {ρ : List Cell} {f : Nat} {a b : Expr} {P P1 P2 : D → Prop} {pos p2 : Pos}
/-- xs[:k] of a drawn list -/
theorem e_frontN (ha : E X W ρ 0 a P1) (hb : E X W ρ 0 b P2) (h : ∀ d1 d2, P1 d1 → P2 d2 → ∃ (ds : List D) (k : Nat), d1 = .lst ds ∧ d2 = .int (k : Int) ∧ P (.lst (ds.take k))) : E X W ρ f (.Subscript a (.Slice none (some b) none p2) pos) P := fun O σ H s Q q => by
  refine ⟨_, pe_slice sl_list ev_pe po_none (po_some ev_pe), ha O σ H s _ fun x H1 d1 q1 r1 => ?_⟩
  have s1 := s.mono r1.ex r1.wk
  refine hb O σ H1 s1 _ fun y H2 d2 q2 r2 => ?_
  obtain ⟨ds, k, rfl, rfl, pd⟩ := h d1 d2 q1 q2
  obtain ⟨t, xs, rfl, t1, t2⟩ := (r1.da.mono r2.ex).ls_inv
  have s2 := s1.mono r2.ex r2.wk
  refine ⟨k, r2.da.int_inv, t, xs, rfl, SqL.of (hid_some t1).2, fun p np => ?_⟩
  rw [cut_to]
  exact q _ _ _ pd ((Res.lst s2 np (t2.take k)).later (r1.ex.trans r2.ex) r2.wk)
end
/-! ### drawn contexts -/
def LotK (n : Nat) (c : List Nat) : Prop := Lot n c ∧ c ≠ [] ∧ c.length ≤ 3
def goodC (ks : List (List Nat)) (c : List Nat) : Bool := !(ks.any fun o => !(o == c) && c.all fun i => o.contains i)
structure CtxV (n : Nat) (cs : List (List Nat)) : Prop where
  lot : ∀ c ∈ cs, LotK n c
  asc : (cs.zip (cs.drop 1)).all (fun z => HT.lexLt (asI z.1) (asI z.2)) = true
  anti : ∀ a ∈ cs, ∀ b ∈ cs, a ≠ b → (a.all fun i => b.contains i) = false
  cov : ∀ i, i < n → ∃ c ∈ cs, i ∈ c
  c8 : cs.length ≤ 8
theorem rise_zip : ∀ {cs : List (List Nat)}, Rise cs → (cs.zip (cs.drop 1)).all (fun z => HT.lexLt (asI z.1) (asI z.2)) = true
  | [], _ => rfl
  | [_], _ => rfl
  | a :: b :: cs, h => by
    obtain ⟨h1, h2⟩ := List.pairwise_cons.mp h
    have ih := rise_zip (cs := b :: cs) h2
    show (((a, b) :: (b :: cs).zip ((b :: cs).drop 1)).all _) = true
    rw [List.all_cons, ih, Bool.and_true]
    exact h1 b (List.mem_cons_self ..)
theorem nodup_sub {α : Type} [DecidableEq α] : ∀ {xs ys : List α}, xs.Nodup → (∀ x ∈ xs, x ∈ ys) → xs.length ≤ ys.length
  | [], _, _, _ => Nat.zero_le _
  | x :: xs, ys, nd, h => by
    obtain ⟨n1, n2⟩ := List.nodup_cons.mp nd
    have m := h x (List.mem_cons_self ..)
    have ih := nodup_sub (xs := xs) (ys := ys.erase x) n2 fun y my => by
      have ne : y ≠ x := fun e => n1 (by rw [← e]; exact my)
      exact (List.mem_erase_of_ne ne).mpr (h y (List.mem_cons_of_mem _ my))
    have := List.length_erase_of_mem m
    have := List.length_pos_of_mem m
    rw [List.length_cons]
    omega
theorem sub_all {a b : List Nat} : (a.all fun i => b.contains i) = true ↔ ∀ i ∈ a, i ∈ b := by
  rw [List.all_eq_true]
  constructor
  · intro h i m
    have := h i m
    rw [List.contains_eq_mem] at this
    exact of_decide_eq_true this
  · intro h i m
    rw [List.contains_eq_mem]
    exact decide_eq_true (h i m)
/-- rising lists with the same members are one -/
theorem rise_ext : ∀ {a b : List Nat}, a.Pairwise (· < ·) → b.Pairwise (· < ·) → (∀ i, i ∈ a ↔ i ∈ b) → a = b
  | [], [], _, _, _ => rfl
  | [], y :: b, _, _, h => absurd ((h y).mpr (List.mem_cons_self ..)) (by simp)
  | x :: a, [], _, _, h => absurd ((h x).mp (List.mem_cons_self ..)) (by simp)
  | x :: a, y :: b, ha, hb, h => by
    obtain ⟨a1, a2⟩ := List.pairwise_cons.mp ha
    obtain ⟨b1, b2⟩ := List.pairwise_cons.mp hb
    have e : x = y := by
      have m1 := (h x).mp (List.mem_cons_self ..)
      have m2 := (h y).mpr (List.mem_cons_self ..)
      rcases List.mem_cons.mp m1 with e | m1
      · exact e
      · rcases List.mem_cons.mp m2 with e | m2
        · exact e.symm
        · have := b1 x m1
          have := a1 y m2
          omega
    subst e
    rw [rise_ext a2 b2 fun i => ?_]
    constructor
    · intro m
      rcases List.mem_cons.mp ((h i).mp (List.mem_cons_of_mem _ m)) with e | m'
      · have := a1 i m
        omega
      · exact m'
    · intro m
      rcases List.mem_cons.mp ((h i).mpr (List.mem_cons_of_mem _ m)) with e | m'
      · have := b1 i m
        omega
      · exact m'
theorem rise_nodup {c : List Nat} (h : c.Pairwise (· < ·)) : c.Nodup := List.nodup_iff_pairwise_ne.mpr (h.imp fun lt => Nat.ne_of_lt lt)
theorem sub_longer {n : Nat} {a b : List Nat} (ha : Lot n a) (hb : Lot n b) (s : ∀ i ∈ a, i ∈ b) (ne : b ≠ a) : a.length < b.length := by
  have le := nodup_sub (rise_nodup ha.1) s
  rcases Nat.lt_or_ge a.length b.length with lt | ge
  · exact lt
  · exfalso
    refine ne (rise_ext hb.1 ha.1 fun i => ⟨fun m => ?_, s i⟩)
    -- i of b lies in a, else a and i are more than b holds
    by_cases q : i ∈ a
    · exact q
    · have := nodup_sub (xs := i :: a) (ys := b) (List.nodup_cons.mpr ⟨q, rise_nodup ha.1⟩) fun j mj => by
        rcases List.mem_cons.mp mj with e | mj
        · rw [e]
          exact m
        · exact s j mj
      rw [List.length_cons] at this
      omega
theorem ctx_ok {n : Nat} {ks ks' : List (List Nat)} (hl : ∀ c ∈ ks, LotK n c) (h8 : ks.length ≤ 8) (single : ∀ i, i < n → [i] ∈ ks) (rise : Rise ks') (mem : ∀ c, c ∈ ks' ↔ c ∈ ks) : CtxV n (ks'.filter (goodC ks)) := by
  have inn : ∀ c ∈ ks'.filter (goodC ks), c ∈ ks ∧ goodC ks c = true := fun c m => by
    obtain ⟨h1, h2⟩ := List.mem_filter.mp m
    exact ⟨(mem c).mp h1, h2⟩
  have bad : ∀ c, goodC ks c = false → ∃ o ∈ ks, o ≠ c ∧ ∀ i ∈ c, i ∈ o := fun c h => by
    unfold goodC at h
    have h' : (ks.any fun o => !(o == c) && c.all fun i => o.contains i) = true := by simpa using h
    obtain ⟨o, mo, ho⟩ := List.any_eq_true.mp h'
    rw [Bool.and_eq_true] at ho
    exact ⟨o, mo, by simpa using ho.1, sub_all.mp ho.2⟩
  refine ⟨fun c m => hl c (inn c m).1, rise_zip (List.Pairwise.sublist List.filter_sublist rise), fun a ma b mb ne => ?_, fun i lt => ?_, ?_⟩
  · cases e : (a.all fun i => b.contains i) with
    | false => rfl
    | true =>
      exfalso
      have g := (inn a ma).2
      unfold goodC at g
      have : (ks.any fun o => !(o == a) && a.all fun i => o.contains i) = true := List.any_eq_true.mpr ⟨b, (inn b mb).1, by
        rw [e, Bool.and_true]
        simpa using fun z : b = a => ne z.symm⟩
      rw [this] at g
      cases g
  · have key : ∀ k c, c ∈ ks → i ∈ c → 4 ≤ c.length + k → ∃ c' ∈ ks'.filter (goodC ks), i ∈ c' := by
      intro k
      induction k with
      | zero =>
        intro c mc _ h
        have := (hl c mc).2.2
        omega
      | succ k ih =>
        intro c mc ic h
        cases g : goodC ks c with
        | true => exact ⟨c, List.mem_filter.mpr ⟨(mem c).mpr mc, g⟩, ic⟩
        | false =>
          obtain ⟨o, mo, ne, sub⟩ := bad c g
          have := sub_longer (hl c mc).1 (hl o mo).1 sub ne
          exact ih o mo (sub i ic) (by omega)
    exact key 4 [i] (single i lt) (List.mem_singleton.mpr rfl) (by simp)
  · have nd : (ks'.filter (goodC ks)).Nodup := List.nodup_iff_pairwise_ne.mpr ((List.Pairwise.sublist List.filter_sublist rise).imp fun {a b} h e => by
      rw [e] at h
      have irr : ∀ l : List Int, HT.lexLt l l = false := by
        intro l
        induction l with
        | nil => rfl
        | cons x l ih => rw [HT.lexLt_cons, if_pos rfl, ih]
      rw [irr] at h
      cases h)
    exact Nat.le_trans (nodup_sub nd fun c m => (inn c m).1) h8
end K19
end

section
set_option Elab.async false
set_option linter.all false
set_option maxRecDepth 100000
set_option maxHeartbeats 4000000
namespace K19
open PySem PySem.Spec PyProof.Rows L2
section
variable {P : Program} {w : World} {K : PySem.W.Frag} {mg : Str → Option Value} {base : Heap}
theorem e_dealt {X : Cx} {W : List Addr} {ρ : List Cell} {l : Nat} {e : Expr} {y : Str} {p pos : Pos} {py} {n : Nat} (C : Fc X.prog X.w X.K X.mg X.base 2 "_law_dealt" (spW X.K Sdealt Rdealt)) (iw : Nat) (hr : Room l X.A) (hw : ρ[iw]? = some .well) (ha : ED X W ρ 0 e (nD n)) (hn : n ≤ 8) (hk : 2 ≤ l := by decide) (hg : Gl X "_law_dealt" := by rfl)
    (hN : X.N[iw]? = some y := by rfl) (hv : Vis X.env.scope y := by first | exact Or.inl rfl | exact Or.inr (Or.inl rfl) | exact Or.inr (Or.inr rfl)) (hd : (y == ("__debug__" : Str)) = false := by decide) (hcd : (y == ("__classdict__" : Str)) = false := by decide)
    (he : starEach (.Name y py :: [e]) X.env = (false, eval (.Name y py) X.env) :: starEach [e] X.env := by rfl) (he2 : starEach (e :: []) X.env = (false, eval e X.env) :: starEach [] X.env := by rfl) (hpl : (backTo pos (starEach [e] X.env)).any (·.1) = false := by rfl) :
    E X W ρ 1 (.Call (.Name "_law_dealt" p) [.Name y py, e] [] pos) fun d => ∃ l : List Nat, d = .lst (l.map nD) ∧ l.Perm (List.range n) := e_callW iw C hr hw (ar_one (P := fun z => z = nD n) ha he2) (fun ds z => by
    obtain ⟨d, rfl, rfl⟩ := z
    refine ⟨⟨n, hn, rfl⟩, fun d r => ?_⟩
    obtain ⟨n', l, e1, e2, e3⟩ := r
    have : n = n' := nD_inj _ _ (by injection e1)
    subst this
    exact ⟨l, e2, e3⟩) hk hg hN hv hd hcd (by decide) he hpl
def Sctxs : List D → Prop := fun ds => ∃ n : Nat, 2 ≤ n ∧ n ≤ 4 ∧ ds = [nD n]
def Rctxs : List D → D → Prop := fun ds d => ∃ (n : Nat) (cs : List (List Nat)), ds = [nD n] ∧ CtxV n cs ∧ d = .tup .any (cs.map (nT .lot))
theorem nats_of {ns : List Int} {l : List Nat} (h : ns.Perm (asI l)) : ∃ l' : List Nat, ns = asI l' ∧ l'.Perm l := by
  obtain ⟨l', p, e⟩ := perm_map_inv (fun n : Nat => (n : Int)) l ns h
  exact ⟨l', e, p⟩
theorem lot_drawn {n k : Nat} {l l' : List Nat} (hp : l.Perm (List.range n)) (hk : 1 ≤ k ∧ k ≤ 3) (hn : 1 ≤ n) (h : l'.Perm (l.take k)) (srt : (asI l').Pairwise (· ≤ ·)) : LotK n l' := by
  have ndl : l.Nodup := hp.nodup_iff.mpr List.nodup_range
  have nd : l'.Nodup := h.nodup_iff.mpr (List.Nodup.sublist (List.take_sublist k l) ndl)
  have len := h.length_eq
  have ln := hp.length_eq
  rw [List.length_range] at ln
  rw [List.length_take] at len
  refine ⟨⟨?_, fun i m => ?_⟩, fun e => ?_, by omega⟩
  · have s2 := List.pairwise_map.mp srt
    refine List.Pairwise.imp (fun {a b} h => ?_) (s2.and (List.nodup_iff_pairwise_ne.mp nd))
    obtain ⟨h1, h2⟩ := h
    omega
  · have := List.mem_of_mem_take (h.mem_iff.mp m)
    exact List.mem_range.mp (hp.mem_iff.mp this)
  · rw [e] at len
    simp at len
    omega
theorem f_law_contexts (C : Ct K mg) : Fc P w K mg base 3 "_law_contexts" (spW K Sctxs Rctxs) := by
  refine mk_W (k := 2) C 49 rfl ["_law_well_here", "_law_few", "_law_some", "_law_found", "_law_at", "_law_turn", "_law_lot", "_law_other"] ["_law_well_here", "_law_few"] ⟨rfl, rfl, rfl, by decide +kernel, rfl, by decide +kernel, by decide +kernel⟩ (fun _ _ _ _ _ _ us hl => match us, hl with | [_, _], _ => rfl) (fun ds s => ?_) fun f cdv A outer s H E hr nd wa ds sd => ?_
  -- slots: 0=_law_well_here 1=_law_few 2=_law_some 3=_law_found 4=_law_at 5=_law_turn 6=_law_lot 7=_law_other
  · obtain ⟨n, _, _, rfl⟩ := s
    rfl
  obtain ⟨n, n2, n4, rfl⟩ := sd
  refine r_pair 2 3 2 2 (P1 := fun z => z = .lst ((List.range n).map fun i => nT .lot [i])) (P2 := fun z => z = .lst []) (e_lcA0 (t := .nm 4) (own := [("_law_at", 4)]) (xs := List.range n) (g0 := nD) (gg := fun i => nT .lot [i]) rfl nd (it_rangeD C.g (n := n) (e_name 1 rfl) (by omega)) (blkOk_by rfl) (fun _ _ _ _ _ => pgN 4 nd) (by decide) (fun _ _ => rfl) (fun x _ y _ => nD_inj x y) (fun i mi _ _ _ _ _ => e_tupF (ad_one (e_name 4 rfl))) (fun _ _ => rfl) (by rw [List.length_range]; omega)) (e_lst a_nil) (fun d1 d2 e1 e2 => ?_) nd
  subst e1 e2
  refine r_forN (t := .nm 5) (Pl := fun ds => ∃ m, m ≤ 4 ∧ ds = rgD m) (it_range C.g (P := fun d => ∃ i, d = .int i ∧ 1 ≤ i ∧ i ≤ 4) (ei_add (ei_of e_int) (e_draw (f_law_draw C) 0 hr rfl e_int (by decide)) fun i j pi pj => by rw [pi]; omega) fun d e => ?_) (pgN 5 nd) fun ds e => ?_
  · obtain ⟨i, rfl, i1, i4⟩ := e
    exact ⟨i.toNat, by rw [Int.toNat_of_nonneg (by omega)], by omega, i.toNat, by omega, rfl⟩
  obtain ⟨m, hm, rfl⟩ := e
  refine ⟨fun k ρ => ∃ (c5 c6 : Cell) (ks : List (List Nat)), c5.dull = true ∧ c6.isOwn = false ∧ (∀ c ∈ ks, LotK n c) ∧ ks.length ≤ n + k ∧ (∀ i, i < n → [i] ∈ ks) ∧ ρ = [.well, .da (nD n), .own (ks.map (nT .lot)), .own [], .un, c5, c6, .un], fits_map (g := nD) (xs := List.range m) fun _ => rfl, ?_, ?_, ?_⟩
  · refine ⟨.un, .un, (List.range n).map fun i => [i], rfl, rfl, fun c mc => ?_, by rw [List.length_map, List.length_range]; exact Nat.le_refl _, fun i lt => List.mem_map.mpr ⟨i, List.mem_range.mpr lt, rfl⟩, by rw [List.map_map]; rfl⟩
    obtain ⟨i, mi, rfl⟩ := List.mem_map.mp mc
    exact ⟨⟨List.pairwise_singleton _ _, fun j mj => by rw [List.mem_singleton.mp mj]; exact List.mem_range.mp mi⟩, by simp, by simp⟩
  · rintro k d ρ' hi ⟨c5, c6, ks, h5, h6, hks, hkl, hks1, rfl⟩
    obtain ⟨k', ek, rfl⟩ := get_map (g := nD) (xs := List.range m) hi
    have km := (List.getElem?_eq_some_iff.mp ek).1
    rw [List.length_range] at km
    refine ⟨fun j hj => ?_, ?_⟩
    · cases List.mem_singleton.mp hj
      exact ⟨c5, rfl, (dull_no h5).1⟩
    refine r_set 6 (P := fun d => ∃ l : List Nat, d = .lst (l.map nD) ∧ LotK n l) (e_sortN C.g (P1 := fun d => ∃ (l : List Nat) (k : Nat), d = .lst ((l.take k).map nD) ∧ l.Perm (List.range n) ∧ 1 ≤ k ∧ k ≤ 3) (e_frontN (P1 := fun d => ∃ l : List Nat, d = .lst (l.map nD) ∧ l.Perm (List.range n)) (P2 := fun d => ∃ i, d = .int i ∧ 1 ≤ i ∧ i ≤ 3) ((e_dealt (f_law_dealt C) 0 hr rfl (e_name 1 rfl) (by omega)).low (by decide)) (ei_add (ei_of e_int) (e_draw (f_law_draw C) 0 hr rfl e_int (by decide)) fun i j pi pj => by rw [pi]; omega) fun d1 d2 e1 e2 => ?_) fun d e => ?_) (fun d e => ?_) nd
    · obtain ⟨l, rfl, pl⟩ := e1
      obtain ⟨i, rfl, i1, i3⟩ := e2
      exact ⟨l.map nD, i.toNat, rfl, by rw [Int.toNat_of_nonneg (by omega)], l, i.toNat, by rw [List.map_take], pl, by omega, by omega⟩
    · obtain ⟨l, k, rfl, pl, k1, k3⟩ := e
      refine ⟨asI (l.take k), by unfold asI; rw [List.map_map]; rfl, fun ns' pm srt => ?_⟩
      obtain ⟨l', rfl, pl'⟩ := nats_of pm
      exact ⟨l', by unfold asI; rw [List.map_map]; rfl, lot_drawn pl ⟨k1, k3⟩ (by omega) pl' srt⟩
    · obtain ⟨l, rfl, hl⟩ := e
      refine r_app 2 (ds := ks.map (nT .lot)) (P := fun d => d = nT .lot l) rfl (e_tupleF C.g (e_name 6 rfl)) (by rw [List.length_map]; omega) fun d e => ?_
      subst e
      refine ⟨rfl, r_nil ⟨.da (nD k'), .da (.lst (l.map nD)), ks ++ [l], rfl, rfl, fun c mc => ?_, by rw [List.length_append]; simp; omega, fun i lt => List.mem_append_left _ (hks1 i lt), by rw [List.map_append]; rfl⟩⟩
      rcases List.mem_append.mp mc with mc | mc
      · exact hks c mc
      · rw [List.mem_singleton.mp mc]
        exact hl
  · rintro ρ' ⟨c5, c6, ks, h5, h6, hks, hkl, hks1, rfl⟩
    have lm : (rgD m).length = m := by
      unfold rgD
      rw [List.length_map, List.length_range]
    rw [lm] at hkl
    refine r_forN (t := .nm 6) (Pl := fun ds => ∃ ks', Rise ks' ∧ (∀ c, c ∈ ks' ↔ c ∈ ks) ∧ ds = ks'.map (nT .lot)) (it_list (P := fun d => ∃ ks', Rise ks' ∧ (∀ c, c ∈ ks' ↔ c ∈ ks) ∧ d = .lst (ks'.map (nT .lot))) (e_sortSet C.g hr rfl (e_own 2 rfl) (fun c mc => ⟨(hks c mc).2.1, by have := (hks c mc).2.2; omega, fun i mi => by have := (hks c mc).1.2 i mi; omega⟩) (by omega) fun ks' h1 h2 => ⟨ks', h1, h2, rfl⟩) fun d e => ?_) (pgN 6 nd) fun ds e => ?_
    · obtain ⟨ks', h1, h2, rfl⟩ := e
      exact ⟨_, rfl, ks', h1, h2, rfl⟩
    obtain ⟨ks', rise, mem, rfl⟩ := e
    have V := ctx_ok hks (by omega) hks1 rise mem
    have inks : ∀ c ∈ ks', LotK n c := fun c mc => hks c ((mem c).mp mc)
    have lk' : ks'.length ≤ 90000 := by
      have nd' : ks'.Nodup := List.nodup_iff_pairwise_ne.mpr (rise.imp fun {a b} h e => by
        rw [e] at h
        have irr : ∀ l : List Int, HT.lexLt l l = false := by
          intro l
          induction l with
          | nil => rfl
          | cons x l ih => rw [HT.lexLt_cons, if_pos rfl, ih]
        rw [irr] at h
        cases h)
      have := nodup_sub nd' fun c mc => (mem c).mp mc
      omega
    refine ⟨fun k ρ => ∃ (c5 c6 : Cell), c6.isOwn = false ∧ ρ = [.well, .da (nD n), .own (ks.map (nT .lot)), .own (((ks'.take k).filter (goodC ks)).map (nT .lot)), .un, c5, c6, .un], fits_map fun _ => rfl, ?_, ?_, ?_⟩
    · exact ⟨c5, c6, h6, rfl⟩
    · rintro k d ρ' hi ⟨c5, c6, h6, rfl⟩
      obtain ⟨c, ec, rfl⟩ := get_map hi
      have mc := List.mem_of_getElem? ec
      have lc := inks c mc
      refine ⟨fun j hj => ?_, ?_⟩
      · cases List.mem_singleton.mp hj
        exact ⟨c6, rfl, h6⟩
      have stp : (ks'.take (k + 1)).filter (goodC ks) = (ks'.take k).filter (goodC ks) ++ (if goodC ks c = true then [c] else []) := by
        rw [take_succ_get ec, List.filter_append, List.filter_cons]
        rfl
      refine r_if (P := fun z => z = goodC ks c) (t_notD (t_valD (e_anyA C.g (b := fun o => !(o == c) && c.all fun i => o.contains i) rfl (e_lcA0 (t := .nm 7) (own := [("_law_other", 7)]) (xs := ks) (g0 := nT .lot) rfl nd (it_listD (e_own 2 rfl)) (blkOk_by rfl) (fun _ _ _ _ _ => pgN 7 nd) (by decide) (fun _ _ => rfl) (fun x _ y _ => nT_inj x y) (fun o mo _ _ _ _ _ => e_and (ED.eq (e_cmpD (op_neD hr.u64) (e_name (d := nT .lot o) 7 rfl) (e_name (d := nT .lot c) 6 rfl) (od_ne ((sh_nT _).ok (by decide)) ((sh_nT _).ok (by decide)))) (by rw [eqv_nT])) fun _ => e_one (e_callD (f_law_is_within C) hr (ad_cons (e_name 6 rfl) (ad_one (e_name 7 rfl))) ⟨.lot, .lot, c, o, by have := lc.2.2; omega, rfl, rfl⟩)) (fun _ _ => rfl) (by omega))))) (fun g => ?_) fun g => ?_
      · have g : goodC ks c = true := g.symm
        have fl : ((ks'.take k).filter (goodC ks)).length ≤ 90000 := Nat.le_trans (List.length_filter_le ..) (by rw [List.length_take]; omega)
        refine r_app 3 (ds := ((ks'.take k).filter (goodC ks)).map (nT .lot)) (P := fun d => d = nT .lot c) rfl (e_name 6 rfl) (by rw [List.length_map]; omega) fun d e => ?_
        subst e
        refine ⟨rfl, r_nil (r_nil ⟨c5, .da (nT .lot c), rfl, ?_⟩)⟩
        rw [stp, if_pos g, List.map_append]
        rfl
      · have g : goodC ks c = false := g.symm
        refine r_nil (r_nil ⟨c5, .da (nT .lot c), rfl, ?_⟩)
        rw [stp, g, if_neg (by decide), List.append_nil]
        rfl
    · rintro ρ' ⟨c5, c6, h6, rfl⟩
      rw [List.length_map, List.take_length]
      refine r_ret (K19.E.imp (ED.lq (e_tuple C.g (e_own 3 rfl)) (.any (LqL.refl _))) fun d e => ?_)
      subst e
      exact ⟨n, _, rfl, V, rfl⟩
end
end K19
end

section
set_option Elab.async false
set_option linter.all false
set_option maxRecDepth 100000
set_option maxHeartbeats 4000000
namespace K19
open PySem PySem.Spec PyProof.Rows L2
def scB (os : List Nat) (cs : List (List Nat)) : Bool := decide (1 ≤ os.length) && (decide (os.length ≤ 4) && (os.all (fun o => decide (2 ≤ o) && decide (o ≤ 4)) && (decide (prodN os ≤ 64) && (cs.all (fun c => decide (c.Pairwise (· < ·)) && (c.all (fun i => decide (i < os.length)) && (!(c == []) && decide (c.length ≤ 3)))) &&
  ((cs.zip (cs.drop 1)).all (fun z => HT.lexLt (asI z.1) (asI z.2)) && (cs.all (fun a => cs.all fun b => a == b || !(a.all fun i => b.contains i)) && ((List.range os.length).all (fun i => cs.any fun c => c.contains i) && decide (cs.length ≤ 8))))))))
theorem scV_of {os : List Nat} {cs : List (List Nat)} (h : scB os cs = true) : ScV os cs := by
  unfold scB at h
  simp only [Bool.and_eq_true, decide_eq_true_iff, List.all_eq_true] at h
  obtain ⟨h1, h2, h3, h4, h5, h6, h7, h8, h9⟩ := h
  refine ⟨h1, h2, fun o m => h3 o m, h4, fun c m => ?_, ?_, fun a ma b mb ne => ?_, fun i lt => ?_, fun c m => (h5 c m).2.2.2, h9⟩
  · obtain ⟨q1, q2, q3, q4⟩ := h5 c m
    exact ⟨⟨q1, q2⟩, by simpa using q3⟩
  · exact List.all_eq_true.mpr h6
  · have := h7 a ma b mb
    rw [Bool.or_eq_true] at this
    rcases this with e | e
    · exact absurd (eq_of_beq e) ne
    · simpa using e
  · have := h8 i (List.mem_range.mpr lt)
    obtain ⟨c, mc, ic⟩ := List.any_eq_true.mp this
    rw [List.contains_eq_mem] at ic
    exact ⟨c, mc, of_decide_eq_true ic⟩
section
variable {P : Program} {w : World} {K : PySem.W.Frag} {mg : Str → Option Value} {base : Heap}
theorem prod_snoc (os : List Nat) (o : Nat) : prodN (os ++ [o]) = prodN os * o := by
  unfold prodN
  rw [List.foldl_append]
  rfl
def Sscn : List D → Prop := fun ds => ds = []
def Rscn : List D → D → Prop := fun ds d => ∃ os cs, ScV os cs ∧ d = scD os cs
theorem lq_sc {m1 m2 m3 : Mk} {os : List Nat} {cs : List (List Nat)} : Lq (.tup m1 [nT m2 os, .tup m3 (cs.map (nT .lot))]) (scD os cs) := .any (.cons (.any (LqL.refl _)) (.cons (.any (LqL.refl _)) .nil))
theorem scn_lq {X : Cx} {W : List Addr} {ρ : List Cell} {f : Nat} {e : Expr} {os : List Nat} {cs : List (List Nat)} {m1 m2 m3 : Mk} (h : ED X W ρ f e (.tup m1 [nT m2 os, .tup m3 (cs.map (nT .lot))])) (V : scB os cs = true) : E X W ρ f e (Rscn []) := E.lq h fun d z => ⟨scD os cs, by rw [z]; exact lq_sc, os, cs, scV_of V, rfl⟩
def oneL : List D := [.tup .key [nT .key [2], .tup .key ([[0]].map (nT .lot))], .tup .key [nT .key [3], .tup .key ([[0]].map (nT .lot))], .tup .key [nT .key [2, 2], .tup .key ([[0], [1]].map (nT .lot))], .tup .key [nT .key [2, 3], .tup .key ([[0, 1]].map (nT .lot))]]
theorem e_lots1 {X : Cx} {W : List Addr} {ρ : List Cell} {f : Nat} {i : Int} {n : Nat} {k j} {p1 pos : Pos} (h : (n : Int) = i := by rfl) : ED X W ρ f (.Tuple [.Constant (.int i) k p1] j pos) (nT .lot [n]) := ED.eq (e_tupF (ad_one e_int)) (by unfold nT nD; rw [List.map_cons, h]; rfl)
theorem e_lots2 {X : Cx} {W : List Addr} {ρ : List Cell} {f : Nat} {i i' : Int} {n n' : Nat} {k k' j} {p1 p2 pos : Pos} (h : (n : Int) = i := by rfl) (h' : (n' : Int) = i' := by rfl) : ED X W ρ f (.Tuple [.Constant (.int i) k p1, .Constant (.int i') k' p2] j pos) (nT .lot [n, n']) := ED.eq (e_tupF (ad_cons e_int (ad_one e_int))) (by unfold nT nD; rw [List.map_cons, List.map_cons, h, h']; rfl)
theorem e_tupH {X : Cx} {W : List Addr} {ρ : List Cell} {f : Nat} {e : Expr} {es : List Expr} {P : D → Prop} {ds : List D} {j} {pos : Pos} (ha : E X W ρ 0 e P) (hp : ∀ d, P d → isL d = false) (hr : AD X W ρ es ds) (n : noL ds = true := by rfl) (z : ds.length ≤ 900 := by exact Nat.le_of_ble_eq_true rfl) (hs : starEach (e :: es) X.env = (false, eval e X.env) :: starEach es X.env := by rfl) : E X W ρ f (.Tuple (e :: es) j pos) fun d => ∃ h, P h ∧ d = .tup .key (h :: ds) :=
  e_tupN (Pl := fun l => ∃ h, P h ∧ l = h :: ds) (a_cons ha hr (fun d l p1 p2 => ⟨d, p1, by rw [p2]⟩) hs) fun l e => by
    obtain ⟨h, ph, rfl⟩ := e
    refine ⟨?_, by rw [List.length_cons]; omega, h, ph, rfl⟩
    show (!isL h && noL ds) = true
    rw [hp h ph, n]
    rfl
theorem e_two3 {X : Cx} {W : List Addr} {ρ : List Cell} {f : Nat} {c : Expr} {k1 k2} {p1 p2 pos : Pos} {B : Bool → Prop} (h : T X W ρ c B) : E X W ρ f (.IfExp c (.Constant (.int 3) k1 p1) (.Constant (.int 2) k2 p2) pos) fun d => d = nD 2 ∨ d = nD 3 := e_ifN h (fun _ => E.imp e_int fun d e => .inr e) fun _ => E.imp e_int fun d e => .inl e
theorem Ar.imp {X : Cx} {W : List Addr} {ρ : List Cell} {es : List Expr} {P Q : List D → Prop} (h : Ar X W ρ es P) (k : ∀ ds, P ds → Q ds) : Ar X W ρ es Q := fun O σ H s R q => h O σ H s R fun vs H' ds p => q vs H' ds (k ds p)
theorem f_law_scenario (C : Ct K mg) : Fc P w K mg base 4 "_law_scenario" (spW K Sscn Rscn) := by
  refine mk_W (k := 3) C 51 rfl ["_law_well_here", "_law_way", "_law_pairs", "_law_triangle", "_law_few", "_law_outcomes", "_law_at"] ["_law_well_here"] ⟨rfl, rfl, rfl, by decide +kernel, rfl, by decide +kernel, by decide +kernel⟩ (fun _ _ _ _ _ _ us hl => match us, hl with | [_], _ => rfl) (fun ds s => ?_) fun f cdv A outer s H E hr nd wa ds sd => ?_
  -- slots: 0=_law_well_here 1=_law_way 2=_law_pairs 3=_law_triangle 4=_law_few 5=_law_outcomes 6=_law_at
  · rw [s]
    rfl
  subst sd
  refine r_pair 1 2 1 1 (P1 := fun d => ∃ i, d = .int i ∧ 0 ≤ i ∧ i < 12) (P2 := fun z => z = .tup .key ([[0, 2], [0, 3], [1, 2], [1, 3]].map (nT .lot))) (e_draw (f_law_draw C) 0 hr rfl e_int (by decide)) (e_tup (ad_cons (e_lots2 (n := 0) (n' := 2)) (ad_cons (e_lots2 (n := 0) (n' := 3)) (ad_cons (e_lots2 (n := 1) (n' := 2)) (ad_one (e_lots2 (n := 1) (n' := 3))))))) (fun d1 d2 e1 e2 => ?_) nd
  subst e2
  obtain ⟨way, rfl, _, _⟩ := e1
  refine r_if (P := fun _ => True) (K19.T.imp (t_cmpD op_lt (e_name (d := .int way) 1 rfl) e_int od_lt) fun _ _ => trivial) (fun _ => ?_) fun _ => r_nil ?_
  · refine r_ret (K19.E.lq (P := fun d => ∃ h, (∃ h2, (h2 = nD 2 ∨ h2 = nD 3) ∧ h = .tup .key (h2 :: [nD 2, nD 2, nD 2])) ∧ d = .tup .key (h :: [.tup .key ([[0, 2], [0, 3], [1, 2], [1, 3]].map (nT .lot))])) (e_tupH (e_tupH (e_two3 (ti_cmp (k := fun i j => i == j) (B := fun _ => True) op_eq (e_draw (f_law_draw C) 0 hr rfl e_int (by decide)) (ei_of e_int) (fun i j => od_eqI) fun _ _ _ _ => trivial)) (fun d e => by rcases e with rfl | rfl <;> rfl) (ad_cons e_int (ad_cons e_int (ad_one e_int)))) (fun d e => by obtain ⟨h2, _, rfl⟩ := e; rfl) (ad_one (e_name 2 rfl))) fun d e => ?_)
    obtain ⟨h, ⟨h2, e2, rfl⟩, rfl⟩ := e
    rcases e2 with rfl | rfl
    · exact ⟨scD [2, 2, 2, 2] [[0, 2], [0, 3], [1, 2], [1, 3]], lq_sc (m1 := .key) (m2 := .key) (m3 := .key) (os := [2, 2, 2, 2]) (cs := [[0, 2], [0, 3], [1, 2], [1, 3]]), _, _, scV_of (by decide +kernel), rfl⟩
    · exact ⟨scD [3, 2, 2, 2] [[0, 2], [0, 3], [1, 2], [1, 3]], lq_sc (m1 := .key) (m2 := .key) (m3 := .key) (os := [3, 2, 2, 2]) (cs := [[0, 2], [0, 3], [1, 2], [1, 3]]), _, _, scV_of (by decide +kernel), rfl⟩
  refine r_if (P := fun _ => True) (K19.T.imp (t_cmpD op_lt (e_name (d := .int way) 1 rfl) e_int od_lt) fun _ _ => trivial) (fun _ => ?_) fun _ => r_nil ?_
  · refine r_set 3 (P := fun d => ∃ o, (o = 2 ∨ o = 3) ∧ d = .tup .key [nT .key [2, 2, o], .tup .key ([[0, 1], [0, 2], [1, 2]].map (nT .lot))]) (e_tupN (Pl := fun ds => ∃ o, (o = 2 ∨ o = 3) ∧ ds = [nT .key [2, 2, o], .tup .key ([[0, 1], [0, 2], [1, 2]].map (nT .lot))]) (a_cons (P := fun d => ∃ o, (o = 2 ∨ o = 3) ∧ d = nT .key [2, 2, o]) (Pl := fun ds => ds = [.tup .key ([[0, 1], [0, 2], [1, 2]].map (nT .lot))]) (e_tupN (Pl := fun ds => ∃ o, (o = 2 ∨ o = 3) ∧ ds = [nD 2, nD 2, nD o]) (a_cons (P := fun d => d = nD 2) (Pl := fun ds => ∃ o, (o = 2 ∨ o = 3) ∧ ds = [nD 2, nD o]) e_int (a_cons (P := fun d => d = nD 2) (Pl := fun ds => ∃ o, (o = 2 ∨ o = 3) ∧ ds = [nD o]) e_int (K19.Ar.imp (ar_one (e_two3 (ti_cmp (k := fun i j => i == j) (B := fun _ => True) op_eq (e_draw (f_law_draw C) 0 hr rfl e_int (by decide)) (ei_of e_int) (fun i j => od_eqI) fun _ _ _ _ => trivial))) fun ds e => ?_) fun d ds e1 e2 => ?_) fun d ds e1 e2 => ?_) fun ds e => ?_) (ad_one (e_tup (ad_cons (e_lots2 (n := 0) (n' := 1)) (ad_cons (e_lots2 (n := 0) (n' := 2)) (ad_one (e_lots2 (n := 1) (n' := 2))))))) fun d ds e1 e2 => ?_) fun ds e => ?_) (fun d e => ?_) nd
    · obtain ⟨d, rfl, e⟩ := e
      rcases e with rfl | rfl
      · exact ⟨2, .inl rfl, rfl⟩
      · exact ⟨3, .inr rfl, rfl⟩
    · obtain ⟨o, ho, rfl⟩ := e2
      exact ⟨o, ho, by rw [e1]⟩
    · obtain ⟨o, ho, rfl⟩ := e2
      exact ⟨o, ho, by rw [e1]⟩
    · obtain ⟨o, ho, rfl⟩ := e
      exact ⟨rfl, Nat.le_of_ble_eq_true rfl, o, ho, rfl⟩
    · obtain ⟨o, ho, rfl⟩ := e1
      exact ⟨o, ho, by rw [e2]⟩
    · obtain ⟨o, ho, rfl⟩ := e
      exact ⟨rfl, Nat.le_of_ble_eq_true rfl, o, ho, rfl⟩
    · obtain ⟨o, ho, rfl⟩ := e
      refine r_ret (e_ifN (P' := fun _ => True) (K19.T.imp (t_cmpD op_eq (e_name (d := .int way) 1 rfl) e_int od_eqI) fun _ _ => trivial) (fun _ => K19.E.lq (P := fun z => z = _) (e_name (d := .tup .key [nT .key [2, 2, o], .tup .key ([[0, 1], [0, 2], [1, 2]].map (nT .lot))]) 3 rfl) fun d e => ?_) fun _ => scn_lq (os := [2, 2, 2]) (cs := [[0, 1], [1, 2]]) (e_tup (ad_cons (e_tup (ad_cons e_int (ad_cons e_int (ad_one e_int)))) (ad_one (e_tup (ad_cons (e_lots2 (n := 0) (n' := 1)) (ad_one (e_lots2 (n := 1) (n' := 2)))))))) (by decide +kernel))
      rcases ho with rfl | rfl
      · exact ⟨scD [2, 2, 2] [[0, 1], [0, 2], [1, 2]], by rw [e]; exact lq_sc, _, _, scV_of (by decide +kernel), rfl⟩
      · exact ⟨scD [2, 2, 3] [[0, 1], [0, 2], [1, 2]], by rw [e]; exact lq_sc, _, _, scV_of (by decide +kernel), rfl⟩
  refine r_if (P := fun _ => True) (K19.T.imp (t_cmpD op_eq (e_name (d := .int way) 1 rfl) e_int od_eqI) fun _ _ => trivial) (fun _ => ?_) fun _ => r_nil ?_
  · refine r_ret (K19.E.lq (P := fun d => d ∈ oneL) (K19.E.up (f1 := 1) (e_callW 0 (f_law_one C) hr rfl (ad_one (d := .tup .key oneL) (e_tup (ad_cons (e_tup (ad_cons (e_tup (ad_one e_int)) (ad_one (e_tup (ad_one (e_lots1 (n := 0))))))) (ad_cons (e_tup (ad_cons (e_tup (ad_one e_int)) (ad_one (e_tup (ad_one (e_lots1 (n := 0))))))) (ad_cons (e_tup (ad_cons (e_tup (ad_cons e_int (ad_one e_int))) (ad_one (e_tup (ad_cons (e_lots1 (n := 0)) (ad_one (e_lots1 (n := 1)))))))) (ad_one (e_tup (ad_cons (e_tup (ad_cons e_int (ad_one e_int))) (ad_one (e_tup (ad_one (e_lots2 (n := 0) (n' := 1))))))))))))) (fun ds e => ?_)) fun d e => ?_) fun d e => ?_)
    · subst e
      refine ⟨⟨_, oneL, false, rfl, rfl, by decide, by decide, fun x m => ?_⟩, fun d r => ?_⟩
      · simp only [oneL, List.mem_cons, List.not_mem_nil, or_false] at m
        rcases m with rfl | rfl | rfl | rfl <;> rfl
      · obtain ⟨d', xs, k, e1, e2, e3⟩ := r
        cases e1
        cases e2
        exact e3
    · simp only [oneL, List.mem_cons, List.not_mem_nil, or_false] at e
      rcases e with rfl | rfl | rfl | rfl <;> rfl
    · simp only [oneL, List.mem_cons, List.not_mem_nil, or_false] at e
      rcases e with rfl | rfl | rfl | rfl
      · exact ⟨scD [2] [[0]], lq_sc, _, _, scV_of (by decide +kernel), rfl⟩
      · exact ⟨scD [3] [[0]], lq_sc, _, _, scV_of (by decide +kernel), rfl⟩
      · exact ⟨scD [2, 2] [[0], [1]], lq_sc, _, _, scV_of (by decide +kernel), rfl⟩
      · exact ⟨scD [2, 3] [[0, 1]], lq_sc, _, _, scV_of (by decide +kernel), rfl⟩
  refine r_pair 4 5 1 2 (P1 := fun d => ∃ n : Nat, d = nD n ∧ 2 ≤ n ∧ n ≤ 4) (P2 := fun z => z = .lst []) (K19.E.imp (ei_add (ei_of e_int) (e_draw (f_law_draw C) 0 hr rfl e_int (by decide)) (R := fun i => 2 ≤ i ∧ i ≤ 4) fun i j pi pj => by rw [pi]; omega) fun d e => ?_) (e_lst a_nil) (fun d1 d2 e1 e2 => ?_) nd
  · obtain ⟨i, rfl, i2, i4⟩ := e
    exact ⟨i.toNat, by unfold nD; rw [Int.toNat_of_nonneg (by omega)], by omega, by omega⟩
  subst e2
  obtain ⟨n, rfl, n2, n4⟩ := e1
  refine r_for (t := .nm 6) (it_rangeD C.g (n := n) (e_name 4 rfl) (by omega)) (fits_map (g := nD) (xs := List.range n) fun _ => rfl) (pgN 6 nd) (fun k ρ => ∃ (c6 : Cell) (os : List Nat), c6.dull = true ∧ os.length = k ∧ (∀ o ∈ os, o = 2 ∨ o = 3) ∧ 2 * prodN os ≤ 3 * 2 ^ k ∧ (3 ∉ os → prodN os ≤ 2 ^ k) ∧ ρ = [.well, .da (.int way), .da (.tup .key ([[0, 2], [0, 3], [1, 2], [1, 3]].map (nT .lot))), .un, .da (nD n), .own (os.map nD), c6]) ⟨.un, [], rfl, rfl, fun o m => (by cases m), by decide, fun _ => by decide, rfl⟩ ?_ ?_ rfl
  · rintro k d ρ' hi ⟨c6, os, h6, hl, ho, hp, hp2, rfl⟩
    obtain ⟨k', ek, rfl⟩ := get_map (g := nD) (xs := List.range n) hi
    have km := (List.getElem?_eq_some_iff.mp ek).1
    rw [List.length_range] at km
    refine ⟨fun j hj => ?_, ?_⟩
    · cases List.mem_singleton.mp hj
      exact ⟨c6, rfl, (dull_no h6).1⟩
    have eos : os.map nD = (asI os).map .int := by
      unfold asI
      rw [List.map_map]
      rfl
    refine r_app 5 (ds := os.map nD) (P := fun d => ∃ o, d = nD o ∧ (o = 2 ∨ (o = 3 ∧ 3 ∉ os))) rfl (e_ifN (P' := fun b => b = true → 3 ∉ os) (t_of (tw_and (P := fun _ => True) (ti_cmp (k := fun i j => i == j) (B := fun _ => True) op_eq (e_draw (f_law_draw C) 0 hr rfl e_int (by decide)) (ei_of e_int) (fun i j => od_eqI) fun _ _ _ _ => trivial) (fun _ => tw_and1 (K19.T.imp (t_cmpD (k := !(asI os).any fun y => y == 3) op_notIn_seq (e_int (i := 3)) (by rw [← eos]; exact e_own 5 rfl) od_ninL) fun b eb hb m => ?_)) fun _ hb => by cases hb)) (fun hb => K19.E.imp e_int fun d e => ⟨3, e, .inr ⟨rfl, hb rfl⟩⟩) fun _ => K19.E.imp e_int fun d e => ⟨2, e, .inl rfl⟩) (by rw [List.length_map]; omega) fun d e => ?_
    · rw [eb] at hb
      have : ((asI os).any fun y => y == 3) = true := List.any_eq_true.mpr ⟨3, List.mem_map.mpr ⟨3, m, rfl⟩, rfl⟩
      rw [this] at hb
      cases hb
    · obtain ⟨o, rfl, ho2⟩ := e
      refine ⟨rfl, r_nil ⟨.da (nD k'), os ++ [o], rfl, by rw [List.length_append, hl]; rfl, fun o' m => ?_, ?_, fun no => ?_, by rw [List.map_append]; rfl⟩⟩
      · rcases List.mem_append.mp m with m | m
        · exact ho o' m
        · rw [List.mem_singleton.mp m]
          rcases ho2 with e | e
          · exact .inl e
          · exact .inr e.1
      · rw [prod_snoc, Nat.pow_succ]
        rcases ho2 with rfl | ⟨rfl, no⟩
        · omega
        · have := hp2 no
          omega
      · rw [prod_snoc, Nat.pow_succ]
        rcases ho2 with rfl | ⟨rfl, _⟩
        · have := hp2 fun m => no (List.mem_append_left _ m)
          omega
        · exact absurd (List.mem_append_right _ (List.mem_singleton.mpr rfl)) no
  · rintro ρ' ⟨c6, os, h6, hl, ho, hp, hp2, rfl⟩
    have ln : (rgD n).length = n := by
      unfold rgD
      rw [List.length_map, List.length_range]
    rw [ln] at hl hp
    refine r_ret (K19.E.lq (P := fun d => ∃ cs, CtxV n cs ∧ d = .tup .key [.tup .key (os.map nD), .tup .any (cs.map (nT .lot))]) (e_tupN (Pl := fun ds => ∃ cs, CtxV n cs ∧ ds = [.tup .key (os.map nD), .tup .any (cs.map (nT .lot))]) (a_cons (P := fun d => d = .tup .key (os.map nD)) (Pl := fun ds => ∃ cs, CtxV n cs ∧ ds = [.tup .any (cs.map (nT .lot))]) (e_tuple C.g (e_own 5 rfl)) (K19.Ar.imp (ar_one ((e_callW 0 (P := fun d => ∃ cs, CtxV n cs ∧ d = .tup .any (cs.map (nT .lot))) (f_law_contexts C) hr rfl (ad_one (e_name 4 rfl)) (fun ds e => ?_)).low (by decide))) fun ds e => ?_) fun d ds e1 e2 => ?_) fun ds e => ?_) fun d e => ?_)
    · subst e
      refine ⟨⟨n, n2, n4, rfl⟩, fun d r => ?_⟩
      obtain ⟨n', cs, e1, e2, e3⟩ := r
      have : n = n' := nD_inj _ _ (by injection e1)
      subst this
      exact ⟨cs, e2, e3⟩
    · obtain ⟨d, rfl, cs, V, rfl⟩ := e
      exact ⟨cs, V, rfl⟩
    · obtain ⟨cs, V, rfl⟩ := e2
      exact ⟨cs, V, by rw [e1]⟩
    · obtain ⟨cs, V, rfl⟩ := e
      exact ⟨rfl, Nat.le_of_ble_eq_true rfl, cs, V, rfl⟩
    · obtain ⟨cs, V, rfl⟩ := e
      refine ⟨scD os cs, lq_sc, os, cs, ⟨by omega, by omega, fun o m => ?_, ?_, fun c m => ?_, V.asc, V.anti, fun i lt => V.cov i (by omega), fun c m => (V.lot c m).2.2, V.c8⟩, rfl⟩
      · rcases ho o m with e | e <;> omega
      · have : (2 : Nat) ^ n ≤ 2 ^ 4 := Nat.pow_le_pow_right (by decide) n4
        omega
      · have := V.lot c m
        exact ⟨by rw [hl]; exact this.1, this.2.1⟩
end
end K19
end

section
set_option Elab.async false
set_option linter.all false
set_option maxRecDepth 100000
set_option maxHeartbeats 4000000
namespace K19
open PySem PySem.Spec PyProof.Rows L2
theorem fr_one_over (m : Nat) (h : 0 < m) : fr (mkRat 1 m) = .tup .any [.int 1, .int (m : Int)] := by
  rw [fr_mk 1 m h]
  have e : Nat.gcd (Int.natAbs 1) m = 1 := Nat.gcd_one_left m
  rw [e]
  simp
section
variable {P : Program} {w : World} {K : PySem.W.Frag} {mg : Str → Option Value} {base : Heap}
structure JnV (os : List Nat) (pairs : List (List Nat × Rat)) (m : Nat) : Prop where
  m0 : 0 < m
  m8 : m ≤ 8
  len : pairs.length = m
  all : ∀ z ∈ pairs, Whole os z.1 ∧ z.2 = mkRat 1 m
def Sjoint : List D → Prop := fun ds => ∃ os cs, ScV os cs ∧ ds = [scD os cs]
def Rjoint : List D → D → Prop := fun ds d => ∃ os cs pairs m, ds = [scD os cs] ∧ JnV os pairs m ∧ d = .lst (pairs.map (prA (nT .any) fr))
theorem whole_ne {os : List Nat} {cs : List (List Nat)} (V : ScV os cs) : 0 < (sects os (List.range os.length)).length := by
  have : Vs os (List.range os.length) (os.map fun _ => 0) := whole_vs.mpr ⟨List.length_map .., fun i lt => by
    have e : (os.map fun _ => 0).getD i 0 = 0 := by
      rw [List.getD_eq_getElem?_getD, List.getElem?_map, List.getElem?_eq_getElem lt]
      rfl
    rw [e]
    have := V.o2 _ (List.mem_of_getElem? (getD_some lt))
    omega⟩
  exact List.length_pos_of_mem (sects_mem.mpr this)
theorem f_law_joint (C : Ct K mg) : Fc P w K mg base 3 "_law_joint" (spW K Sjoint Rjoint) := by
  refine mk_W (k := 2) C 56 rfl ["_law_well_here", "_law_scenario_here", "_law_every", "_law_many", "_law_found", "_law_turn"] ["_law_well_here", "_law_scenario_here"] ⟨rfl, rfl, rfl, by decide +kernel, rfl, by decide +kernel, by decide +kernel⟩ (fun _ _ _ _ _ _ us hl => match us, hl with | [_, _], _ => rfl) (fun ds s => ?_) fun f cdv A outer s H E hr nd wa ds sd => ?_
  -- slots: 0=_law_well_here 1=_law_scenario_here 2=_law_every 3=_law_many 4=_law_found 5=_law_turn
  · obtain ⟨os, cs, _, rfl⟩ := s
    rfl
  obtain ⟨os, cs, V, rfl⟩ := sd
  have ho : ∀ o ∈ os, o ≤ 4 := fun o m => (V.o2 o m).2
  have hn := V.n6
  have gl : (sects os (List.range os.length)).length ≤ 256 := Nat.le_trans (sects_len ho _) (Nat.le_trans (Nat.pow_le_pow_right (by decide) (by rw [List.length_range]; exact hn)) (by decide))
  refine r_tri 2 3 4 1 1 2 (P1 := fun d => d = .lst ((sects os (List.range os.length)).map (nT .key))) (P2 := fun d => ∃ m : Nat, d = nD m ∧ 1 ≤ m ∧ m ≤ 8) (P3 := fun d => d = .lst []) (e_callD (f_law_globals C) hr (ad_one (e_name 1 rfl)) ⟨os, cs, ho, by omega, rfl, rfl⟩) (e_callW 0 (f_law_one C) hr rfl (ad_one (d := .tup .key [nD 1, nD 2, nD 3, nD 4, nD 6, nD 8]) (e_tup (ad_cons e_int (ad_cons e_int (ad_cons e_int (ad_cons e_int (ad_cons e_int (ad_one e_int)))))))) fun ds e => ?_) (e_lst a_nil) (fun d1 d2 d3 e1 e2 e3 => ?_) nd
  · subst e
    refine ⟨⟨_, _, false, rfl, rfl, by decide, by decide, fun x m => ?_⟩, fun d r => ?_⟩
    · simp only [List.mem_cons, List.not_mem_nil, or_false] at m
      rcases m with rfl | rfl | rfl | rfl | rfl | rfl <;> rfl
    · obtain ⟨d', xs, k, e1, e2, e3⟩ := r
      cases e1
      cases e2
      simp only [List.mem_cons, List.not_mem_nil, or_false] at e3
      rcases e3 with rfl | rfl | rfl | rfl | rfl | rfl
      · exact ⟨1, rfl, by decide, by decide⟩
      · exact ⟨2, rfl, by decide, by decide⟩
      · exact ⟨3, rfl, by decide, by decide⟩
      · exact ⟨4, rfl, by decide, by decide⟩
      · exact ⟨6, rfl, by decide, by decide⟩
      · exact ⟨8, rfl, by decide, by decide⟩
  subst e1 e3
  obtain ⟨m, rfl, m1, m8⟩ := e2
  refine r_for (t := .nm 5) (it_rangeD C.g (n := m) (e_name 3 rfl) (by omega)) (fits_map (g := nD) (xs := List.range m) fun _ => rfl) (pgN 5 nd) (fun k ρ => ∃ (c5 : Cell) (pairs : List (List Nat × Rat)), c5.dull = true ∧ pairs.length = k ∧ (∀ z ∈ pairs, Whole os z.1 ∧ z.2 = mkRat 1 m) ∧ ρ = [.well, .da (scD os cs), .da (.lst ((sects os (List.range os.length)).map (nT .key))), .da (nD m), .own (pairs.map (prA (nT .any) fr)), c5]) ⟨.un, [], rfl, rfl, fun z m => (by cases m), rfl⟩ ?_ ?_ rfl
  · rintro k d ρ' hi ⟨c5, pairs, h5, hl, hp, rfl⟩
    obtain ⟨k', ek, rfl⟩ := get_map (g := nD) (xs := List.range m) hi
    have km := (List.getElem?_eq_some_iff.mp ek).1
    rw [List.length_range] at km
    refine ⟨fun j hj => ?_, ?_⟩
    · cases List.mem_singleton.mp hj
      exact ⟨c5, rfl, (dull_no h5).1⟩
    refine r_app 4 (ds := pairs.map (prA (nT .any) fr)) (P := fun d => ∃ g, Whole os g ∧ d = prA (nT .any) fr (g, mkRat 1 m)) rfl (K19.E.lq (P := fun d => ∃ g, Whole os g ∧ d = .tup .key [nT .key g, .tup .key [.int 1, .int (m : Int)]]) (e_tupN (Pl := fun ds => ∃ g, Whole os g ∧ ds = [nT .key g, .tup .key [.int 1, .int (m : Int)]]) (a_cons (P := fun d => ∃ g, Whole os g ∧ d = nT .key g) (Pl := fun ds => ds = [.tup .key [.int 1, .int (m : Int)]]) ((e_callW 0 (f_law_one C) hr rfl (ad_one (e_name 2 rfl)) fun ds e => ?_).low (by decide)) (ad_one (e_tup (ad_cons e_int (ad_one (e_name (d := nD m) 3 rfl))))) fun d ds e1 e2 => ?_) fun ds e => ?_) fun d e => ?_) (by rw [List.length_map]; omega) fun d e => ?_
    · subst e
      refine ⟨⟨_, _, true, rfl, rfl, by rw [List.length_map]; exact whole_ne V, by rw [List.length_map]; omega, fun x mx => ?_⟩, fun d r => ?_⟩
      · obtain ⟨g, _, rfl⟩ := List.mem_map.mp mx
        rfl
      · obtain ⟨d', xs, k, e1, e2, e3⟩ := r
        cases e1
        cases e2
        obtain ⟨g, mg', rfl⟩ := List.mem_map.mp e3
        exact ⟨g, whole_vs.mp (sects_mem.mp mg'), rfl⟩
    · obtain ⟨g, wg, rfl⟩ := e1
      exact ⟨g, wg, by rw [e2]⟩
    · obtain ⟨g, wg, rfl⟩ := e
      exact ⟨rfl, Nat.le_of_ble_eq_true rfl, g, wg, rfl⟩
    · obtain ⟨g, wg, rfl⟩ := e
      refine ⟨prA (nT .any) fr (g, mkRat 1 m), ?_, g, wg, rfl⟩
      unfold prA
      rw [fr_one_over m m1]
      exact .any (.cons (.any (LqL.refl _)) (.cons (.any (LqL.refl _)) .nil))
    · obtain ⟨g, wg, rfl⟩ := e
      refine ⟨rfl, r_nil ⟨.da (nD k'), pairs ++ [(g, mkRat 1 m)], rfl, by rw [List.length_append, hl]; rfl, fun z mz => ?_, by rw [List.map_append]; rfl⟩⟩
      rcases List.mem_append.mp mz with mz | mz
      · exact hp z mz
      · rw [List.mem_singleton.mp mz]
        exact ⟨wg, rfl⟩
  · rintro ρ' ⟨c5, pairs, h5, hl, hp, rfl⟩
    have ln : (rgD m).length = m := by
      unfold rgD
      rw [List.length_map, List.length_range]
    rw [ln] at hl
    exact r_retOwn 4 rfl ⟨os, cs, pairs, m, rfl, ⟨by omega, m8, hl, hp⟩, rfl⟩
end
end K19
end

section
set_option Elab.async false
set_option linter.all false
set_option maxRecDepth 100000
set_option maxHeartbeats 4000000
namespace K19
open PySem PySem.Spec PyProof.Rows L2
section
variable {X : Cx} {W : List Addr} {ρ : List Cell} {f : Nat} {a b : Expr} {P1 P2 : D → Prop} {pos : Pos} {i : Int} {x y : Str} {rest : List Stmt} {N : List Cell → Prop} {Rt : D → Prop}
theorem e_neg (ha : ED X W ρ 0 a (.int i)) : ED X W ρ f (.UnaryOp .USub a pos) (.int (-i)) := fun O σ H s Q q => by
  refine ⟨_, pe_un un_neg ev_pe, ha O σ H s _ fun v H1 d p r => ?_⟩
  subst p
  exact ⟨i, r.da.int_inv, q _ H1 _ rfl (Res.of (s.mono r.ex r.wk).okk (.int _) r.ex r.wk)⟩
/-- x, y = e1, e2 by way of a tuple (a name is captured) -/
theorem r_pairT (i j : Nat) (f1 f2 : Nat) {px py pt : Pos} {kt k2 pt2} (ha : E X W ρ f1 a P1) (hb : E X W ρ f2 b P2) (k : ∀ d1 d2, P1 d1 → P2 d2 → R X W ((ρ.set i (cellOf f1 d1)).set j (cellOf f2 d2)) rest N Rt) (hN : X.N.Nodup) (hc : X.calm = true := by rfl) (g1 : 1 ≤ f1 := by decide) (g2 : 1 ≤ f2 := by decide)
    (hi : X.N[i]? = some x := by rfl) (hj : X.N[j]? = some y := by rfl) (hx : Loc X.env.scope x := by first | exact Or.inl rfl | exact Or.inr rfl) (hy : Loc X.env.scope y := by first | exact Or.inl rfl | exact Or.inr rfl)
    (hs : swapsWithSole [.Tuple [.Name x px, .Name y py] kt pt] (.Tuple [a, b] k2 pt2) pos.line X.env = pure false := by rfl) (hw : swappedStores [.Tuple [.Name x px, .Name y py] kt pt] (.Tuple [a, b] k2 pt2) X.env = pure none := by rfl)
    (h1 : (assignEach [.Tuple [.Name x px, .Name y py] kt pt] X.env).map (·.2) = [assign (.Tuple [.Name x px, .Name y py] kt pt) X.env] := by rfl)
    (hf : X.fn x = true ∨ X.env.scope.names.lookup x = some .local := by first | exact .inl rfl | exact .inr rfl) (hf2 : X.fn y = true ∨ X.env.scope.names.lookup y = some .local := by first | exact .inl rfl | exact .inr rfl)
    (s1 : starEach [a, b] X.env = (false, eval a X.env) :: starEach [b] X.env := by rfl) (s2 : starEach [b] X.env = (false, eval b X.env) :: starEach [] X.env := by rfl) :
    R X W ρ (.Assign [.Tuple [.Name x px, .Name y py] kt pt] (.Tuple [a, b] k2 pt2) pos :: rest) N Rt := fun O H0 σ H s D nx rt => by
  refine ⟨_, pss_cons (ps_asg (pe_tup (pa_cons ev_pe (pa_cons ev_pe pa_nil s2) s1)) (pg_tup (n := 2) hc (pgs_cons (pg_name hN hi hx hf) (pgs_cons (pg_name hN hj hy hf2) pgs_nil))) hs hw h1) svs_pss, ?_⟩
  refine ha O σ H s.sl _ fun v1 H1 d1 p1 r1 => ?_
  obtain ⟨s1, t1⟩ := s.store g1 r1 i
  refine hb _ σ H1 s1.sl _ fun v2 H2 d2 p2 r2 => ?_
  obtain ⟨_, t2⟩ := t1.store g2 r2 j
  refine ⟨by show 2 ≤ sizeLine; decide, fun pr n3 => ?_⟩
  refine ⟨pr, [v1, v2], rfl, .inl (.inl upd_same), rfl, v1, [v2], rfl, v2, [], rfl, rfl, ?_⟩
  exact k d1 d2 p1 p2 _ H0 _ _ (t2.mono (hid_new n3) (wok_upd t2.sl.wk n3)) D nx rt
end
/-! ### counts -/
theorem sum_set : ∀ (ns : List Int) (i : Nat) (v : Int), i < ns.length → (ns.set i v).sum = ns.sum - ns.getD i 0 + v
  | n :: ns, 0, v, _ => by
    rw [List.set_cons_zero, List.sum_cons, List.sum_cons]
    show v + ns.sum = n + ns.sum - n + v
    omega
  | n :: ns, i + 1, v, h => by
    have ih := sum_set ns i v (by simpa using h)
    rw [List.set_cons_succ, List.sum_cons, List.sum_cons, ih]
    show n + (ns.sum - ns.getD i 0 + v) = n + ns.sum - ns.getD i 0 + v
    omega
structure CtV (ns : List Int) (m k : Nat) : Prop where
  len : ns.length = m
  nn : ∀ n ∈ ns, 0 ≤ n ∧ n ≤ 1 + 3 * (k : Int)
  s1 : 1 ≤ ns.sum
theorem ct_set {ns : List Int} {m k i : Nat} {r : Int} (h : CtV ns m k) (hi : i < m) (hr : r = 1 ∨ r = 2 ∨ r = 3 ∨ (r = -1 ∧ ns.getD i 0 < ns.sum ∧ 0 < ns.getD i 0)) : CtV (ns.set i (ns.getD i 0 + r)) m (k + 1) := by
  have il : i < ns.length := by
    rw [h.len]
    exact hi
  have gi : ns.getD i 0 ∈ ns := by
    rw [List.getD_eq_getElem?_getD, List.getElem?_eq_getElem il]
    exact List.getElem_mem il
  have g := h.nn _ gi
  have s := h.s1
  refine ⟨by rw [List.length_set]; exact h.len, fun n m => ?_, ?_⟩
  · rcases List.mem_or_eq_of_mem_set m with m | rfl
    · have := h.nn n m
      omega
    · omega
  · rw [sum_set ns i _ il]
    omega
theorem sum_ones : ∀ m : Nat, (List.replicate m (1 : Int)).sum = (m : Int)
  | 0 => rfl
  | m + 1 => by
    rw [List.replicate_succ, List.sum_cons, sum_ones m]
    omega
theorem le_sum : ∀ {ns : List Int}, (∀ n ∈ ns, 0 ≤ n) → ∀ n ∈ ns, n ≤ ns.sum
  | a :: ns, h, n, m => by
    have nn : ∀ {l : List Int}, (∀ n ∈ l, 0 ≤ n) → 0 ≤ l.sum := by
      intro l
      induction l with
      | nil => exact fun _ => Int.le_refl _
      | cons b l ih =>
        intro h
        have := h b (List.mem_cons_self ..)
        have := ih fun n m => h n (List.mem_cons_of_mem _ m)
        rw [List.sum_cons]
        omega
    have ha := h a (List.mem_cons_self ..)
    have hs := nn fun n m => h n (List.mem_cons_of_mem _ m)
    rw [List.sum_cons]
    rcases List.mem_cons.mp m with rfl | m
    · omega
    · have := le_sum (fun n m => h n (List.mem_cons_of_mem _ m)) n m
      omega
theorem sum_le {b : Int} : ∀ {ns : List Int}, (∀ n ∈ ns, n ≤ b) → ns.sum ≤ (ns.length : Int) * b
  | [], _ => by simp
  | a :: ns, h => by
    have ha := h a (List.mem_cons_self ..)
    have ih := sum_le fun n m => h n (List.mem_cons_of_mem _ m)
    rw [List.sum_cons, List.length_cons]
    have : ((ns.length + 1 : Nat) : Int) * b = (ns.length : Int) * b + b := by
      rw [Int.natCast_add, Int.add_mul]
      simp
    omega
theorem tot_fr {S : Nat} (h : 0 < S) (ns : List Int) : tot (ns.map fun n => mkRat n S) = mkRat ns.sum S := by
  induction ns using snoc_ind with
  | h0 =>
    show (0 : Rat) = mkRat 0 S
    rw [Rat.zero_mkRat]
  | h1 ns n ih =>
    rw [List.map_append, List.map_cons, List.map_nil, tot_snoc, ih, List.sum_append, List.sum_cons, List.sum_nil, Int.add_zero]
    rw [Rat.mkRat_eq_div, Rat.mkRat_eq_div, Rat.mkRat_eq_div, Rat.intCast_add, Rat.div_def, Rat.div_def, Rat.div_def, Rat.add_mul]
theorem mk_self {S : Nat} (h : 0 < S) : mkRat (S : Int) S = 1 := by
  rw [Rat.mkRat_eq_div]
  have hN : ((S : Nat) : Rat) ≠ 0 := by
    intro e
    have := Rat.natCast_eq_zero_iff.mp e
    omega
  show ((S : Nat) : Rat) / ((S : Nat) : Rat) = 1
  rw [Rat.div_def, Rat.mul_inv_cancel _ hN]
theorem shares_ok {ns : List Int} {m k : Nat} (h : CtV ns m k) (hk : k ≤ 4) (hm : m ≤ 8) : 0 < ns.sum.toNat ∧ ns.sum.toNat ≤ 128 ∧ Chs (ns.map fun n => mkRat n ns.sum.toNat) ∧ ∀ q ∈ ns.map fun n => mkRat n ns.sum.toNat, Dn ns.sum.toNat ns.sum.toNat q := by
  have s := h.s1
  have s0 : 0 < ns.sum.toNat := by omega
  have up := sum_le (b := 13) (ns := ns) fun n m => by
    have := (h.nn n m).2
    omega
  have len := h.len
  have s128 : ns.sum.toNat ≤ 128 := by
    have : (ns.length : Int) * 13 ≤ 8 * 13 := by omega
    omega
  have dn : ∀ q ∈ ns.map fun n => mkRat n ns.sum.toNat, Dn ns.sum.toNat ns.sum.toNat q := fun q mq => by
    obtain ⟨n, mn, rfl⟩ := List.mem_map.mp mq
    have := le_sum (fun n m => (h.nn n m).1) n mn
    have := (h.nn n mn).1
    exact Dn.frac s0 (by omega)
  refine ⟨s0, s128, ⟨⟨ns.sum.toNat, ns.sum.toNat, s0, dn, ?_, ?_, ?_⟩, fun q mq => ?_, ?_, by rw [List.length_map]; omega⟩, dn⟩
  · exact Nat.le_trans s128 (by decide)
  · rw [List.length_map]
    exact Nat.le_trans (Nat.mul_le_mul (show ns.length ≤ 8 by omega) s128) (by decide)
  · exact Nat.le_trans s128 (by decide)
  · obtain ⟨n, mn, rfl⟩ := List.mem_map.mp mq
    have := (h.nn n mn).1
    rw [← Rat.divInt_ofNat]
    exact Rat.divInt_nonneg this (by omega)
  · rw [tot_fr s0]
    have e : (ns.sum.toNat : Int) = ns.sum := by omega
    have z := mk_self s0
    rw [e] at z
    exact z
end K19
end

section
set_option Elab.async false
set_option linter.all false
set_option maxRecDepth 100000
set_option maxHeartbeats 4000000
namespace K19
open PySem PySem.Spec PyProof.Rows L2
section
variable {P : Program} {w : World} {K : PySem.W.Frag} {mg : Str → Option Value} {base : Heap}
def Sgame : List D → Prop := fun ds => ∃ os cs, ScV os cs ∧ ds = [scD os cs]
def Rgame : List D → D → Prop := fun ds d => ∃ os cs qs wins S, ds = [scD os cs] ∧ GmV os cs qs wins ∧ 0 < S ∧ S ≤ 128 ∧ (∀ q ∈ qs, Dn S S q) ∧ d = gmD qs wins
theorem mod2 (x : Int) : 1 - x % 2 = 0 ∨ 1 - x % 2 = 1 := by omega
theorem f_law_game (C : Ct K mg) : Fc P w K mg base 3 "_law_game" (spW K Sgame Rgame) := by
  refine mk_W (k := 2) C 57 rfl ["_law_well_here", "_law_scenario_here", "_law_many", "_law_way", "_law_counts", "_law_wins", "_law_turn", "_law_at", "_law_context", "_law_sign", "_law_row", "_law_section", "_law_bit", "_law_count"] ["_law_well_here", "_law_scenario_here"] ⟨rfl, rfl, rfl, by decide +kernel, rfl, by decide +kernel, by decide +kernel⟩ (fun _ _ _ _ _ _ us hl => match us, hl with | [_, _], _ => rfl) (fun ds s => ?_) fun f cdv A outer s H E hr nd wa ds sd => ?_
  -- slots: 0=_law_well_here 1=_law_scenario_here 2=_law_many 3=_law_way 4=_law_counts 5=_law_wins 6=_law_turn 7=_law_at 8=_law_context 9=_law_sign 10=_law_row 11=_law_section 12=_law_bit 13=_law_count
  · obtain ⟨os, cs, _, rfl⟩ := s
    rfl
  obtain ⟨os, cs, V, rfl⟩ := sd
  have ho : ∀ o ∈ os, o ≤ 4 := fun o m => (V.o2 o m).2
  have h8 := V.c8
  have c1 : 1 ≤ cs.length := by
    obtain ⟨c, mc, _⟩ := V.cov 0 V.n1
    exact List.length_pos_of_mem mc
  refine r_pair 2 3 1 1 (P1 := fun d => d = nD cs.length) (P2 := fun d => ∃ i, d = .int i ∧ 0 ≤ i ∧ i < 5) (ED.eq (e_len C.g (e_cs (e_name 1 rfl)) rfl) (by rw [List.length_map]; rfl)) (e_draw (f_law_draw C) 0 hr rfl e_int (by decide)) (fun d1 d2 e1 e2 => ?_) nd
  subst e1
  obtain ⟨way, rfl, _, _⟩ := e2
  refine r_pairT 4 5 2 2 (P1 := fun d => d = .lst ((List.replicate cs.length (1 : Int)).map .int)) (P2 := fun d => d = .lst []) (ED.eq (e_rep (k := cs.length) (e_lst (ad_one e_int)) (e_name 2 rfl) (by omega)) (by rw [List.map_replicate])) (e_lst a_nil) (fun d1 d2 e1 e2 => ?_) nd
  subst e1 e2
  refine r_forN (t := .nm 6) (Pl := fun ds => ∃ m, m ≤ 4 ∧ ds = rgD m) (it_range C.g (P := fun d => ∃ i, d = .int i ∧ 0 ≤ i ∧ i < 5) (e_draw (f_law_draw C) 0 hr rfl e_int (by decide)) fun d e => ?_) (pgN 6 nd) fun ds e => ?_
  · obtain ⟨i, rfl, i1, i4⟩ := e
    exact ⟨i.toNat, by rw [Int.toNat_of_nonneg (by omega)], by omega, i.toNat, by omega, rfl⟩
  obtain ⟨m, hm, rfl⟩ := e
  refine ⟨fun k ρ => ∃ (c6 c7 : Cell) (ns : List Int), c6.dull = true ∧ CtV ns cs.length k ∧ ρ = [.well, .da (scD os cs), .da (nD cs.length), .da (.int way), .own (ns.map .int), .own [], c6, c7, .un, .un, .un, .un, .un, .un], fits_map (g := nD) (xs := List.range m) fun _ => rfl, ?_, ?_, ?_⟩
  · refine ⟨.un, .un, List.replicate cs.length 1, rfl, ⟨List.length_replicate .., fun n mn => ?_, ?_⟩, rfl⟩
    · rw [(List.mem_replicate.mp mn).2]
      omega
    · rw [sum_ones]
      omega
  · rintro k d ρ' hi ⟨c6, c7, ns, h6, hc, rfl⟩
    obtain ⟨k', ek, rfl⟩ := get_map (g := nD) (xs := List.range m) hi
    have km := (List.getElem?_eq_some_iff.mp ek).1
    rw [List.length_range] at km
    refine ⟨fun j hj => ?_, ?_⟩
    · cases List.mem_singleton.mp hj
      exact ⟨c6, rfl, (dull_no h6).1⟩
    refine r_set 7 (P := fun d => ∃ i : Nat, d = nD i ∧ i < cs.length) (K19.E.up (f1 := 0) (K19.E.imp (e_draw (f_law_draw C) 0 hr rfl (e_name (d := nD cs.length) 2 rfl) (by omega)) fun d e => ?_) fun d e => ?_) (fun d e => ?_) nd
    · obtain ⟨i, rfl, i0, i1⟩ := e
      exact ⟨i.toNat, by unfold nD; rw [Int.toNat_of_nonneg i0], by omega⟩
    · obtain ⟨i, rfl, _⟩ := e
      rfl
    obtain ⟨i, rfl, il⟩ := e
    have iln : i < ns.length := by
      rw [hc.len]
      exact il
    have gi : (ns.map D.int)[i]? = some (.int (ns.getD i 0)) := by
      rw [List.getElem?_map, List.getElem?_eq_getElem iln, List.getD_eq_getElem?_getD, List.getElem?_eq_getElem iln]
      rfl
    refine r_setItem 4 (ds := ns.map .int) (P := fun d => ∃ r, d = .int (ns.getD i 0 + r) ∧ (r = 1 ∨ r = 2 ∨ r = 3 ∨ (r = -1 ∧ ns.getD i 0 < ns.sum ∧ 0 < ns.getD i 0))) (P1 := fun d => d = nD i) rfl (K19.E.imp (ei_add (f := 0) (R := fun z => ∃ r, z = ns.getD i 0 + r ∧ (r = 1 ∨ r = 2 ∨ r = 3 ∨ (r = -1 ∧ ns.getD i 0 < ns.sum ∧ 0 < ns.getD i 0))) (ei_of (e_ixL (e_own 4 rfl) (e_name (d := nD i) 7 rfl) (atI_at gi))) (Q := fun r => r = 1 ∨ r = 2 ∨ r = 3 ∨ (r = -1 ∧ ns.getD i 0 < ns.sum ∧ 0 < ns.getD i 0))
      ((e_callW 0 (f_law_one C) hr rfl (ad_one (d := .tup .key [.int 1, .int 2, .int (if (decide (ns.getD i 0 < ns.sum) && decide (0 < ns.getD i 0)) = true then -1 else 3)]) (e_tup (ad_cons e_int (ad_cons e_int (ad_one (e_if (k := decide (ns.getD i 0 < ns.sum) && decide (0 < ns.getD i 0)) (t_of (tw_andD (t_cmpD op_gt (e_sumL C.g rfl (e_own 4 rfl)) (e_ixL (e_own 4 rfl) (e_name (d := nD i) 7 rfl) (atI_at gi)) od_gt) fun _ => tw_and1 (t_cmpD op_gt (e_ixL (e_own 4 rfl) (e_name (d := nD i) 7 rfl) (atI_at gi)) e_int od_gt))) (fun h => ED.eq (e_neg e_int) (by rw [if_pos h])) fun h => ED.eq e_int (by rw [h]; rfl))))))) fun ds e => ?_).low (by decide)) fun a b e1 e2 => ?_) fun d e => ?_) (e_name (d := nD i) 7 rfl) (fun d d' e1 e2 => ?_)
    · subst e
      refine ⟨⟨_, _, false, rfl, rfl, Nat.le_of_ble_eq_true rfl, Nat.le_of_ble_eq_true rfl, fun x mx => ?_⟩, fun d r => ?_⟩
      · simp only [List.mem_cons, List.not_mem_nil, or_false] at mx
        rcases mx with rfl | rfl | rfl <;> rfl
      · obtain ⟨d', xs, k, e1, e2, e3⟩ := r
        cases e1
        cases e2
        simp only [List.mem_cons, List.not_mem_nil, or_false] at e3
        rcases e3 with rfl | rfl | rfl
        · exact ⟨1, rfl, .inl rfl⟩
        · exact ⟨2, rfl, .inr (.inl rfl)⟩
        · refine ⟨_, rfl, ?_⟩
          by_cases q : (decide (ns.getD i 0 < ns.sum) && decide (0 < ns.getD i 0)) = true
          · rw [if_pos q]
            rw [Bool.and_eq_true, decide_eq_true_iff, decide_eq_true_iff] at q
            exact .inr (.inr (.inr ⟨rfl, q.1, q.2⟩))
          · rw [if_neg q]
            exact .inr (.inr (.inl rfl))
    · exact ⟨b, by rw [e1], e2⟩
    · obtain ⟨z, rfl, r, rfl, h⟩ := e
      exact ⟨r, rfl, h⟩
    · subst e2
      obtain ⟨r, rfl, h⟩ := e1
      refine ⟨rfl, i, rfl, by rw [List.length_map]; exact iln, r_nil ⟨.da (nD k'), .da (nD i), ns.set i (ns.getD i 0 + r), rfl, ct_set hc il h, ?_⟩⟩
      rw [List.map_set]
      rfl
  · rintro ρ' ⟨c6, c7, ns, h6, hc, rfl⟩
    have lm : (rgD m).length = m := by
      unfold rgD
      rw [List.length_map, List.length_range]
    rw [lm] at hc
    obtain ⟨s0, s128, chs, dn⟩ := shares_ok hc hm h8
    refine r_for (t := .nm 8) (it_tupD (e_cs (e_name 1 rfl))) (fits_map fun _ => rfl) (pgN 8 nd) (fun k ρ => ∃ (c8 c9 c10 c11 c12 : Cell) (wins : List (List Nat)), c8.dull = true ∧ c11.dull = true ∧ wins.length = k ∧ (∀ z ∈ wins.zip cs, z.1.length = (sects os z.2).length ∧ ∀ x ∈ z.1, x ≤ 1) ∧ ρ = [.well, .da (scD os cs), .da (nD cs.length), .da (.int way), .own (ns.map .int), .own (wins.map (nT .any)), c6, c7, c8, c9, c10, c11, c12, .un]) ⟨.un, .un, .un, .un, .un, [], rfl, rfl, rfl, fun z m => (by cases m), rfl⟩ ?_ ?_ rfl
    · rintro k d ρ' hi ⟨c8, c9, c10, c11, c12, wins, h8', h11, hl, hw, rfl⟩
      obtain ⟨c, ec, rfl⟩ := get_map hi
      have mc := List.mem_of_getElem? ec
      have kl := (List.getElem?_eq_some_iff.mp ec).1
      have hL := V.lot c mc
      have hc3 := V.c3 c mc
      have hS := V.sl mc
      refine ⟨fun j hj => ?_, ?_⟩
      · cases List.mem_singleton.mp hj
        exact ⟨c8, rfl, (dull_no h8').1⟩
      refine r_pair 9 10 1 2 (P1 := fun d => ∃ sg : Nat, d = nD sg ∧ sg ≤ 1) (P2 := fun d => d = .lst []) (K19.E.imp (e_draw (f_law_draw C) 0 hr rfl e_int (by decide)) fun d e => ?_) (e_lst a_nil) (fun d1 d2 e1 e2 => ?_) nd
      · obtain ⟨i, rfl, i0, i1⟩ := e
        exact ⟨i.toNat, by unfold nD; rw [Int.toNat_of_nonneg i0], by omega⟩
      subst e2
      obtain ⟨sg, rfl, sg1⟩ := e1
      refine r_for (t := .nm 11) (it_listD (e_callD (f_law_sections C) hr (ad_cons (e_os (e_name 1 rfl)) (ad_one (ED.lq (e_name (d := nT .lot c) 8 rfl) (.any (LqL.refl _))))) ⟨false, os, c, ho, hL.1.2, by omega, rfl, rfl⟩)) (fits_map fun _ => rfl) (pgN 11 nd) (fun i ρ => ∃ (c11 c12 : Cell) (bs : List Nat), c11.dull = true ∧ bs.length = i ∧ (∀ b ∈ bs, b ≤ 1) ∧ ρ = [.well, .da (scD os cs), .da (nD cs.length), .da (.int way), .own (ns.map .int), .own (wins.map (nT .any)), c6, c7, .da (nT .lot c), .da (nD sg), .own (bs.map nD), c11, c12, .un]) ⟨c11, c12, [], h11, rfl, fun b m => (by cases m), rfl⟩ ?_ ?_ rfl
      · rintro i d ρ' hi2 ⟨c11, c12, bs, h11, hbl, hb, rfl⟩
        obtain ⟨s', es, rfl⟩ := get_map hi2
        have il := (List.getElem?_eq_some_iff.mp es).1
        refine ⟨fun j hj => ?_, ?_⟩
        · cases List.mem_singleton.mp hj
          exact ⟨c11, rfl, (dull_no h11).1⟩
        refine r_set 12 (P := fun d => ∃ b : Nat, d = nD b ∧ b ≤ 1) (K19.E.up (f1 := 0) (e_ifN (P' := fun _ => True) (K19.T.imp (t_cmpD op_lt (e_name (d := .int way) 3 rfl) e_int od_lt) fun _ _ => trivial) (fun _ => K19.E.imp (ei_sub (f := 0) (R := fun z => z = 0 ∨ z = 1) (ei_of e_int) (ei_mod (R := fun z => ∃ x : Int, z = x % 2) (ei_int C.g (ei_add (P := fun z => z = (asI s').sum) (Q := fun z => z = (sg : Int)) (R := fun _ => True) (ei_of (e_sumT (m := .key) (c := s') C.g rfl (e_name (d := nT .key s') 11 rfl))) (ei_of (e_name (d := nD sg) 9 rfl)) fun _ _ _ _ => trivial)) (ei_of e_int) fun a b _ pb => ⟨by rw [pb]; decide, a, by rw [pb]⟩) fun a b pa pb => ?_) fun d e => ?_) fun _ => K19.E.imp (e_draw (f := 0) (f_law_draw C) 0 hr rfl e_int (by decide)) fun d e => ?_) fun d e => ?_) (fun d e => ?_) nd
        · obtain ⟨x, rfl⟩ := pb
          rw [pa]
          exact mod2 x
        · obtain ⟨z, rfl, h | h⟩ := e
          · exact ⟨0, by rw [h]; rfl, by decide⟩
          · exact ⟨1, by rw [h]; rfl, by decide⟩
        · obtain ⟨z, rfl, z0, z1⟩ := e
          exact ⟨z.toNat, by unfold nD; rw [Int.toNat_of_nonneg z0], by omega⟩
        · obtain ⟨b, rfl, _⟩ := e
          rfl
        obtain ⟨b, rfl, b1⟩ := e
        refine r_app 10 (ds := bs.map nD) (P := fun d => ∃ b : Nat, d = nD b ∧ b ≤ 1) rfl (e_ifN (P' := fun _ => True) (K19.T.imp (t_cmpD op_lt (e_name (d := .int way) 3 rfl) e_int od_lt) fun _ _ => trivial) (fun _ => K19.E.imp (e_name (d := nD b) 12 rfl) fun d e => ⟨b, e, b1⟩) fun _ => K19.E.imp (e_name (d := nD sg) 9 rfl) fun d e => ⟨sg, e, sg1⟩) (by rw [List.length_map]; omega) fun d e => ?_
        obtain ⟨b', rfl, b1'⟩ := e
        refine ⟨rfl, r_nil ⟨.da (nT .key s'), .da (nD b), bs ++ [b'], rfl, by rw [List.length_append, hbl]; rfl, fun x m => ?_, by rw [List.map_append]; rfl⟩⟩
        rcases List.mem_append.mp m with m | m
        · exact hb x m
        · rw [List.mem_singleton.mp m]
          exact b1'
      · rintro ρ' ⟨c11, c12, bs, h11, hbl, hb, rfl⟩
        rw [List.length_map] at hbl
        refine r_app 5 (ds := wins.map (nT .any)) (P := fun d => d = nT .any bs) rfl (ED.lq (e_tuple C.g (e_own 10 rfl)) (.any (LqL.refl _))) (by rw [List.length_map]; omega) fun d e => ?_
        subst e
        refine ⟨rfl, r_nil ⟨.da (nT .lot c), .da (nD sg), .own (bs.map nD), c11, c12, wins ++ [bs], rfl, h11, by rw [List.length_append, hl]; rfl, fun z mz => ?_, by rw [List.map_append]; rfl⟩⟩
        obtain ⟨i, ei⟩ := List.getElem?_of_mem mz
        rw [List.getElem?_zip_eq_some] at ei
        by_cases il : i < wins.length
        · rw [List.getElem?_append_left il] at ei
          refine hw z (List.mem_of_getElem? (i := i) ?_)
          rw [List.getElem?_zip_eq_some]
          exact ei
        · have i1 : i = wins.length := by
            have := (List.getElem?_eq_some_iff.mp ei.1).1
            rw [List.length_append, List.length_singleton] at this
            omega
          rw [i1, List.getElem?_append_right (Nat.le_refl _), Nat.sub_self, hl, ec] at ei
          have e1 : bs = z.1 := by
            have := ei.1
            simpa using this
          have e2 : c = z.2 := Option.some.inj ei.2
          rw [← e1, ← e2]
          exact ⟨hbl, hb⟩
    · rintro ρ' ⟨c8, c9, c10, c11, c12, wins, _, _, hl, hw, rfl⟩
      rw [List.length_map] at hl
      have eS : D.int ns.sum = .int ((ns.sum.toNat : Nat) : Int) := by
        congr 1
        omega
      refine r_ret (K19.E.lq (P := fun d => d = .tup .key [.tup .key (ns.map fun n => fr (mkRat n ns.sum.toNat)), .tup .key (wins.map (nT .any))]) (e_tup (ad_cons (e_tuple C.g (e_lcA0 (t := .nm 13) (own := [("_law_count", 13)]) (xs := ns) (g0 := D.int) (gg := fun n => fr (mkRat n ns.sum.toNat)) rfl nd (it_listD (e_own 4 rfl)) (blkOk_by rfl) (fun _ _ _ _ _ => pgN 13 nd) (by decide) (fun _ _ => rfl) (fun x _ y _ h => by injection h) (fun n mn _ _ _ _ _ => ?_) (fun _ _ => rfl) (by have := hc.len; omega))) (ad_one (e_tuple C.g (e_own 5 rfl))))) fun d e => ?_)
      · exact e_callD (f_law_frac C) hr (ad_cons (e_name 13 rfl) (ad_one (ED.eq (e_sumL C.g rfl (e_own 4 rfl)) eS))) ⟨n, ns.sum.toNat, s0, Nat.lt_of_le_of_lt (log_le (b := 7) s128) (by decide), rfl, rfl⟩
      · subst e
        refine ⟨gmD (ns.map fun n => mkRat n ns.sum.toNat) wins, ?_, os, cs, ns.map fun n => mkRat n ns.sum.toNat, wins, ns.sum.toNat, rfl, ⟨chs, by rw [List.length_map]; exact hc.len, hl, hw⟩, s0, s128, dn, rfl⟩
        unfold gmD row
        rw [List.map_map]
        exact .any (.cons (.any (LqL.refl _)) (.cons (.any (LqL.refl _)) .nil))
end
end K19
end

section
set_option Elab.async false
set_option linter.all false
set_option maxRecDepth 100000
set_option maxHeartbeats 4000000
namespace K19
open PySem PySem.Spec PyProof.Rows L2
/-! ### a def's promise where nothing is being shown (repr asks for that) -/
structure FnG (P : Program) (w : World) (K : PySem.W.Frag) (mg : Str → Option Value) (base : Heap) (k : Nat) (f : Addr) (fd : FuncData) (ps : List Str) (sp : Sp) : Prop where
  len : ∀ vs H Q E, sp vs H Q E → vs.length = ps.length
  run : ∀ (A : Around) (outer : List Env) (s : Shared) (H : Hp) (args : Args) (us : List Value) (vs : List V) (Q : VK) (E : XK), A.guards = some [] → Room k A → Env0 P w K mg base A outer s H → BindsTo s fd args (ps.zip us) → Vals vs us → sp vs H Q E →
    codeAny (model P w) A (.call (.ref f) args) (CR CX0 outer P w H s Q E) s
section
variable {P : Program} {w : World} {K : PySem.W.Frag} {mg : Str → Option Value} {base : Heap} {x qual : Str} {params : Arguments} {body : List Stmt} {scope : Scope} {dvs : List V} {kws : List (Str × V)} {f : Addr} {fd : FuncData}
theorem okG {N ps : List Str} {k : Nat} {sp : Sp} (F : FunD K x qual params body scope dvs kws f fd) (S : FnScope N ps scope) (len : ∀ vs H Q E, sp vs H Q E → vs.length = ps.length)
    (hbody : ∀ (cdv : Value) (A : Around) (outer : List Env) (s : Shared) (H : Hp) (vs : List V) (Q : VK) (E : XK), (A.deeper (envOfC qual scope s.heap.objs.size f cdv)).guards = some [] → Room k (A.deeper (envOfC qual scope s.heap.objs.size f cdv)) → sp vs H Q E →
      ∃ t, PSs (cxOf CX0 P w K mg base N qual scope f cdv A outer s H E) body t ∧ t { nx := fun _ H' => Q .non H', rt := Q } (L2.start N vs) H) : FnG P w K mg base (k + 1) f fd ps sp := by
  obtain ⟨oc, od, dV, kV, doc, pm, an, cdv, ct, osl, rfl, look, code, _, _⟩ := F.ex
  refine ⟨len, fun A outer s H args us vs Q E quiet room e0 bound rel want => ?_⟩
  have many := len _ _ _ _ want
  have inK : K.In s.heap := e0.mod.kin.keeps fun b o e => (e0.bs b o e).1
  have noLim : s.heap.NoLimit := e0.mod.nolimit.keeps fun b o e => (e0.bs b o e).1
  have kinds : ∀ y ∈ ps.zip us, scope.names.lookup y.1 = some .local ∨ (scope.names.lookup y.1 = some .cell ∧ ((cellsFrom (s.heap.objs.size + 1) scope.names []).lookup y.1).isSome = true) := fun ⟨n, v⟩ my =>
    (S.par n (List.of_mem_zip my).1).elim .inl fun q => .inr ⟨q, PySem.W.cellsFrom_some _ _ _ (.inl q)⟩
  refine codeAny_call_function room.depth (inK _ _ look) rfl S.co S.gen rfl (PySem.W.codeRec_of inK code) (bound _ _ _ _ ?_)
  refine wpAny_newFunctionEnv_cells S.kind kinds fun env isEnv sb made => ?_
  subst isEnv
  refine ⟨noLim.keeps made.toInCall.keep, codeAny_func ?_⟩
  obtain ⟨t, isT, rd⟩ := hbody cdv A outer s H vs Q E quiet (room.deeper _) want
  have I0 : Inv (cxOf CX0 P w K mg base N qual scope f cdv A outer s H E) [] (L2.start N vs) H sb := inv_start S room.hd e0 many rel made
  have close : ∀ {τ : L2.St} {Hx : Hp} {sx : Shared} {v : V} {u : Value}, Inv (cxOf CX0 P w K mg base N qual scope f cdv A outer s H E) [] τ Hx sx → RelV v u → Q v Hx → CE outer P w H s Q u sx :=
    fun {τ Hx sx v u} J1 rv q => ⟨v, Hx, J1.os, J1.bare, J1.base, J1.hok, rv, q⟩
  refine wpAny_mono (isT.run [] sb (L2.start N vs) H _ I0 rd) (fun fl sx hs => ?_) fun e sx hs => hs
  cases fl with
  | ret u =>
    obtain ⟨v, τ, Hx, J1, rv, q⟩ := hs
    exact close J1 rv q
  | next =>
    obtain ⟨τ, Hx, J1, q⟩ := hs
    exact close (v := V.non) (u := Value.none) J1 rfl q
  | brk => exact hs.elim fun _ z => z.elim fun _ z => z.2.elim
  | cont => exact hs.elim fun _ z => z.elim fun _ z => z.2.elim
end
/-- it may be called by its name -/
structure FcG (P : Program) (w : World) (K : PySem.W.Frag) (mg : Str → Option Value) (base : Heap) (k : Nat) (x : Str) (sp : Sp) : Prop where
  ex : ∃ (f : Addr) (fd : FuncData) (ps : List Str), FnG P w K mg base k f fd ps sp ∧ mg x = some (.ref f) ∧ PySem.W.keepIn K (.ref f) = true ∧ Binds K fd ps []
theorem FnG.mono {P : Program} {w : World} {K : PySem.W.Frag} {mg : Str → Option Value} {base : Heap} {j k : Nat} {f : Addr} {fd : FuncData} {ps : List Str} {sp : Sp} (F : FnG P w K mg base j f fd ps sp) (h : j ≤ k) : FnG P w K mg base k f fd ps sp :=
  ⟨F.len, fun A outer s H args us vs Q E gd hr => F.run A outer s H args us vs Q E gd (hr.mono h)⟩
theorem pe_fcG {X : Cx} {k j : Nat} {x : Str} {sp : Sp} {p pos : Pos} {e : Expr} {es : List Expr} {t : TA} (gd : X.A.guards = some []) (c : FcG X.prog X.w X.K X.mg X.base k x sp) (hr : Room j X.A) (hk : k ≤ j) (hg : Gl X x) (ha : PA X (e :: es) t)
    (hdb : (x == ("__debug__" : Str)) = false) (he : starEach (e :: es) X.env = (false, eval e X.env) :: starEach es X.env) (hpl : (backTo pos (starEach es X.env)).any (·.1) = false) :
    PE X (.Call (.Name x p) (e :: es) [] pos) (tCall sp [] E0 t) := by
  obtain ⟨f, fd, ps, F, hm, kp, b⟩ := c.ex
  refine ⟨fun pins s σ H Q I h => ?_⟩
  refine wpAny_Call_Name_kw (ld_glob I hg hm ?_ hdb)
  refine PySem.W.callWith_K (h₀ := X.base) I.ok.mod.kin kp (thn (ha.run pos pins s σ H _ I h) fun us sb ⟨vs, Hb, Ib, rel, want⟩ => ⟨Ib.kIn, ?_⟩) he hpl
  have want : sp (vs ++ []) Hb Q E0 := want
  rw [List.append_nil] at want
  have many : us.length = ps.length := by
    rw [← rel.length]
    exact F.len _ _ _ _ want
  have bd := b sb us Ib.kIn (by rw [List.append_nil]; exact many)
  rw [List.append_nil] at bd
  refine wpAny_call (codeAny_mono (F.run X.A X.stack sb Hb ⟨us, []⟩ us vs Q E0 gd (hr.mono hk) Ib.env0 bd rel want) fun r sx hq => ?_)
  cases r with
  | error ex => exact hq.elim
  | ok fl =>
    cases fl with
    | ret u => exact Ib.after hq
    | next => exact hq.elim
    | brk => exact hq.elim
    | cont => exact hq.elim
/-! ### repr of data -/
theorem repr_ok {X : Cx} (gd : X.A.guards = some []) (hu : X.A.units + 64 < cLine) : CallR X (.builtin "repr") (fun vs H Q => ∃ (a : Addr) (d : PyData), vs = [V.ref a] ∧ Dp X.K H (.ref a) d ∧ d.showable = true ∧ d.hasDict = false ∧ d.depth ≤ 60 ∧ d.shown.length ≤ sizeLine ∧ Q (.str d.shown) H) := by
  intro pins s σ H vs us Q I rel h
  obtain ⟨a, d, rfl, dp, sh, nd, dep, short, fin⟩ := h
  rw [Vals.ref1 rel]
  obtain ⟨as, rd⟩ := Dp.reads I d (.ref a) (.ref a) dp rfl
  refine repr_of_reads' rd sh (fun e => by rw [nd] at e; cases e) gd (by omega) (fun _ _ e => e) (fun h' u tk keep => ?_) short
  exact ⟨.str d.shown, H, I.kept keep, ⟨u, rfl⟩, fin⟩
end K19
end

section
set_option Elab.async false
set_option linter.all false
set_option maxRecDepth 100000
set_option maxHeartbeats 4000000
namespace K19
open PySem PySem.Spec PyProof.Rows L2
/-- the law's def at the heap behind the top, by such a promise -/
theorem callG {P : Program} {w : World} {K : PySem.W.Frag} {mg mb : Str → Option Value} {k : Nat} {fa a : Addr} {fd : FuncData} {x : Str} {sp : Sp} {s1 : Shared} {vs : List Value} {ns : List Int}
    (inK : K.In s1.heap) (glob : s1.heap.Ns mainGlobals mg) (blt : s1.heap.Ns builtinsNs mb) (boot : ∀ x : Str, x ≠ "__name__" → mb x = bootBuiltins x) (noLim : s1.heap.NoLimit) (noGen : s1.gens = #[])
    (isL : s1.heap.get? a = some { cls := .type "list", data := .seq vs.toArray }) (are : IntsAre vs ns) (few : ns.length ≤ sizeLine) (room : Room k callerA)
    (F : ∀ base : Heap, K.In base → base.Ns mainGlobals mg → FnG P w K mg base k fa fd [x] sp) (bound : ∀ (s : Shared) (u : Value), BindsTo s fd ⟨[u], []⟩ [(x, u)])
    (want : ∀ H : Hp, Only H → SqL K H a (ns.map V.int) → sp [.ref a] H (fun v _ => v = .bl true) fun _ _ _ => False) :
    codeAny (model P w) callerA (.call (.ref fa) ⟨[.ref a], []⟩) (fun r s' => r = .ok (.ret (.bool true)) ∧ OldK s1.heap s'.heap ∧ s'.os = s1.os ∧ AllBare s'.gens) s1 := by
  have rel := vals_ints are
  have len := are.length
  suffices main : ∀ H : Hp, Only H → SqL K H a (ns.map V.int) → HOk P w H s1.heap → (∀ b, H b ≠ none → b = a ∧ K.lookup a = none) → codeAny (model P w) callerA (.call (.ref fa) ⟨[.ref a], []⟩) (fun r s' => r = .ok (.ret (.bool true)) ∧ OldK s1.heap s'.heap ∧ s'.os = s1.os ∧ AllBare s'.gens) s1 by
    cases look : K.lookup a with
    | some o =>
      have e := inK a o look
      rw [isL] at e
      cases e
      exact main (fun _ => none) (fun _ => .inl rfl) (.inr ⟨_, vs.toArray, _, look, rfl, rfl, rfl, by rw [List.size_toArray, len]; exact few, by simpa using rel⟩) (fun b u z => by cases (show (none : Option HO) = some u from z)) fun b z => absurd rfl z
    | none =>
      have other : ∀ b, b ≠ a → (if b = a then some (HO.frz { cls := .type "list", data := .seq vs.toArray } (.lst (ns.map V.int))) else none) = none := fun b e => if_neg e
      refine main (fun b => if b = a then some (.frz { cls := .type "list", data := .seq vs.toArray } (.lst (ns.map V.int))) else none) (fun b => ?_) (.inl (.inr ⟨_, if_pos rfl⟩)) (fun b u z => ?_) fun b z => ?_
      · by_cases e : b = a
        · exact .inr ⟨_, _, if_pos e⟩
        · exact .inl (other b e)
      · by_cases e : b = a
        · subst e
          have z := (if_pos rfl).symm.trans z
          cases z
          exact ⟨isL, by rw [List.length_map]; exact few, vs, _, rel, isL⟩
        · have z := (other b e).symm.trans z
          cases z
      · by_cases e : b = a
        · exact ⟨e, look⟩
        · exact absurd (other b e) z
  intro H only sq hok own
  have shown_ : ∀ {b : Addr} {o : Obj}, s1.heap.get? b = some o → H b = none → (hidT s1.heap H).get? b = some o := fun e n => hidT_get e n
  have notDict : ∀ {b : Addr} {o : Obj} {es : Array DictEntry} {ep : Nat}, s1.heap.get? b = some o → o.data = .dict es ep → H b = none := fun {b o es ep} e d => by
    cases q : H b with
    | none => rfl
    | some u =>
      obtain ⟨rfl, _⟩ := own b (by rw [q]; exact Option.some_ne_none u)
      rw [isL] at e
      cases e
      cases d
  have nsKept : ∀ {b : Addr} {m : Str → Option Value}, s1.heap.Ns b m → (hidT s1.heap H).Ns b m := fun {b m} ⟨o, es, ep, e, d, r⟩ => ⟨o, es, ep, shown_ e (notDict e d), d, r⟩
  have inB : K.In (hidT s1.heap H) := fun b o e => shown_ (inK b o e) (by
    cases q : H b with
    | none => rfl
    | some u =>
      obtain ⟨rfl, no⟩ := own b (by rw [q]; exact Option.some_ne_none u)
      rw [no] at e
      cases e)
  obtain ⟨mc, lim1, lim2⟩ := noLim
  have isMod : Mod K mg (hidT s1.heap H) := ⟨inB, nsKept glob, ⟨mb, nsKept blt, boot⟩, ⟨mc, nsKept lim1, lim2⟩⟩
  have none_ : ∀ b : Addr, b ∉ ([] : List Addr) := fun b m => by cases m
  have e0 : Env0 P w K mg (hidT s1.heap H) callerA [] s1 H := ⟨rfl, isMod, fun b o e => of_hidT e, Nat.le_of_eq (hidT_size _ _), trivial, fun b mb => absurd mb (none_ b), hok, .of_eq noGen⟩
  refine codeAny_mono ((F _ inB (nsKept glob)).run callerA [] s1 H ⟨[.ref a], []⟩ [.ref a] [.ref a] _ _ rfl room e0 (bound s1 (.ref a)) (.cons rfl .nil) (want H only sq)) fun r s2 h => ?_
  cases r with
  | error e => exact h.elim
  | ok fl =>
    cases fl with
    | next => exact h.elim
    | brk => exact h.elim
    | cont => exact h.elim
    | ret u =>
      obtain ⟨v, H2, os, bare, un, hok2, rv, fin⟩ := h
      have fin : v = .bl true := fin
      subst fin
      cases (show u = Value.bool true from rv)
      refine ⟨rfl, OldK.of_keep fun b o e => ?_, os, bare⟩
      cases q : H b with
      | none => exact un.keep b o e q (none_ b) (none_ b)
      | some u2 =>
        rcases only b with z | ⟨ob, xs, z⟩
        · rw [q] at z
          cases z
        · obtain ⟨e1, _⟩ := hok b _ z
          obtain ⟨e2, _⟩ := hok2 b _ (un.frzs b ob _ z)
          rw [e] at e1
          cases e1
          exact e2
end K19
end

section
set_option Elab.async false
set_option linter.all false
set_option maxRecDepth 100000
set_option maxHeartbeats 4000000
namespace K19
open PySem PySem.Spec PyProof.Rows L2
/-! ### what may be shown -/
structure Sz (n w : Nat) (d : D) : Prop where
  lay : (er d).canLay0 = true
  dep : (er d).depth ≤ n
  wt : (er d).weight ≤ w
  short : (er d).intsShort 13 = true
  nd : (er d).hasDict = false
  sh : (er d).showable = true
theorem sz_int {n : Nat} {i : Int} (h0 : 0 ≤ i) (h : i < 1000000000) : Sz n 40 (.int i) := by
  have lg : i.natAbs.log2 < 30 := by
    by_cases z : i.natAbs = 0
    · rw [z]
      decide
    · exact (Nat.log2_lt z).mpr (by omega)
  have len : (Str.ofString (toString i)).length ≤ 10 := toString_length_le h0 (by decide) (by omega)
  refine ⟨by rw [er]; rfl, by rw [er]; exact Nat.zero_le _, ?_, ?_, by rw [er]; rfl, ?_⟩
  · rw [er]
    show (if i == 0 then 0 else i.natAbs.log2 + 1) ≤ 40
    split <;> omega
  · rw [er]
    show decide ((Str.ofString (toString i)).length ≤ 13) = true
    exact decide_eq_true (by omega)
  · rw [er]
    show decide (i.natAbs.log2 < 1920) = true
    exact decide_eq_true (by omega)
theorem szAll {n w : Nat} : ∀ ds : List D, (∀ d ∈ ds, Sz n w d) → PyData.canLayAll0 (erL ds) = true ∧ PyData.depthAll (erL ds) ≤ n ∧ PyData.weightAll (erL ds) ≤ ds.length * (w + 1) ∧ PyData.intsShortAll 13 (erL ds) = true ∧ PyData.hasDictAll (erL ds) = false ∧ PyData.showableAll (erL ds) = true
  | [], _ => by
    rw [erL]
    exact ⟨rfl, Nat.zero_le _, Nat.zero_le _, rfl, rfl, rfl⟩
  | d :: ds, h => by
    have a := h d (List.mem_cons_self ..)
    obtain ⟨b1, b2, b3, b4, b5, b6⟩ := szAll ds fun e m => h e (List.mem_cons_of_mem _ m)
    rw [erL]
    refine ⟨?_, ?_, ?_, ?_, ?_, ?_⟩
    · rw [PyData.canLayAll0, a.lay, b1]
      rfl
    · rw [PyData.depthAll]
      exact Nat.max_le.mpr ⟨a.dep, b2⟩
    · rw [PyData.weightAll, List.length_cons, Nat.succ_mul]
      have := a.wt
      omega
    · rw [PyData.intsShortAll, a.short, b4]
      rfl
    · rw [PyData.hasDictAll, a.nd, b5]
      rfl
    · rw [PyData.showableAll, a.sh, b6]
      rfl
theorem Sz.tup {n w : Nat} {m : Mk} {ds : List D} (h : ∀ d ∈ ds, Sz n w d) (k : Nat) (hk : ds.length ≤ k) : Sz (n + 1) (k * (w + 1)) (.tup m ds) := by
  obtain ⟨b1, b2, b3, b4, b5, b6⟩ := szAll ds h
  refine ⟨by rw [er, PyData.canLay0]; exact b1, by rw [er, PyData.depth]; exact Nat.succ_le_succ b2, ?_, by rw [er, PyData.intsShort]; exact b4, by rw [er, PyData.hasDict]; exact b5, by rw [er, PyData.showable]; exact b6⟩
  rw [er, PyData.weight]
  exact Nat.le_trans b3 (Nat.mul_le_mul_right _ hk)
theorem Sz.lst {n w : Nat} {ds : List D} (h : ∀ d ∈ ds, Sz n w d) (k : Nat) (hk : ds.length ≤ k) : Sz (n + 1) (k * (w + 1)) (.lst ds) := by
  obtain ⟨b1, b2, b3, b4, b5, b6⟩ := szAll ds h
  refine ⟨by rw [er, PyData.canLay0]; exact b1, by rw [er, PyData.depth]; exact Nat.succ_le_succ b2, ?_, by rw [er, PyData.intsShort]; exact b4, by rw [er, PyData.hasDict]; exact b5, by rw [er, PyData.showable]; exact b6⟩
  rw [er, PyData.weight]
  exact Nat.le_trans b3 (Nat.mul_le_mul_right _ hk)
theorem Sz.mono {n w n' w' : Nat} {d : D} (h : Sz n w d) (h1 : n ≤ n') (h2 : w ≤ w') : Sz n' w' d := ⟨h.lay, Nat.le_trans h.dep h1, Nat.le_trans h.wt h2, h.short, h.nd, h.sh⟩
theorem Sz.fits {n w : Nat} {d : D} (h : Sz n w d) (hn : n ≤ 60) (hw : w ≤ 1000000) : (er d).shown.length ≤ sizeLine := by
  have l : PyData.layable0 (er d) = true := by
    unfold PyData.layable0
    have := h.dep
    have := h.wt
    rw [h.lay, decide_eq_true (by omega), decide_eq_true (show (er d).weight ≤ 2 ^ 20 by omega)]
    rfl
  have := shown_le13 l h.short
  rw [sizeLine_eq]
  omega
theorem sz_fr {q : Rat} (h0 : 0 ≤ q) (h : Bd 29 q) : Sz 1 100 (fr q) := by
  have n0 := Rat.num_nonneg.mpr h0
  obtain ⟨h1, h2⟩ := h
  refine (Sz.tup (n := 0) (w := 40) (fun d m => ?_) 2 (Nat.le_refl _)).mono (Nat.le_refl _) (by decide)
  rcases List.mem_cons.mp m with e | m
  · rw [e]
    exact sz_int n0 (by omega)
  · rw [List.mem_singleton.mp m]
    exact sz_int (by omega) (by omega)
theorem sz_nT {m : Mk} {c : List Nat} (h : ∀ i ∈ c, i < 1000) (hl : c.length ≤ 8) : Sz 1 400 (nT m c) := by
  refine (Sz.tup (n := 0) (w := 40) (fun d md => ?_) 8 (by rw [List.length_map]; exact hl)).mono (Nat.le_refl _) (by decide)
  obtain ⟨i, mi, rfl⟩ := List.mem_map.mp md
  have := h i mi
  exact sz_int (by omega) (by omega)
section
variable {X : Cx} {W : List Addr} {ρ : List Cell} {f : Nat} {e : Expr} {p pos : Pos} {d : D} {n w : Nat} (g : Gm X.K X.mg)
include g in
theorem e_repr {l : Nat} (gd : X.A.guards = some []) (hr : Room l X.A) (ha : ED X W ρ 0 e d) (hz : Sz n w d) (hn : n ≤ 60) (hw : w ≤ 1000000) (hs : (∃ m ds, d = .tup m ds) ∨ ∃ ds, d = .lst ds) (hg : Gl X "repr" := by rfl) (he : starEach (e :: []) X.env = (false, eval e X.env) :: starEach [] X.env := by rfl) : ED X W ρ f (.Call (.Name "repr" p) [e] [] pos) (.str (er d).shown) :=
  e_callB (repr_ok gd hr.u64) hg g.repr (by decide +kernel) (ad_one ha he) (fun ds z vs O σ H ρ l s Q q => by
    subst z
    obtain ⟨v, rfl, w1⟩ := l.one
    have dp := (w1.mono (hid_le W H)).dp
    have isR : ∃ a, v = .ref a := by
      rcases hs with ⟨m, ds, rfl⟩ | ⟨ds, rfl⟩
      · obtain ⟨a, xs, e, _⟩ := w1.tup_inv
        exact ⟨a, e⟩
      · obtain ⟨a, xs, e, _⟩ := w1.ls_inv
        exact ⟨a, e⟩
    obtain ⟨a, rfl⟩ := isR
    exact ⟨a, er d, rfl, dp, hz.sh, hz.nd, Nat.le_trans hz.dep hn, hz.fits hn hw, q _ H _ rfl (Res.here s (.str _))⟩) (by decide) (by decide) he
end
/-! ### a call by keywords alone -/
section
variable {P : Program} {w : World} {K : PySem.W.Frag} {mg : Str → Option Value} {base : Heap}
structure FcK (P : Program) (w : World) (K : PySem.W.Frag) (mg : Str → Option Value) (base : Heap) (k : Nat) (x k1 k2 : Str) (sp : Sp) : Prop where
  ex : ∃ (f : Addr) (fd : FuncData) (ps : List Str), FnOk P w K mg base CX0 k f fd ps sp ∧ mg x = some (.ref f) ∧ PySem.W.keepIn K (.ref f) = true ∧ ps.length = 2 ∧ ∀ (s : Shared) (a b : Value), BindsTo s fd ⟨[], [(k1, a), (k2, b)]⟩ (ps.zip [b, a])
variable {N ps : List Str} {x : Str} {i j k : Nat}
/-- the same, called by two keywords -/
theorem mk_DK {S : List D → D → Prop} (C : Ct K mg) (j : Nat) (hd : fn[j]? = some (mkD x i)) (N ps : List Str) (hS : FnScope N ps (defScope (top i))) {k1 k2 : Str} (h2 : ps.length = 2) (hb : ∀ (kV doc pm : Value) (an : Option Addr) (cdv ct : Value) (a b : Value), bindArgs (PySem.W.fnOf x x (defArgs (top i)) (defBody (top i)) (defScope (top i)) .none kV doc pm an cdv ct) ⟨[], [(k1, a), (k2, b)]⟩ = pure (ps.zip [b, a])) (hl : ∀ ds d, S ds d → ds.length = ps.length)
    (hbody : ∀ f cdv A outer s H E, Room k (cx P w K mg base N x i f cdv A outer s H E).A → N.Nodup → ∀ ds d, S ds d → R (cx P w K mg base N x i f cdv A outer s H E) [] (startC N (ds.map .da)) (defBody (top i)) (fun _ => d = .non) fun z => z = d) : FcK P w K mg base (k + 1) x k1 k2 (spD K S) := by
  obtain ⟨f, fd, F, hm⟩ := C.fd j _ hd
  refine ⟨f, fd, ps, F.ok (N := N) hS ?_ ?_, hm, F.kp, h2, fun s a b => ?_⟩
  · rintro vs H Q E ⟨ds, d, h1, h2, _⟩
    rw [h1.length, hl ds d h2]
  · intro cdv A outer s H vs Q E hr hsp
    obtain ⟨ds, d, h1, h2, h3⟩ := hsp
    have hr' : Room k (cx P w K mg base N x i f cdv A outer s H E).A := hr
    have b := hbody f cdv A outer s H E hr' hS.nd ds d h2
    have sl : Sl K [] [] H (L2.start N vs) (startC N (ds.map .da)) := by
      refine start_at (by rw [h1.length, List.length_map]) (fun i c e => ?_) (fun a m => by cases m) fun a m => by cases m
      rw [List.getElem?_map] at e
      cases q : ds[i]? with
      | none =>
        rw [q] at e
        cases e
      | some d1 =>
        rw [q] at e
        cases e
        obtain ⟨v, e1, e2⟩ := h1.get q
        refine ⟨v, e1, v, rfl, ?_⟩
        rw [List.nil_append, hid_nil]
        exact e2
    have s3 : S3 K [] [] H H (L2.start N vs) (startC N (ds.map .da)) := by
      refine ⟨sl, fun a m => (by cases m), Ex.refl _, fun i j c c' a e1 e2 o1 o2 _ _ => ?_⟩
      exfalso
      have m := List.mem_of_getElem? e1
      unfold startC at m
      rcases List.mem_append.mp m with m | m
      · obtain ⟨d1, _, q⟩ := List.mem_map.mp m
        rw [← q] at o1
        cases o1
      · rw [List.mem_replicate] at m
        rw [m.2] at o1
        cases o1
    suffices z : SVs (cx P w K mg base N x i f cdv A outer s H E) (defBody (top i)) { nx := fun _ H' => Q .non H', rt := Q } (L2.start N vs) H by
      obtain ⟨t, p, q⟩ := z
      exact ⟨t, p.nox, q⟩
    refine b [] H (L2.start N vs) H s3 { nx := fun _ H' => Q .non H', rt := Q } (fun O' ρ' σ' H' n s' => ?_) fun z v H' e da fr ex wk => ?_
    · have ex := s'.ex
      rw [hid_nil, hid_nil] at ex
      exact h3 .non H' (by rw [n]; exact .im .non) (Fr.im (by rw [n]; rfl)) ex
    · subst e
      rw [hid_nil] at da
      rw [hid_nil, hid_nil] at ex
      exact h3 v H' da fr ex
  · obtain ⟨oc, od, dV, kV, doc, pm, an, cdv, ct, osl, rfl, lk, hcd, hD, hK⟩ := F.ex
    rcases hD with ⟨_, rfl⟩ | ⟨e, _⟩
    · exact .of_eq (hb kV doc pm an cdv ct a b)
    · exact absurd rfl e
theorem f_cvK (C : Ct K mg) : FcK P w K mg base 8 "classical_value" "game" "scenario" (spD K Sclas) := by
  refine mk_DK (k := 7) C 39 rfl ["scenario", "game"] ["scenario", "game"] ⟨rfl, rfl, rfl, by decide +kernel, rfl, by decide +kernel, by decide +kernel⟩ rfl (fun _ _ _ _ _ _ _ _ => rfl) (fun ds d s => ?_) fun f cdv A outer s H E hr nd ds d sd => ?_
  · obtain ⟨N, M, os, cs, qs, wins, b, _, _, _, _, rfl, _⟩ := s
    rfl
  obtain ⟨N, M, os, cs, qs, wins, b, V, S, G, hb, rfl, rfl⟩ := sd
  refine r_expr (e_callD (f_check_game C) hr (ad_cons (e_name 0 rfl) (ad_one (e_name 1 rfl))) ⟨os, cs, qs, wins, S, G, rfl, rfl⟩) ?_
  exact r_retD (e_callD (f_classical_by C) hr (ad_cons (e_name 0 rfl) (ad_one (e_name 1 rfl))) ⟨N, M, os, cs, qs, wins, b, V, S, G, hb, rfl, rfl⟩) rfl rfl
end
section
variable {X : Cx} {W : List Addr} {ρ : List Cell} {f : Nat} {e1 e2 : Expr} {p pos kp1 kp2 : Pos} {k l : Nat} {x k1 k2 : Str} {S : List D → D → Prop} {d1 d2 d : D}
/-- f(k1 = e1, k2 = e2), the parameters the other way round -/
theorem e_callK (c : FcK X.prog X.w X.K X.mg X.base k x k1 k2 (spD X.K S)) (hr : Room l X.A) (ha : ED X W ρ 0 e1 d1) (hb : ED X W ρ 0 e2 d2) (hS : S [d2, d1] d) (hk : k ≤ l := by decide) (hg : Gl X x := by rfl) (hdb : (x == ("__debug__" : Str)) = false := by decide)
    (hall : (backToKw pos (keywordEach [⟨some k1, e1, kp1⟩, ⟨some k2, e2, kp2⟩] X.env)).all (·.1.isSome) = true := by rfl) (hks : (backToKw pos (keywordEach [⟨some k1, e1, kp1⟩, ⟨some k2, e2, kp2⟩] X.env)).filterMap (·.1) = [k1, k2] := by rfl)
    (hpl : ((backTo pos (starEach [] X.env)).any (·.1) || (backToKw pos (keywordEach [⟨some k1, e1, kp1⟩, ⟨some k2, e2, kp2⟩] X.env)).any (·.1.isNone)) = false := by rfl) :
    ED X W ρ f (.Call (.Name x p) [] [⟨some k1, e1, kp1⟩, ⟨some k2, e2, kp2⟩] pos) d := fun O σ H s Q q => by
  obtain ⟨fa, fd, ps, F, hm, keep, two, bd⟩ := c.ex
  have run : PE X (.Call (.Name x p) [] [⟨some k1, e1, kp1⟩, ⟨some k2, e2, kp2⟩] pos) (fun σ H Q => tCons (EV X e1) (tCons (EV X e2) tNil) σ H fun vs Hb => ∃ v u, vs = [v, u] ∧ spD X.K S [u, v] Hb Q E0) := by
    refine ⟨fun pins s0 τ H1 Q1 I h => ?_⟩
    refine wpAny_Call_Name_kw (ld_glob I hg hm ?_ hdb)
    refine PySem.W.callWith_KW0 (h₀ := X.base) I.ok.mod.kin keep hall ?_ hpl
    refine thn ((pk_cons (nm := some k1) (kpos := kp1) ev_pe (pk_cons (nm := some k2) (kpos := kp2) ev_pe pk_nil)).run pos pins s0 τ H1 _ I h) fun ws s2 ⟨zs, H2, I2, rel, v, u, ez, want⟩ => ⟨I2.kIn, ?_⟩
    rw [hks]
    subst ez
    obtain ⟨a, b, rfl, ra, rb⟩ := vals2 rel
    show wpAny _ _ (call (.ref fa) [] [(k1, a), (k2, b)]) _ _ _
    refine wpAny_call (codeAny_mono (F.run X.A X.stack s2 H2 ⟨[], [(k1, a), (k2, b)]⟩ [b, a] [u, v] Q1 E0 (hr.mono hk) I2.env0 (bd s2 a b) (.cons rb (.cons ra .nil)) want) fun r sx hq => ?_)
    cases r with
    | error ex => exact hq.elim
    | ok fl =>
      cases fl with
      | ret u => exact I2.after hq
      | next => exact hq.elim
      | brk => exact hq.elim
      | cont => exact hq.elim
  refine ⟨_, run, ha O σ H s _ fun v H1 z1 p1 r1 => ?_⟩
  subst p1
  have s1 := s.mono r1.ex r1.wk
  refine hb O σ H1 s1 _ fun u H2 z2 p2 r2 => ?_
  subst p2
  have s2 := s1.mono r2.ex r2.wk
  refine ⟨v, u, rfl, [z2, z1], d, .cons (r2.da.mono (hid_le W H2)) (.cons ((r1.da.mono r2.ex).mono (hid_le W H2)) .nil), hS, fun y H3 g1 g2 g3 => q y H3 d rfl ((Res.called s2 g1 g2 g3).later (r1.ex.trans r2.ex) r2.wk)⟩
end
end K19
end

section
set_option Elab.async false
set_option linter.all false
set_option maxRecDepth 100000
set_option maxHeartbeats 4000000
namespace K19
open PySem PySem.Spec PyProof.Rows L2
/-! ### sums -/
theorem tot_cons (q : Rat) (qs : List Rat) : tot (q :: qs) = q + tot qs := by
  have key : ∀ (qs : List Rat) (a : Rat), qs.foldl (· + ·) a = a + qs.foldl (· + ·) 0 := by
    intro qs
    induction qs with
    | nil =>
      intro a
      show a = a + 0
      rw [Rat.add_zero]
    | cons b qs ih =>
      intro a
      rw [List.foldl_cons, List.foldl_cons, ih (a + b), ih (0 + b), Rat.zero_add, Rat.add_assoc]
  unfold tot
  rw [List.foldl_cons, key qs (0 + q), Rat.zero_add]
theorem tot_nil : tot [] = 0 := rfl
theorem tot_add {α : Type} (f g : α → Rat) : ∀ xs : List α, tot (xs.map fun x => f x + g x) = tot (xs.map f) + tot (xs.map g)
  | [] => by
    rw [List.map_nil, List.map_nil, List.map_nil, tot_nil, Rat.add_zero]
  | x :: xs => by
    rw [List.map_cons, List.map_cons, List.map_cons, tot_cons, tot_cons, tot_cons, tot_add f g xs]
    grind
theorem tot_mul {α : Type} (c : Rat) (f : α → Rat) : ∀ xs : List α, tot (xs.map fun x => c * f x) = c * tot (xs.map f)
  | [] => by
    rw [List.map_nil, List.map_nil, tot_nil, Rat.mul_zero]
  | x :: xs => by
    rw [List.map_cons, List.map_cons, tot_cons, tot_cons, tot_mul c f xs, Rat.mul_add]
theorem tot_zero {α : Type} : ∀ xs : List α, tot (xs.map fun _ => (0 : Rat)) = 0
  | [] => rfl
  | x :: xs => by
    rw [List.map_cons, tot_cons, tot_zero xs, Rat.add_zero]
theorem tot_nn : ∀ {qs : List Rat}, (∀ q ∈ qs, 0 ≤ q) → 0 ≤ tot qs
  | [], _ => Rat.le_refl
  | q :: qs, h => by
    rw [tot_cons]
    exact Rat.add_nonneg (h q (List.mem_cons_self ..)) (tot_nn fun p m => h p (List.mem_cons_of_mem _ m))
theorem tot_le {α : Type} {f g : α → Rat} : ∀ {xs : List α}, (∀ x ∈ xs, f x ≤ g x) → tot (xs.map f) ≤ tot (xs.map g)
  | [], _ => Rat.le_refl
  | x :: xs, h => by
    rw [List.map_cons, List.map_cons, tot_cons, tot_cons]
    have a := h x (List.mem_cons_self ..)
    have b := tot_le (f := f) (g := g) fun y m => h y (List.mem_cons_of_mem _ m)
    grind
theorem dot_set : ∀ (w r : List Rat) (i : Nat) (x : Rat), i < r.length → i < w.length → dotQ w (addAt r i x) = dotQ w r + w.getD i 0 * x
  | [], _, _, _, _, h => by simp at h
  | _ :: _, [], _, _, h, _ => by simp at h
  | a :: w, q :: r, 0, x, _, _ => by
    unfold dotQ addAt
    rw [List.set_cons_zero, List.zip_cons_cons, List.zip_cons_cons, List.map_cons, List.map_cons, tot_cons, tot_cons]
    show a * (q + x) + _ = a * q + _ + a * x
    grind
  | a :: w, q :: r, i + 1, x, h1, h2 => by
    have ih := dot_set w r i x (by simpa using h1) (by simpa using h2)
    unfold dotQ addAt at ih ⊢
    rw [List.set_cons_succ, List.zip_cons_cons, List.zip_cons_cons, List.map_cons, List.map_cons, tot_cons, tot_cons]
    have e1 : (q :: r).getD (i + 1) 0 = r.getD i 0 := rfl
    have e2 : (a :: w).getD (i + 1) 0 = w.getD i 0 := rfl
    rw [e1, e2, ih]
    grind
theorem dot_zero : ∀ (w : List Rat) (r : List Rat), (∀ q ∈ r, q = 0) → dotQ w r = 0
  | [], _, _ => rfl
  | _ :: _, [], _ => rfl
  | a :: w, q :: r, h => by
    have ih := dot_zero w r fun p m => h p (List.mem_cons_of_mem _ m)
    have hq := h q (List.mem_cons_self ..)
    unfold dotQ at ih ⊢
    rw [List.zip_cons_cons, List.map_cons, tot_cons, ih, hq]
    show a * 0 + 0 = 0
    rw [Rat.mul_zero, Rat.add_zero]
theorem tot_addAt : ∀ (r : List Rat) (i : Nat) (x : Rat), i < r.length → tot (addAt r i x) = tot r + x
  | [], _, _, h => by simp at h
  | q :: r, 0, x, _ => by
    unfold addAt
    rw [List.set_cons_zero, tot_cons, tot_cons]
    show q + x + _ = q + _ + x
    grind
  | q :: r, i + 1, x, h => by
    have ih := tot_addAt r i x (by simpa using h)
    unfold addAt at ih ⊢
    rw [List.set_cons_succ, tot_cons, tot_cons]
    have e1 : (q :: r).getD (i + 1) 0 = r.getD i 0 := rfl
    rw [e1, ih]
    grind
/-! ### the greatest -/
theorem best_max {f : List Nat → Rat} {gs : List (List Nat)} : ∀ i, ∀ g ∈ gs.take i, ∃ q h, bestOf f (gs.take i) = some (q, h) ∧ f g ≤ q
  | 0, g, m => by
    rw [List.take_zero] at m
    cases m
  | i + 1, g, m => by
    cases eg : gs[i]? with
    | none =>
      have hl := List.getElem?_eq_none_iff.mp eg
      have e : gs.take (i + 1) = gs.take i := by rw [List.take_of_length_le (by omega), List.take_of_length_le hl]
      rw [e] at m ⊢
      exact best_max i g m
    | some g' =>
      rw [best_take eg]
      rw [take_succ_get eg] at m
      cases eb : bestOf f (gs.take i) with
      | none =>
        refine ⟨f g', g', rfl, ?_⟩
        rcases List.mem_append.mp m with m | m
        · obtain ⟨q, h, e, _⟩ := best_max i g m
          rw [eb] at e
          cases e
        · rw [List.mem_singleton.mp m]
          exact Rat.le_refl
      | some z =>
        obtain ⟨q0, h0⟩ := z
        unfold bestStep
        by_cases lt : q0 < f g'
        · refine ⟨f g', g', by simp only [if_pos lt], ?_⟩
          rcases List.mem_append.mp m with m | m
          · obtain ⟨q, h, e, le⟩ := best_max i g m
            rw [eb] at e
            cases e
            exact Rat.le_trans le (Rat.le_of_lt lt)
          · rw [List.mem_singleton.mp m]
            exact Rat.le_refl
        · refine ⟨q0, h0, by simp only [if_neg lt], ?_⟩
          rcases List.mem_append.mp m with m | m
          · obtain ⟨q, h, e, le⟩ := best_max i g m
            rw [eb] at e
            cases e
            exact le
          · rw [List.mem_singleton.mp m]
            exact Rat.not_lt.mp lt
theorem best_all {f : List Nat → Rat} {gs : List (List Nat)} (ne : 0 < gs.length) : ∃ b, bestOf f gs = some b ∧ b.2 ∈ gs ∧ b.1 = f b.2 ∧ ∀ g ∈ gs, f g ≤ b.1 := by
  have max := fun g (m : g ∈ gs) => best_max (f := f) (gs := gs) gs.length g (by rw [List.take_length]; exact m)
  obtain ⟨g, mg⟩ : ∃ g, g ∈ gs := ⟨gs[0], List.getElem_mem ne⟩
  obtain ⟨q, h, e, _⟩ := max g mg
  have v := best_val gs.length q h e
  rw [List.take_length] at e
  refine ⟨(q, h), e, v.1, v.2, fun g m => ?_⟩
  obtain ⟨q', h', e', le⟩ := max g m
  rw [List.take_length, e] at e'
  cases e'
  exact le
end K19
end

section
set_option Elab.async false
set_option linter.all false
set_option maxRecDepth 100000
set_option maxHeartbeats 4000000
namespace K19
open PySem PySem.Spec PyProof.Rows L2
/-! ### adding at places -/
theorem addAt_get (r : List Rat) (i j : Nat) (x : Rat) : (addAt r i x)[j]? = if i = j then (r[j]?).map (· + x) else r[j]? := by
  unfold addAt
  rw [List.getElem?_set]
  by_cases e : i = j
  · subst e
    rw [if_pos rfl, if_pos rfl]
    by_cases lt : i < r.length
    · rw [if_pos lt, List.getD_eq_getElem?_getD, List.getElem?_eq_getElem lt]
      rfl
    · rw [if_neg lt, List.getElem?_eq_none (by omega)]
      rfl
  · rw [if_neg e, if_neg e]
theorem addAt_comm (r : List Rat) (i j : Nat) (x y : Rat) : addAt (addAt r i x) j y = addAt (addAt r j y) i x := by
  apply List.ext_getElem?
  intro k
  rw [addAt_get, addAt_get, addAt_get, addAt_get]
  by_cases e1 : j = k
  · by_cases e2 : i = k
    · rw [if_pos e1, if_pos e2, if_pos e2, if_pos e1]
      cases r[k]? with
      | none => rfl
      | some q =>
        show some (q + x + y) = some (q + y + x)
        congr 1
        grind
    · rw [if_pos e1, if_neg e2, if_neg e2, if_pos e1]
  · by_cases e2 : i = k
    · rw [if_neg e1, if_pos e2, if_pos e2, if_neg e1]
    · rw [if_neg e1, if_neg e2, if_neg e2, if_neg e1]
theorem addAt_two (r : List Rat) (i : Nat) (x y : Rat) : addAt (addAt r i x) i y = addAt r i (x + y) := by
  apply List.ext_getElem?
  intro k
  rw [addAt_get, addAt_get, addAt_get]
  by_cases e : i = k
  · rw [if_pos e, if_pos e, if_pos e]
    cases r[k]? with
    | none => rfl
    | some q =>
      show some (q + x + y) = some (q + (x + y))
      rw [Rat.add_assoc]
  · rw [if_neg e, if_neg e, if_neg e]
theorem addAt_none (r : List Rat) (i : Nat) : addAt r i 0 = r := by
  apply List.ext_getElem?
  intro k
  rw [addAt_get]
  by_cases e : i = k
  · rw [if_pos e]
    cases r[k]? with
    | none => rfl
    | some q =>
      show some (q + 0) = some q
      rw [Rat.add_zero]
  · rw [if_neg e]
theorem addAll_out : ∀ (zs : List (Nat × Rat)) (r : List Rat) (i : Nat) (x : Rat), addAll zs (addAt r i x) = addAt (addAll zs r) i x
  | [], _, _, _ => rfl
  | z :: zs, r, i, x => by
    show addAll zs (addAt (addAt r i x) z.1 z.2) = addAt (addAll zs (addAt r z.1 z.2)) i x
    rw [addAt_comm, addAll_out zs]
theorem addAll_inc : ∀ (zs : List (Nat × Rat)) (p i : Nat) (v x : Rat) (r : List Rat), zs[p]? = some (i, v) → addAll (zs.set p (i, v + x)) r = addAt (addAll zs r) i x
  | [], p, i, v, x, r, h => by simp at h
  | z :: zs, 0, i, v, x, r, h => by
    cases h
    show addAll zs (addAt r i (v + x)) = addAt (addAll zs (addAt r i v)) i x
    rw [← addAt_two, addAll_out]
  | z :: zs, p + 1, i, v, x, r, h => by
    show addAll (zs.set p (i, v + x)) (addAt r z.1 z.2) = addAt (addAll zs (addAt r z.1 z.2)) i x
    exact addAll_inc zs p i v x _ (by simpa using h)
theorem addAll_none : ∀ (zs : List (Nat × Rat)) (r : List Rat), (∀ z ∈ zs, z.2 = 0) → addAll zs r = r
  | [], _, _ => rfl
  | z :: zs, r, h => by
    show addAll zs (addAt r z.1 z.2) = r
    rw [h z (List.mem_cons_self ..), addAt_none]
    exact addAll_none zs r fun y m => h y (List.mem_cons_of_mem _ m)
theorem zip_set {α β : Type} : ∀ (xs : List α) (ys : List β) (p : Nat) (v : β) (s : α), xs[p]? = some s → xs.zip (ys.set p v) = (xs.zip ys).set p (s, v)
  | [], _, p, _, _, h => by simp at h
  | _ :: _, [], _, _, _, _ => by simp
  | x :: xs, y :: ys, 0, v, s, h => by
    cases h
    rfl
  | x :: xs, y :: ys, p + 1, v, s, h => by
    rw [List.set_cons_succ, List.zip_cons_cons, List.zip_cons_cons, List.set_cons_succ, zip_set xs ys p v s (by simpa using h)]
theorem marg_addAt {os c less : List Nat} {r : List Rat} {s : List Nat} {p : Nat} (x : Rat) (hl : r.length = (sects os c).length) (h : (sects os c)[p]? = some s) : margQ os c less (addAt r p x) = addAt (margQ os c less r) (placeN os less (part s c less)) x := by
  have lt : p < r.length := by
    rw [hl]
    exact (List.getElem?_eq_some_iff.mp h).1
  unfold margQ
  have e : addAt r p x = r.set p (r[p] + x) := by
    unfold addAt
    rw [List.getD_eq_getElem?_getD, List.getElem?_eq_getElem lt]
    rfl
  rw [e, zip_set _ _ _ _ _ h, List.map_set]
  refine addAll_inc _ p _ r[p] x _ ?_
  rw [List.getElem?_map]
  have : ((sects os c).zip r)[p]? = some (s, r[p]) := by
    rw [List.getElem?_zip_eq_some]
    exact ⟨h, List.getElem?_eq_getElem lt⟩
  rw [this]
  rfl
/-! ### the family of some assignments -/
theorem row_snoc (os c : List Nat) (pairs : List (List Nat × Rat)) (z : List Nat × Rat) : rowOf os c (pairs ++ [z]) = addAt (rowOf os c pairs) (placeN os c (pick z.1 c)) z.2 := by
  unfold rowOf
  rw [List.foldl_append]
  rfl
section
variable {os c : List Nat} (hc : ∀ i ∈ c, i < os.length)
include hc
theorem row_tot (pairs : List (List Nat × Rat)) : (∀ z ∈ pairs, Whole os z.1) → tot (rowOf os c pairs) = tot (pairs.map (·.2)) := by
  induction pairs using snoc_ind with
  | h0 =>
    intro _
    exact tot_zero _
  | h1 pairs z ih =>
    intro h
    rw [row_snoc, tot_addAt _ _ _ (by rw [rowOf_len]; exact place_lt (pick_vs (h z (List.mem_append_right _ (List.mem_singleton.mpr rfl))) hc)), ih fun y m => h y (List.mem_append_left _ m), List.map_append, List.map_cons, List.map_nil, tot_snoc]
theorem row_dot {w : List Rat} (hw : w.length = (sects os c).length) (pairs : List (List Nat × Rat)) : (∀ z ∈ pairs, Whole os z.1) → dotQ w (rowOf os c pairs) = tot (pairs.map fun z => z.2 * w.getD (placeN os c (pick z.1 c)) 0) := by
  induction pairs using snoc_ind with
  | h0 =>
    intro _
    refine dot_zero w _ fun q m => ?_
    obtain ⟨_, _, rfl⟩ := List.mem_map.mp m
    rfl
  | h1 pairs z ih =>
    intro h
    have lt := place_lt (pick_vs (h z (List.mem_append_right _ (List.mem_singleton.mpr rfl))) hc)
    rw [row_snoc, dot_set _ _ _ _ (by rw [rowOf_len]; exact lt) (by rw [hw]; exact lt), ih fun y m => h y (List.mem_append_left _ m), List.map_append, List.map_cons, List.map_nil, tot_snoc, Rat.mul_comm (w.getD _ 0)]
theorem row_marg {less : List Nat} (hl : ∀ i ∈ less, i ∈ c) (pairs : List (List Nat × Rat)) : (∀ z ∈ pairs, Whole os z.1) → margQ os c less (rowOf os c pairs) = rowOf os less pairs := by
  induction pairs using snoc_ind with
  | h0 =>
    intro _
    refine addAll_none _ _ fun z m => ?_
    obtain ⟨y, my, rfl⟩ := List.mem_map.mp m
    obtain ⟨_, _, e⟩ := List.mem_map.mp (List.of_mem_zip my).2
    exact e.symm
  | h1 pairs z ih =>
    intro h
    have vs := pick_vs (h z (List.mem_append_right _ (List.mem_singleton.mpr rfl))) hc
    rw [row_snoc, row_snoc, marg_addAt z.2 (rowOf_len ..) (sects_at os c _ vs), ih fun y m => h y (List.mem_append_left _ m), part_pick hl]
end
theorem row_nn {os c : List Nat} : ∀ (pairs : List (List Nat × Rat)), (∀ z ∈ pairs, 0 ≤ z.2) → ∀ q ∈ rowOf os c pairs, 0 ≤ q := by
  intro pairs
  induction pairs using snoc_ind with
  | h0 =>
    intro _ q m
    obtain ⟨_, _, rfl⟩ := List.mem_map.mp m
    exact Rat.le_refl
  | h1 pairs z ih =>
    intro h q m
    rw [row_snoc] at m
    have ih := ih fun y m => h y (List.mem_append_left _ m)
    rcases addAt_mem m with m | ⟨rfl, lt⟩
    · exact ih q m
    · refine Rat.add_nonneg (ih _ ?_) (h z (List.mem_append_right _ (List.mem_singleton.mpr rfl)))
      rw [List.getD_eq_getElem?_getD, List.getElem?_eq_getElem lt]
      exact List.getElem_mem lt
theorem tot_swap {α β : Type} (f : α → β → Rat) (ys : List β) : ∀ xs : List α, tot (xs.map fun x => tot (ys.map (f x))) = tot (ys.map fun y => tot (xs.map fun x => f x y))
  | [] => by
    show (0 : Rat) = _
    exact (tot_zero ys).symm
  | x :: xs => by
    rw [List.map_cons, tot_cons, tot_swap f ys xs, ← tot_add]
    congr 1
    refine List.map_congr_left fun y _ => ?_
    rw [List.map_cons, tot_cons]
theorem zip_fam (g : List Nat → List Rat) : ∀ (ws : List (List Rat)) (cs : List (List Nat)), (ws.zip (cs.map g)).map (fun z => dotQ z.1 z.2) = (cs.zip ws).map fun z => dotQ z.2 (g z.1)
  | [], [] => rfl
  | [], _ :: _ => rfl
  | _ :: _, [] => rfl
  | w :: ws, c :: cs => by
    rw [List.map_cons, List.zip_cons_cons, List.zip_cons_cons, List.map_cons, List.map_cons, zip_fam g ws cs]
/-- the mean of the assignments' worths -/
def meanQ (os : List Nat) (cs : List (List Nat)) (ws : List (List Rat)) (pairs : List (List Nat × Rat)) : Rat := tot (pairs.map fun z => z.2 * worthQ os cs ws z.1)
theorem val_mean {os : List Nat} {cs : List (List Nat)} {ws : List (List Rat)} {pairs : List (List Nat × Rat)} (V : ScV os cs) (hw : ∀ z ∈ cs.zip ws, z.2.length = (sects os z.1).length) (hp : ∀ z ∈ pairs, Whole os z.1) : valQ ws (famOf os cs pairs) = meanQ os cs ws pairs := by
  unfold valQ famOf meanQ worthQ
  rw [zip_fam]
  have e : (cs.zip ws).map (fun z => dotQ z.2 (rowOf os z.1 pairs)) = (cs.zip ws).map fun z => tot (pairs.map fun y => y.2 * wAt os y.1 z) := by
    refine List.map_congr_left fun z m => ?_
    exact row_dot (V.lot _ (List.of_mem_zip m).1).1.2 (hw z m) pairs hp
  rw [e, tot_swap]
  congr 1
  refine List.map_congr_left fun y _ => ?_
  exact tot_mul y.2 (fun z => wAt os y.1 z) (cs.zip ws)
theorem mean_le {os : List Nat} {cs : List (List Nat)} {ws : List (List Rat)} {pairs : List (List Nat × Rat)} {b : Rat} (h0 : ∀ z ∈ pairs, 0 ≤ z.2) (h1 : tot (pairs.map (·.2)) = 1) (hb : ∀ z ∈ pairs, worthQ os cs ws z.1 ≤ b) : meanQ os cs ws pairs ≤ b := by
  have h := tot_le (xs := pairs) (f := fun z => z.2 * worthQ os cs ws z.1) (g := fun z => b * z.2) fun z m => by
    rw [Rat.mul_comm b]
    exact Rat.mul_le_mul_of_nonneg_left (hb z m) (h0 z m)
  rw [tot_mul b (fun z : List Nat × Rat => z.2) pairs, h1, Rat.mul_one] at h
  exact h
/-- such a family holds -/
theorem fam_ok {os : List Nat} {cs : List (List Nat)} {pairs : List (List Nat × Rat)} {m : Nat} (V : ScV os cs) (J : JnV os pairs m) : FmV os cs (famOf os cs pairs) m m := by
  have m0 := J.m0
  have m8 := J.m8
  have dn1 : ∀ z ∈ pairs, Dn m 1 z.2 := fun z mz => by
    rw [(J.all z mz).2]
    exact Dn.frac m0 (by decide)
  have nn : ∀ z ∈ pairs, 0 ≤ z.2 := fun z mz => by
    rw [(J.all z mz).2, ← Rat.divInt_ofNat]
    exact Rat.divInt_nonneg (by decide) (by omega)
  have one : tot (pairs.map (·.2)) = 1 := by
    have e : pairs.map (·.2) = (List.replicate m (1 : Int)).map fun n => mkRat n m := by
      rw [List.map_replicate]
      refine List.eq_replicate_iff.mpr ⟨by rw [List.length_map]; exact J.len, fun q mq => ?_⟩
      obtain ⟨z, mz, rfl⟩ := List.mem_map.mp mq
      exact (J.all z mz).2
    rw [e, tot_fr m0, sum_ones]
    exact mk_self m0
  have whole : ∀ z ∈ pairs, Whole os z.1 := fun z mz => (J.all z mz).1
  have at_ : ∀ (i : Nat) (c : List Nat) (r : List Rat), cs[i]? = some c → (famOf os cs pairs)[i]? = some r → r = rowOf os c pairs := fun i c r e1 e2 => by
    unfold famOf at e2
    rw [List.getElem?_map, e1] at e2
    exact (Option.some.inj e2).symm
  have c8 : (8 : Nat) ≤ 2 ^ 100 := by decide
  refine ⟨m0, Nat.le_trans m8 c8, Nat.le_trans (Nat.mul_le_mul_left 64 m8) (show 64 * 8 ≤ 2 ^ 100 by decide), by unfold famOf; rw [List.length_map], fun i c r e1 e2 => ?_, fun i j c1 r1 c2 r2 e1 e2 e3 e4 => ?_⟩
  · have mc := List.mem_of_getElem? e1
    have hL := V.lot c mc
    have hS := V.sl mc
    rw [at_ i c r e1 e2]
    have dn : ∀ q ∈ rowOf os c pairs, Dn m m q := fun q mq => by
      have := rowOf_dn m0 dn1 q mq
      rw [J.len, Nat.mul_one] at this
      exact this
    refine ⟨⟨⟨m, m, m0, dn, Nat.le_trans m8 (by decide), ?_, Nat.le_trans m8 (by decide)⟩, row_nn pairs nn, ?_, by rw [rowOf_len]; omega⟩, rowOf_len .., dn⟩
    · rw [rowOf_len]
      exact Nat.le_trans (Nat.mul_le_mul hS m8) (by decide)
    · rw [row_tot hL.1.2 pairs whole, one]
  · have h1 := (V.lot c1 (List.mem_of_getElem? e1)).1.2
    have h2 := (V.lot c2 (List.mem_of_getElem? e3)).1.2
    rw [at_ i c1 r1 e1 e2, at_ j c2 r2 e3 e4, row_marg h1 (fun k mk => (shb_mem mk).1) pairs whole, row_marg h2 (fun k mk => (shb_mem mk).2) pairs whole]
end K19
end

section
set_option Elab.async false
set_option linter.all false
set_option maxRecDepth 100000
set_option maxHeartbeats 4000000
namespace K19
open PySem PySem.Spec PyProof.Rows L2
theorem paid_at {os : List Nat} {cs : List (List Nat)} {qs : List Rat} {wins : List (List Nat)} (G : GmV os cs qs wins) : ∀ z ∈ cs.zip (paidQ qs wins), z.2.length = (sects os z.1).length := fun z m => by
  obtain ⟨i, e⟩ := List.getElem?_of_mem m
  rw [List.getElem?_zip_eq_some] at e
  unfold paidQ at e
  have e2 := e.2
  rw [List.getElem?_map] at e2
  cases e3 : (qs.zip wins)[i]? with
  | none =>
    rw [e3] at e2
    cases e2
  | some y =>
    rw [e3] at e2
    have e2 : paidRow y.1 y.2 = z.2 := Option.some.inj e2
    rw [List.getElem?_zip_eq_some] at e3
    have mz : (y.2, z.1) ∈ wins.zip cs := by
      refine List.mem_of_getElem? (i := i) ?_
      rw [List.getElem?_zip_eq_some]
      exact ⟨e3.2, e.1⟩
    have h := (G.row _ mz).1
    have h : y.2.length = (sects os z.1).length := h
    rw [← e2]
    unfold paidRow
    rw [List.length_map, h]
theorem paid_dn {qs : List Rat} {wins : List (List Nat)} {S : Nat} (h0 : 0 < S) (h : ∀ q ∈ qs, Dn S S q) : ∀ r ∈ paidQ qs wins, ∀ q ∈ r, Dn S S q := fun r mr q mq => by
  obtain ⟨y, my, rfl⟩ := List.mem_map.mp mr
  obtain ⟨b, _, rfl⟩ := List.mem_map.mp mq
  by_cases e : b = 1
  · rw [if_pos e]
    exact h _ (List.of_mem_zip my).1
  · rw [if_neg e]
    exact Dn.zero h0
theorem paid_nn {qs : List Rat} {wins : List (List Nat)} (h : ∀ q ∈ qs, 0 ≤ q) : ∀ r ∈ paidQ qs wins, ∀ q ∈ r, 0 ≤ q := fun r mr q mq => by
  obtain ⟨y, my, rfl⟩ := List.mem_map.mp mr
  obtain ⟨b, _, rfl⟩ := List.mem_map.mp mq
  by_cases e : b = 1
  · rw [if_pos e]
    exact h _ (List.of_mem_zip my).1
  · rw [if_neg e]
    exact Rat.le_refl
theorem paid_ws {os : List Nat} {cs : List (List Nat)} {qs : List Rat} {wins : List (List Nat)} {S : Nat} (V : ScV os cs) (G : GmV os cs qs wins) (h0 : 0 < S) (h1 : S ≤ 128) (h : ∀ q ∈ qs, Dn S S q) {wh : List Nat} (W : Whole os wh) : WsV os cs (paidQ qs wins) wh S S := by
  have c8 := V.c8
  refine ⟨h0, Nat.le_trans h1 (by decide), Nat.le_trans h1 (by decide), Nat.le_trans (Nat.mul_le_mul c8 h1) (by decide), V, W.1, fun z m => ?_, paid_dn h0 h⟩
  rw [paid_at G z m]
  exact place_lt (pick_vs W (V.lot _ (List.of_mem_zip m).1).1.2)
theorem worth_dn {os : List Nat} {cs : List (List Nat)} {ws : List (List Rat)} {wh : List Nat} {N M : Nat} (V : WsV os cs ws wh N M) : Dn N (cs.length * M) (worthQ os cs ws wh) := by
  refine (Dn.total V.n0 V.dnAll).mono (Nat.mul_le_mul_right _ ?_)
  rw [List.length_map]
  exact zip_len (Nat.le_refl _)
theorem worth_nn {os : List Nat} {cs : List (List Nat)} {ws : List (List Rat)} {wh : List Nat} {N M : Nat} (V : WsV os cs ws wh N M) (h : ∀ r ∈ ws, ∀ q ∈ r, 0 ≤ q) : 0 ≤ worthQ os cs ws wh := by
  refine tot_nn fun q m => ?_
  obtain ⟨z, mz, rfl⟩ := List.mem_map.mp m
  exact h z.2 (List.of_mem_zip mz).2 _ (List.mem_of_getElem? (V.get mz).1)
theorem mean_dn {os : List Nat} {cs : List (List Nat)} {ws : List (List Rat)} {pairs : List (List Nat × Rat)} {m S : Nat} (J : JnV os pairs m) (V : ∀ z ∈ pairs, WsV os cs ws z.1 S S) (s0 : 0 < S) : ∀ q ∈ pairs.map (fun z => z.2 * worthQ os cs ws z.1), Dn (m * S) (1 * (cs.length * S)) q := fun q mq => by
  obtain ⟨z, mz, rfl⟩ := List.mem_map.mp mq
  refine Dn.mul ?_ (worth_dn (V z mz))
  rw [(J.all z mz).2]
  exact Dn.frac J.m0 (by decide)
theorem one_JnV {os wh : List Nat} (h : Whole os wh) : JnV os [(wh, 1)] 1 := ⟨by decide, by decide, rfl, fun z m => by
  rw [List.mem_singleton.mp m]
  exact ⟨h, (mk_self (S := 1) (by decide)).symm⟩⟩
section
variable {P : Program} {w : World} {K : PySem.W.Frag} {mg : Str → Option Value} {base : Heap} {N ps : List Str} {x : Str} {i j k : Nat}
/-- a def that draws and shows -/
theorem mk_WG {S : List D → Prop} {Rs : List D → D → Prop} (C : Ct K mg) (j : Nat) (hd : fn[j]? = some (mkD x i)) (N ps : List Str) (hS : FnScope N ps (defScope (top i))) (hb : Bnd x i ps) (hl : ∀ ds, S ds → ds.length + 1 = ps.length)
    (hbody : ∀ f cdv A outer s H E, Room k (cx P w K mg base N x i f cdv A outer s H E).A → (cx P w K mg base N x i f cdv A outer s H E).A.guards = some [] → N.Nodup → ∀ wa ds, S ds → R (cx P w K mg base N x i f cdv A outer s H E) [wa] (startC N (.well :: ds.map .da)) (defBody (top i)) (fun _ => Rs ds .non) fun z => Rs ds z) : FcG P w K mg base (k + 1) x (spW K S Rs) := by
  obtain ⟨f, fd, F, hm⟩ := C.fd j _ hd
  refine ⟨f, fd, ps, okG F (N := N) hS ?_ ?_, hm, F.kp, F.bindsN hb⟩
  · rintro vs H Q E ⟨wa, vr, ds, rfl, _, h1, h2, _⟩
    rw [List.length_cons, h1.length, hl ds h2]
  · intro cdv A outer s H vs Q E quiet hr hsp
    obtain ⟨wa, vr, ds, rfl, wk, h1, h2, h3⟩ := hsp
    have hr' : Room k (cx P w K mg base N x i f cdv A outer s H E).A := hr
    have b := hbody f cdv A outer s H E hr' quiet hS.nd wa ds h2
    have sl : Sl K [wa] [] H (L2.start N (.ref wa :: vr)) (startC N (.well :: ds.map .da)) := by
      refine start_at (by rw [List.length_cons, h1.length, List.length_cons, List.length_map]) (fun i c e => ?_) wk fun a m => by cases m
      cases i with
      | zero =>
        cases e
        exact ⟨.ref wa, rfl, wa, rfl, rfl⟩
      | succ i =>
        rw [List.getElem?_cons_succ, List.getElem?_map] at e
        cases q : ds[i]? with
        | none =>
          rw [q] at e
          cases e
        | some d1 =>
          rw [q] at e
          cases e
          obtain ⟨v, e1, e2⟩ := h1.get q
          refine ⟨v, by rw [List.getElem?_cons_succ]; exact e1, v, rfl, ?_⟩
          rw [List.append_nil]
          exact e2
    have s3 : S3 K [wa] [] H H (L2.start N (.ref wa :: vr)) (startC N (.well :: ds.map .da)) := by
      refine ⟨sl, fun a m => (by cases m), Ex.refl _, fun i j c c' a e1 e2 o1 o2 _ _ => ?_⟩
      exfalso
      have m := List.mem_of_getElem? e1
      unfold startC at m
      rcases List.mem_append.mp m with m | m
      · rcases List.mem_cons.mp m with m | m
        · rw [m] at o1
          cases o1
        · obtain ⟨d1, _, q⟩ := List.mem_map.mp m
          rw [← q] at o1
          cases o1
      · rw [List.mem_replicate] at m
        rw [m.2] at o1
        cases o1
    suffices z : SVs (cx P w K mg base N x i f cdv A outer s H E) (defBody (top i)) { nx := fun _ H' => Q .non H', rt := Q } (L2.start N (.ref wa :: vr)) H by
      obtain ⟨t, p, q⟩ := z
      exact ⟨t, p.nox, q⟩
    refine b [] H (L2.start N (.ref wa :: vr)) H s3 { nx := fun _ H' => Q .non H', rt := Q } (fun O' ρ' σ' H' n s' => ?_) fun z v H' e da fr ex wk => ?_
    · exact h3 .non H' _ n (.im .non) (Fr.im rfl) s'.ex s'.sl.wk
    · exact h3 v H' z e da fr ex wk

end
section
variable {X : Cx} {W : List Addr} {ρ : List Cell} {a b : Expr} {p1 p2 q1 q2 pos : Pos} {d : D} {n w l : Nat}
theorem t_neRepr (g : Gm X.K X.mg) (gd : X.A.guards = some []) (hr : Room l X.A) (ha : ED X W ρ 0 a d) (hb : ED X W ρ 0 b d) (hz : Sz n w d) (hn : n ≤ 60) (hw : w ≤ 1000000) (hs : (∃ m ds, d = .tup m ds) ∨ ∃ ds, d = .lst ds) (hg : Gl X "repr" := by rfl) (he : starEach (a :: []) X.env = (false, eval a X.env) :: starEach [] X.env := by rfl) (he2 : starEach (b :: []) X.env = (false, eval b X.env) :: starEach [] X.env := by rfl) (hm : behindInMarks .NotEq (.Call (.Name "repr" p2) [b] [] q2) = false := by first | exact nomark _ | rfl) :
    TD X W ρ (.Compare (.Call (.Name "repr" p1) [a] [] q1) [.NotEq] [.Call (.Name "repr" p2) [b] [] q2] pos) false := by
  have h := t_cmpD (pos := pos) op_ne (e_repr (f := 0) (p := p1) (pos := q1) g gd hr ha hz hn hw hs hg he) (e_repr (f := 0) (p := p2) (pos := q2) g gd hr hb hz hn hw hs hg he2) od_neS hm
  rw [beq_self_eq_true] at h
  exact h
end
section
variable {P : Program} {w : World} {K : PySem.W.Frag} {mg : Str → Option Value} {base : Heap}
def Sright : List D → Prop := fun ds => ds = []
def Rright : List D → D → Prop := fun ds d => d = .bl true
theorem f_law_right (C : Ct K mg) : FcG P w K mg base 10 "_law_right" (spW K Sright Rright) := by
  refine mk_WG (k := 9) C 61 rfl ["_law_well_here", "_law_scenario_here", "_law_turn", "_law_game_here", "_law_paid_here", "_law_best", "_law_whole", "_law_told", "_law_pairs", "_law_value", "_law_mean", "_law_each", "_law_share"] ["_law_well_here"] ⟨rfl, rfl, rfl, by decide +kernel, rfl, by decide +kernel, by decide +kernel⟩ (fun _ _ _ _ _ _ us hl => match us, hl with | [_], _ => rfl) (fun ds s => ?_) fun f cdv A outer s H E hr gd nd wa ds sd => ?_
  · rw [s]
    rfl
  subst sd
  refine r_set 1 (P := fun d => ∃ os cs, ScV os cs ∧ d = scD os cs) (e_callW 0 (f_law_scenario C) hr rfl a_nil fun ds e => ?_) (fun d e => ?_) nd
  · subst e
    exact ⟨rfl, fun d r => r⟩
  obtain ⟨os, cs, V, rfl⟩ := e
  refine r_for (t := .nm 2) (it_rangeD C.g (n := 2) e_int (by decide)) (fits_map (g := nD) (xs := List.range 2) fun _ => rfl) (pgN 2 nd) (fun k ρ => ∃ c2 c3 c4 c5 c6 c7 c8 c9 c10 : Cell, c2.dull = true ∧ ρ = [.well, .da (scD os cs), c2, c3, c4, c5, c6, c7, c8, c9, c10, .un, .un]) ⟨.un, .un, .un, .un, .un, .un, .un, .un, .un, rfl, rfl⟩ ?_ ?_ rfl
  · rintro k d ρ' hi ⟨c2, c3, c4, c5, c6, c7, c8, c9, c10, h2, rfl⟩
    obtain ⟨k', ek, rfl⟩ := get_map (g := nD) (xs := List.range 2) hi
    refine ⟨fun j hj => ?_, ?_⟩
    · cases List.mem_singleton.mp hj
      exact ⟨c2, rfl, (dull_no h2).1⟩
    refine r_set 3 (P := fun d => ∃ qs wins S, GmV os cs qs wins ∧ 0 < S ∧ S ≤ 128 ∧ (∀ q ∈ qs, Dn S S q) ∧ d = gmD qs wins) (e_callW 0 (f_law_game C) hr rfl (ad_one (e_name 1 rfl)) fun ds e => ?_) (fun d e => ?_) nd
    · subst e
      refine ⟨⟨os, cs, V, rfl⟩, fun d r => ?_⟩
      obtain ⟨os', cs', qs, wins, S, e1, e2, e3, e4, e5, e6⟩ := r
      have es : os = os' ∧ cs = cs' := by
        injection e1 with e1
        injection e1 with _ e1
        injection e1 with a1 a2
        injection a2 with a2
        injection a2 with _ a2
        exact ⟨nT_inj _ _ a1, map_inj nT_inj _ _ a2⟩
      obtain ⟨rfl, rfl⟩ := es
      exact ⟨qs, wins, S, e2, e3, e4, e5, e6⟩
    obtain ⟨qs, wins, S, G, s0, s128, dq, rfl⟩ := e
    have c8' := V.c8
    have l1 := G.l1
    have WV : ∀ wh, Whole os wh → WsV os cs (paidQ qs wins) wh S S := fun wh h => paid_ws V G s0 s128 dq h
    have WV2 : ∀ wh ∈ sects os (List.range os.length), WsV os cs (paidQ qs wins) wh S S := fun wh m => WV wh (whole_vs.mp (sects_mem.mp m))
    obtain ⟨⟨q, wh⟩, hb, mb, eb, maxb⟩ := best_all (f := worthQ os cs (paidQ qs wins)) (whole_ne V)
    have ww : Whole os wh := whole_vs.mp (sects_mem.mp mb)
    have eb : q = worthQ os cs (paidQ qs wins) wh := eb
    have pnn := paid_nn (wins := wins) G.ch.nn
    have q0 : 0 ≤ q := by
      rw [eb]
      exact worth_nn (WV wh ww) pnn
    have qd : Dn S (cs.length * S) q := by
      rw [eb]
      exact worth_dn (WV wh ww)
    have qB : Bd 29 q := qd.bd (Nat.le_trans s128 (by decide)) (Nat.le_trans (Nat.mul_le_mul c8' s128) (by decide))
    have szq : Sz 1 100 (fr q) := sz_fr q0 qB
    have n4 := V.n6
    have szw : Sz 1 400 (nT .any wh) := sz_nT (fun i m => by
      obtain ⟨j, ej⟩ := List.getElem?_of_mem m
      have lj := (List.getElem?_eq_some_iff.mp ej).1
      have h1 := ww.1
      have h2 := ww.2 j (by omega)
      have h3 := (V.o2 _ (List.mem_of_getElem? (getD_some (show j < os.length by omega)))).2
      rw [List.getD_eq_getElem?_getD, ej] at h2
      have h2 : i < os.getD j 0 := h2
      omega) (by have := ww.1; omega)
    have szb : Sz 2 802 (prA fr (nT .any) (q, wh)) := Sz.tup (n := 1) (w := 400) (fun d m => by
      rcases List.mem_cons.mp m with e | m
      · rw [e]
        exact szq.mono (Nat.le_refl _) (by decide)
      · rw [List.mem_singleton.mp m]
        exact szw) 2 (Nat.le_refl _)
    have szt : Sz 3 1606 (.lst [prA fr (nT .any) (q, wh), prA fr (nT .any) (q, wh)]) := Sz.lst (n := 2) (w := 802) (fun d m => by
      rcases List.mem_cons.mp m with e | m
      · rw [e]
        exact szb
      · rw [List.mem_singleton.mp m]
        exact szb) 2 (Nat.le_refl _)
    -- a family of such assignments
    have famS : ∀ (pairs : List (List Nat × Rat)) (m : Nat), JnV os pairs m → Sfam [scD os cs, .lst (pairs.map (prA (nT .any) fr))] (rows (famOf os cs pairs)) := fun pairs m J => ⟨m, 1, os, cs, pairs, J.m0, Nat.le_trans J.m8 (by decide), by decide, by have := J.len; have := J.m8; exact Nat.le_trans (show pairs.length * 1 ≤ 8 by omega) (by decide), V, fun z mz => ⟨by rw [(J.all z mz).2]; exact Dn.frac J.m0 (by decide), (J.all z mz).1.1⟩, fun c mc z mz => place_lt (pick_vs (J.all z mz).1 (V.lot c mc).1.2), rfl, rfl⟩
    have gvS : ∀ (pairs : List (List Nat × Rat)) (m : Nat), JnV os pairs m → Sgv [scD os cs, gmD qs wins, rows (famOf os cs pairs)] (fr (meanQ os cs (paidQ qs wins) pairs)) := fun pairs m J => by
      refine ⟨S, S, m, m, 64, os, cs, qs, wins, famOf os cs pairs, V, G, fam_ok V J, s0, fun r mr => ⟨?_, paid_dn s0 dq r mr⟩, Nat.le_trans s128 (show 128 ≤ 2 ^ 100 by decide), Nat.le_trans s128 (show 128 ≤ 2 ^ 100 by decide), by decide, ?_, rfl, by rw [val_mean V (paid_at G) fun z mz => (J.all z mz).1]⟩
      · obtain ⟨y, my, rfl⟩ := List.mem_map.mp mr
        unfold paidRow
        rw [List.length_map]
        exact G.wl V _ (List.of_mem_zip my).2
      · exact Nat.le_trans (Nat.mul_le_mul_left 8 (Nat.mul_le_mul_left 64 (Nat.mul_le_mul s128 J.m8))) (show 8 * (64 * (128 * 8)) ≤ 2 ^ 100 by decide)
    have meanS : ∀ (pairs : List (List Nat × Rat)) (m : Nat), JnV os pairs m → 0 ≤ meanQ os cs (paidQ qs wins) pairs ∧ Dn (m * S) (8 * (1 * (8 * S))) (meanQ os cs (paidQ qs wins) pairs) := fun pairs m J => by
      have V2 : ∀ z ∈ pairs, WsV os cs (paidQ qs wins) z.1 S S := fun z mz => WV _ (J.all z mz).1
      refine ⟨tot_nn fun y my => ?_, ?_⟩
      · obtain ⟨z, mz, rfl⟩ := List.mem_map.mp my
        refine Rat.mul_nonneg ?_ (worth_nn (V2 z mz) pnn)
        rw [(J.all z mz).2, ← Rat.divInt_ofNat]
        exact Rat.divInt_nonneg (by decide) (by omega)
      · refine (Dn.total (Nat.mul_pos J.m0 s0) (mean_dn J V2 s0)).mono ?_
        rw [List.length_map, J.len]
        exact Nat.mul_le_mul J.m8 (Nat.mul_le_mul_left 1 (Nat.mul_le_mul_right _ c8'))
    refine r_setD 4 (d := rows (paidQ qs wins)) (e_callD (f_law_paid C) hr (ad_one (e_name 3 rfl)) ⟨qs, wins, by omega, fun x m => by have := G.wl V x m; omega, rfl, rfl⟩) ?_ nd
    refine r_unpack 5 6 (P := fun d => d = prA fr (nT .any) (q, wh)) (e_callD (f_law_greatest C) hr (ad_cons (e_name 1 rfl) (ad_one (e_name 4 rfl))) ⟨S, S, os, cs, paidQ qs wins, (q, wh), WV2, V, hb, rfl, rfl⟩) (fun d e => ⟨.any, fr q, nT .any wh, e, ?_⟩) nd
    have clS : Sclas [scD os cs, gmD qs wins] (prA fr (nT .any) (q, wh)) := ⟨S, S, os, cs, qs, wins, (q, wh), WV2, V, G, hb, rfl, rfl⟩
    refine r_setD 7 (d := .lst [prA fr (nT .any) (q, wh), prA fr (nT .any) (q, wh)]) (e_lst (ad_cons (e_callD (f_classical_value C) hr (ad_cons (e_name 1 rfl) (ad_one (e_name 3 rfl))) clS) (ad_one (e_callK (f_cvK C) hr (e_name 3 rfl) (e_name 1 rfl) clS)))) ?_ nd
    have lqb : Lq (.tup .key [fr q, nT .any wh]) (prA fr (nT .any) (q, wh)) := .any (LqL.refl _)
    refine r_ifN (t_neRepr C.g gd hr (e_name 7 rfl) (ED.lq (e_lst (ad_cons (e_tup (ad_cons (e_name (d := fr q) 5 rfl) (ad_one (e_name (d := nT .any wh) 6 rfl)))) (ad_one (e_tup (ad_cons (e_name (d := fr q) 5 rfl) (ad_one (e_name (d := nT .any wh) 6 rfl))))))) (.lst (.cons lqb (.cons lqb .nil)))) szt (by decide) (by decide) (.inr ⟨_, rfl⟩)) ?_
    have J1 : JnV os [(wh, 1)] 1 := one_JnV ww
    have e1 : meanQ os cs (paidQ qs wins) [(wh, 1)] = q := by
      unfold meanQ
      rw [List.map_cons, List.map_nil, tot_cons, tot_nil, Rat.add_zero, Rat.one_mul]
      exact eb.symm
    have g1 := gvS [(wh, 1)] 1 J1
    rw [e1] at g1
    refine r_ifN (t_neRepr C.g gd hr (e_callD (f_game_value C) hr (ad_cons (e_name 1 rfl) (ad_cons (e_name 3 rfl) (ad_one (e_callD (f_law_family C) hr (ad_cons (e_name 1 rfl) (ad_one (ED.lq (d1 := .lst ([(wh, (1 : Rat))].map (prA (nT .any) fr))) (e_lst (ad_one (e_tup (ad_cons (e_name (d := nT .any wh) 6 rfl) (ad_one (e_pq 1)))))) (.lst (.cons (.any (LqL.refl _)) .nil))))) (famS _ 1 J1))))) g1) (e_name (d := fr q) 5 rfl) szq (by decide) (by decide) (.inl ⟨_, _, rfl⟩)) ?_
    refine r_set 8 (P := fun d => ∃ pairs m, JnV os pairs m ∧ d = .lst (pairs.map (prA (nT .any) fr))) (e_callW 0 (f_law_joint C) hr rfl (ad_one (e_name 1 rfl)) fun ds e => ?_) (fun d e => ?_) nd
    · subst e
      refine ⟨⟨os, cs, V, rfl⟩, fun d r => ?_⟩
      obtain ⟨os', cs', pairs, m, e1, e2, e3⟩ := r
      have es : os = os' := by
        injection e1 with e1
        injection e1 with _ e1
        injection e1 with a1 a2
        exact nT_inj _ _ a1
      subst es
      exact ⟨pairs, m, e2, e3⟩
    obtain ⟨pairs, m, J, rfl⟩ := e
    have m0 := J.m0
    have m8 := J.m8
    obtain ⟨mn, md⟩ := meanS pairs m J
    have mS : m * S ≤ 8 * 128 := Nat.mul_le_mul m8 s128
    have S8 : 8 * (1 * (8 * S)) ≤ 8 * (1 * (8 * 128)) := by omega
    have mB : Bd 29 (meanQ os cs (paidQ qs wins) pairs) := md.bd (Nat.le_trans mS (by decide)) (Nat.le_trans S8 (by decide))
    have mBq : Bq (meanQ os cs (paidQ qs wins) pairs) := md.bd (Nat.le_trans mS (by decide)) (Nat.le_trans S8 (by decide))
    have qBq : Bq q := qd.bd (Nat.le_trans s128 (by decide)) (Nat.le_trans (Nat.mul_le_mul c8' s128) (by decide))
    refine r_setD 9 (d := fr (meanQ os cs (paidQ qs wins) pairs)) (e_callD (f_game_value C) hr (ad_cons (e_name 1 rfl) (ad_cons (e_name 3 rfl) (ad_one (e_callD (f_law_family C) hr (ad_cons (e_name 1 rfl) (ad_one (e_name 8 rfl))) (famS pairs m J))))) (gvS pairs m J)) ?_ nd
    refine r_setD 10 (d := fr (meanQ os cs (paidQ qs wins) pairs)) (e_callD (f_law_total C) hr (ad_one (e_lcA0 (t := .pr 11 12) (own := [("_law_each", 11), ("_law_share", 12)]) (xs := pairs) (g0 := prA (nT .any) fr) (gg := fun z => fr (z.2 * worthQ os cs (paidQ qs wins) z.1)) rfl nd (it_listD (e_name 8 rfl)) (blkOk_by rfl) (fun _ _ _ _ _ => pgP 11 12 nd) (by decide) (fun _ _ => rfl) (fun x _ y _ => prA_inj nT_inj (fun _ _ => fr_inj) x y) (fun z mz _ _ _ _ _ => ?_) (fun _ _ => rfl) (by have := J.len; omega))) ?_) ?_ nd
    · have zw := WV z.1 (J.all z mz).1
      exact e_callD (f_law_times C) hr (ad_cons (e_name (d := fr z.2) 12 rfl) (ad_one (e_callD (f_law_worth C) hr (ad_cons (e_name 1 rfl) (ad_cons (e_name 4 rfl) (ad_one (e_name (d := nT .any z.1) 11 rfl)))) ⟨.any, S, S, os, cs, paidQ qs wins, z.1, zw, rfl, rfl⟩))) ⟨_, _, by rw [(J.all z mz).2]; exact (Dn.frac (M := 1) m0 (by decide)).bd (Nat.le_trans m8 (by decide)) (by decide), zw.all, rfl, rfl⟩
    · refine ⟨true, m * S, 1 * (cs.length * S), pairs.map fun z => z.2 * worthQ os cs (paidQ qs wins) z.1, Nat.mul_pos m0 s0, mean_dn J (fun z mz => WV _ (J.all z mz).1) s0, Nat.le_trans mS (by decide), ?_, ?_, ?_, rfl⟩
      · rw [List.length_map, J.len]
        exact Nat.le_trans (Nat.mul_le_mul m8 (Nat.mul_le_mul_left 1 (Nat.mul_le_mul c8' s128))) (by decide)
      · exact Nat.le_trans (Nat.mul_le_mul_left 1 (Nat.mul_le_mul c8' s128)) (by decide)
      · show [D.lst _] = [D.lst _]
        rw [List.map_map]
        rfl
    · have one : tot (pairs.map (·.2)) = 1 := by
        have e : pairs.map (·.2) = (List.replicate m (1 : Int)).map fun n => mkRat n m := by
          rw [List.map_replicate]
          refine List.eq_replicate_iff.mpr ⟨by rw [List.length_map]; exact J.len, fun q mq => ?_⟩
          obtain ⟨z, mz, rfl⟩ := List.mem_map.mp mq
          exact (J.all z mz).2
        rw [e, tot_fr m0, sum_ones]
        exact mk_self m0
      have le : meanQ os cs (paidQ qs wins) pairs ≤ q := mean_le (fun z mz => by
        rw [(J.all z mz).2, ← Rat.divInt_ofNat]
        exact Rat.divInt_nonneg (by decide) (by omega)) one fun z mz => maxb z.1 (sects_mem.mpr (whole_vs.mpr (J.all z mz).1))
      refine r_ifN (t_of (tw_or (P := fun z => z = false) (t_neRepr C.g gd hr (e_name 9 rfl) (e_name 10 rfl) (sz_fr mn mB) (by decide) (by decide) (.inl ⟨_, _, rfl⟩)) (fun _ => tw_or1 (t_valD (ED.eq (e_callD (f_law_below C) hr (ad_cons (e_name (d := fr q) 5 rfl) (ad_one (e_name 10 rfl))) ⟨_, _, qBq, mBq, rfl, rfl⟩) (congrArg D.bl (decide_eq_false (Rat.not_lt.mpr le)))))) fun z => by cases z)) (r_nil ?_)
      exact ⟨_, _, _, _, _, _, _, _, _, rfl, rfl⟩
  · rintro ρ' ⟨c2, c3, c4, c5, c6, c7, c8, c9, c10, h2, rfl⟩
    exact r_retD (d := .bl true) e_bl rfl rfl
end
end K19
end

section
set_option Elab.async false
set_option linter.all false
set_option maxRecDepth 100000
set_option maxHeartbeats 4000000
namespace K19
open PySem PySem.Spec PyProof.Rows L2
/-! ### the script -/
section
variable {X : Cx} {W : List Addr} {ρ : List Cell} {f : Nat} {e b : Expr} {es : List Expr} {P : D → Prop} {a : Addr} {ns : List Int} {p1 p2 p pos : Pos} {x : Str} {l : Nat}
theorem e_scrLen (g : Gm X.K X.mg) (i : Nat) (h : ρ[i]? = some (.scr a ns)) (hg : Gl X "len" := by rfl) (hN : X.N[i]? = some x := by rfl) (hv : Vis X.env.scope x := by first | exact Or.inl rfl | exact Or.inr (Or.inl rfl) | exact Or.inr (Or.inr rfl))
    (hd : (x == ("__debug__" : Str)) = false := by decide) (hcd : (x == ("__classdict__" : Str)) = false := by decide) (he : starEach (.Name x p1 :: []) X.env = (false, eval (.Name x p1) X.env) :: starEach [] X.env := by rfl) : ED X W ρ f (.Call (.Name "len" p) [.Name x p1] [] pos) (nD ns.length) := fun O σ H s Q q => by
  obtain ⟨h1, h2⟩ := s.at_ i _ h
  have sq := (h2.mono (hid_le (W ++ O) H)).sq
  refine ⟨_, pe_callB call_len_seq hg g.len (by decide +kernel) (pa_cons (pe_var hN hv hd hcd) pa_nil he) (by decide) (by decide) he, _, h1, ?_⟩
  refine ⟨a, ns.map V.int, rfl, .inl sq, ?_⟩
  rw [List.length_map]
  exact q _ H _ rfl (Res.here s (.int _))
theorem e_scrIx (i : Nat) (h : ρ[i]? = some (.scr a ns)) (hb : ED X W ρ 0 b (nD l)) (hl : l < ns.length) (hs : PlainIx b := by exact fun _ _ => rfl) (hN : X.N[i]? = some x := by rfl) (hv : Vis X.env.scope x := by first | exact Or.inl rfl | exact Or.inr (Or.inl rfl) | exact Or.inr (Or.inr rfl))
    (hd : (x == ("__debug__" : Str)) = false := by decide) (hcd : (x == ("__classdict__" : Str)) = false := by decide) : ED X W ρ f (.Subscript (.Name x p1) b pos) (.int (ns.getD l 0)) := fun O σ H s Q q => by
  obtain ⟨h1, h2⟩ := s.at_ i _ h
  refine ⟨_, pe_ix ix_list (pe_var hN hv hd hcd) ev_pe hs, _, h1, hb O σ H s _ fun y H1 d p r => ?_⟩
  subst p
  have s1 := s.mono r.ex r.wk
  obtain ⟨_, h3⟩ := s1.at_ i _ h
  refine ⟨a, ns.map V.int, (l : Int), .int (ns.getD l 0), rfl, r.da.int_inv, (h3.mono (hid_le (W ++ O) H1)).sq, atI_nat ?_, q _ H1 _ rfl (Res.of s1.okk (.int _) r.ex r.wk)⟩
  rw [List.getElem?_map, List.getElem?_eq_getElem hl, List.getD_eq_getElem?_getD, List.getElem?_eq_getElem hl]
  rfl
theorem e_scrCut (i : Nat) {k : Nat} {kk} {q2 : Pos} {ik : Int} (hk : (k : Int) = ik) (h : ρ[i]? = some (.scr a ns)) (hN : X.N[i]? = some x := by rfl) (hv : Vis X.env.scope x := by first | exact Or.inl rfl | exact Or.inr (Or.inl rfl) | exact Or.inr (Or.inr rfl))
    (hd : (x == ("__debug__" : Str)) = false := by decide) (hcd : (x == ("__classdict__" : Str)) = false := by decide) : ED X W ρ f (.Subscript (.Name x p1) (.Slice none (some (.Constant (.int ik) kk q2)) none p2) pos) (.lst ((ns.take k).map .int)) := fun O σ H s Q q => by
  subst hk
  obtain ⟨h1, h2⟩ := s.at_ i _ h
  refine ⟨_, pe_slice sl_list (pe_var hN hv hd hcd) po_none (po_some pe_int), _, h1, ?_⟩
  refine ⟨k, rfl, a, ns.map V.int, rfl, (h2.mono (hid_le (W ++ O) H)).sq, fun p np => ?_⟩
  rw [cut_to, ← List.map_take]
  exact q _ _ _ rfl (Res.lst s np (imL_ints _))
theorem e_lstN {Pl : List D → Prop} (h : Ar X W ρ es Pl) (n : ∀ ds, Pl ds → noL ds = true ∧ ds.length ≤ 1000 ∧ P (.lst ds)) : E X W ρ f (.List es pos) P := fun O σ H s Q q => by
  refine ⟨_, pe_lst av_pa, h O σ H s _ fun vs H1 ds1 p l e1 w1 => ?_⟩
  obtain ⟨n1, z, pp⟩ := n ds1 p
  have s1 := s.mono e1 w1
  have im : ImL X.K (hid W H1) vs ds1 := by
    clear h q p z pp
    induction l with
    | nil => exact .nil
    | cons a l ih =>
      have n1' : (!isL _ && noL _) = true := n1
      rw [Bool.and_eq_true] at n1'
      exact .cons (a.im_of (by simpa using n1'.1)) (ih n1'.2)
  refine ⟨by rw [im.length]; exact Nat.le_trans z (by decide), fun p np => q _ _ _ pp ((Res.lst s1 np im).later e1 w1)⟩
end

/-! ### the defs that read the script -/
def spWell (K : PySem.W.Frag) : Sp := fun vs H Q _ => ∃ (a : Addr) (ns : List Int) (l : Nat), vs = [.ref a, .int (l : Int)] ∧ ScrAt K H a ns ∧ ns.length ≤ 63 ∧ l ≤ 3 ∧ ∀ v H' x y z, Da K H' v (.lst [.int x, .int y, .int z]) → Good x y z → Fr H v (.lst [.int x, .int y, .int z]) → Ex H H' → Q v H'
theorem scr_start {K : PySem.W.Frag} {H : Hp} {N : List Str} {a : Addr} {ns : List Int} {vs : List V} {ds : List D} (h : ScrAt K H a ns) (l : ImL K H vs ds) : S3 K [] [] H H (L2.start N (.ref a :: vs)) (startC N (.scr a ns :: ds.map .da)) := by
  refine ⟨start_at (by rw [List.length_cons, List.length_cons, List.length_map, l.length]) (fun i c e => ?_) (fun a m => (by cases m)) (fun a m => (by cases m)), fun a m => (by cases m), Ex.refl _, fun i j c c' b e1 e2 o1 o2 _ _ => ?_⟩
  · cases i with
    | zero =>
      cases e
      exact ⟨.ref a, rfl, rfl, by rw [List.nil_append, hid_nil]; exact h⟩
    | succ i =>
      rw [List.getElem?_cons_succ, List.getElem?_map] at e
      cases q : ds[i]? with
      | none =>
        rw [q] at e
        cases e
      | some d1 =>
        rw [q] at e
        cases e
        obtain ⟨v, e1, e2⟩ := l.get q
        exact ⟨v, by rw [List.getElem?_cons_succ]; exact e1, v, rfl, by rw [List.nil_append, hid_nil]; exact .im e2⟩
  · exfalso
    have m := List.mem_of_getElem? e1
    unfold startC at m
    rcases List.mem_append.mp m with m | m
    · rcases List.mem_cons.mp m with m | m
      · rw [m] at o1
        cases o1
      · obtain ⟨d1, _, q⟩ := List.mem_map.mp m
        rw [← q] at o1
        cases o1
    · rw [List.mem_replicate] at m
      rw [m.2] at o1
      cases o1
section
variable {P : Program} {w : World} {K : PySem.W.Frag} {mg : Str → Option Value} {base : Heap}
def RtWell (d : D) : Prop := ∃ x y z, d = .lst [.int x, .int y, .int z] ∧ Good x y z
theorem well_body (C : Ct K mg) {f : Addr} {cdv : Value} {A : Around} {outer : List Env} {s : Shared} {H : Hp} {E : XK} {a : Addr} {ns : List Int} {l : Nat} (nd : (["_law_script", "_law_lap", "_law_mixed", "_law_cell", "_law_own"] : List Str).Nodup) (hn : ns.length ≤ 63) (hl : l ≤ 3) :
    R (cx P w K mg base ["_law_script", "_law_lap", "_law_mixed", "_law_cell", "_law_own"] "_law_well" 60 f cdv A outer s H E) [] (startC ["_law_script", "_law_lap", "_law_mixed", "_law_cell", "_law_own"] [.scr a ns, .da (nD l)]) (defBody (top 60)) (fun _ => False) RtWell := by
  have sm : ∀ i j : Int, (-(2 ^ 64) < j ∧ j < 2 ^ 64) → CMul i j := fun i j h => .inr h
  refine r_set 2 (P := fun d => ∃ i, d = .int i ∧ True) (K19.E.up (f1 := 0) (ei_add (R := fun _ => True) (ei_of e_int) (ei_mul (R := fun _ => True) (ei_of e_int) (ei_of (e_name (d := nD l) 1 rfl)) fun i j pi pj => ⟨.inl (by rw [pi]; decide), trivial⟩) fun _ _ _ _ => trivial) fun d e => by
    obtain ⟨i, rfl, _⟩ := e
    rfl) (fun d e => ?_) nd
  obtain ⟨m0, rfl, _⟩ := e
  have stepE : ∀ i : Int, 0 ≤ i % 2147483477 ∧ i % 2147483477 < 2147483477 := fun i => ⟨Int.emod_nonneg _ (by decide), Int.emod_lt_of_pos _ (by decide)⟩
  refine r_for (t := .nm 3) (ds := (ns.take 11).map .int) (it_listD (e_scrCut 0 (k := 11) rfl rfl)) (fits_map fun _ => rfl) (pgN 3 nd) (fun k ρ => ∃ (m : Int) (c3 : Cell), c3.dull = true ∧ ρ = [.scr a ns, .da (nD l), .da (.int m), c3, .un]) ⟨m0, .un, rfl, rfl⟩ ?_ ?_ rfl
  · rintro k d ρ' hi ⟨m, c3, h3, rfl⟩
    obtain ⟨v, ev, rfl⟩ := get_map hi
    refine ⟨fun j hj => ?_, ?_⟩
    · cases List.mem_singleton.mp hj
      exact ⟨c3, rfl, (dull_no h3).1⟩
    refine r_set 2 (P := fun d => ∃ i, d = .int i ∧ True) (K19.E.up (f1 := 0) (ei_mod (R := fun _ => True) (ei_int C.g (ei_add (R := fun _ => True) (ei_add (R := fun _ => True) (ei_mul (R := fun _ => True) (ei_of (e_name (d := .int m) 2 rfl)) (ei_of e_int) fun i j _ pj => ⟨sm _ _ (by rw [pj]; decide), trivial⟩) (ei_mul (R := fun _ => True) (ei_mod (R := fun _ => True) (ei_int C.g (ei_of (e_name (d := .int v) 3 rfl))) (ei_of e_int) fun i j _ pj => ⟨by rw [pj]; decide, trivial⟩) (ei_of e_int) fun i j _ pj => ⟨sm _ _ (by rw [pj]; decide), trivial⟩) fun _ _ _ _ => trivial) (ei_of e_int) fun _ _ _ _ => trivial)) (ei_of e_int) fun i j _ pj => ⟨by rw [pj]; decide, trivial⟩) fun d e => by
      obtain ⟨i, rfl, _⟩ := e
      rfl) (fun d e => ?_) nd
    obtain ⟨m', rfl, _⟩ := e
    exact r_nil ⟨m', .da (.int v), rfl, rfl⟩
  · rintro ρ' ⟨m, c3, h3, rfl⟩
    refine r_set 4 (P := fun d => ∃ i, d = .int i ∧ True) (K19.E.up (f1 := 0) (e_if (k := decide ((l : Int) < (ns.length : Int))) (t_cmpD op_lt (e_name (d := nD l) 1 rfl) (e_scrLen C.g 0 rfl) od_lt) (fun h => K19.E.imp (ei_int C.g (ei_of (e_scrIx 0 rfl (e_name (d := nD l) 1 rfl) (by have := of_decide_eq_true h; omega)))) fun d e => ?_) fun _ => K19.E.imp e_int fun d e => ⟨0, e, trivial⟩) fun d e => ?_) (fun d e => ?_) nd
    · obtain ⟨i, rfl, _⟩ := e
      exact ⟨i, rfl, trivial⟩
    · obtain ⟨i, rfl, _⟩ := e
      rfl
    obtain ⟨ow, rfl, _⟩ := e
    refine r_set 2 (P := fun d => ∃ i, d = .int i ∧ 0 ≤ i ∧ i < 2147483477) (K19.E.up (f1 := 0) (ei_mod (ei_int C.g (ei_add (R := fun _ => True) (ei_add (R := fun _ => True) (ei_mul (R := fun _ => True) (ei_of (e_name (d := .int m) 2 rfl)) (ei_of e_int) fun i j _ pj => ⟨sm _ _ (by rw [pj]; decide), trivial⟩) (ei_mul (R := fun _ => True) (ei_mod (R := fun _ => True) (ei_int C.g (ei_of (e_name (d := .int ow) 4 rfl))) (ei_of e_int) fun i j _ pj => ⟨by rw [pj]; decide, trivial⟩) (ei_of e_int) fun i j _ pj => ⟨sm _ _ (by rw [pj]; decide), trivial⟩) fun _ _ _ _ => trivial) (ei_of e_int) fun _ _ _ _ => trivial)) (ei_of e_int) (R := fun i => 0 ≤ i ∧ i < 2147483477) fun i j _ pj => ⟨by rw [pj]; decide, by rw [pj]; exact stepE i⟩) fun d e => by
      obtain ⟨i, rfl, _⟩ := e
      rfl) (fun d e => ?_) nd
    obtain ⟨y, rfl, y0, y1⟩ := e
    refine r_ret (e_lstN (Pl := fun ds => ∃ x : Int, 0 ≤ x ∧ ds = [.int x, .int y, .int 0]) (a_cons (P := fun d => ∃ x : Int, d = .int x ∧ 0 ≤ x) (Pl := fun ds => ds = [.int y, .int 0]) (e_ifN (P' := fun _ => True) (t_of (tw_or (P := fun _ => True) (K19.T.imp (t_cmpD op_lt (e_name (d := .int ow) 4 rfl) e_int od_lt) fun _ _ => trivial) (fun _ => tw_or1 (K19.T.imp (t_cmpD op_ge (e_name (d := .int ow) 4 rfl) (e_pow e_int e_int ⟨by decide, by decide, by decide⟩) od_ge) fun _ _ => trivial)) fun _ => trivial)) (fun _ => K19.E.imp (e_abs C.g (e_name (d := .int ow) 4 rfl)) fun d e => ⟨_, e, by rw [abs_nat]; omega⟩) fun _ => K19.E.imp e_int fun d e => ⟨0, e, Int.le_refl _⟩) (ad_cons (e_name (d := .int y) 2 rfl) (ad_one e_int)) fun d ds e1 e2 => ?_) fun ds e => ?_)
    · obtain ⟨x, rfl, x0⟩ := e1
      exact ⟨x, x0, by rw [e2]⟩
    · obtain ⟨x, x0, rfl⟩ := e
      exact ⟨rfl, Nat.le_of_ble_eq_true rfl, x, y, 0, rfl, x0, y0, y1, Int.le_refl _⟩
theorem f_law_well (C : Ct K mg) : Fc P w K mg base 3 "_law_well" (spWell K) := by
  obtain ⟨f, fd, F, hm⟩ := C.fd 40 _ rfl
  refine ⟨f, fd, ["_law_script", "_law_lap"], F.ok (k := 2) (N := ["_law_script", "_law_lap", "_law_mixed", "_law_cell", "_law_own"]) ⟨rfl, rfl, rfl, by decide +kernel, rfl, by decide +kernel, by decide +kernel⟩ ?_ ?_, hm, F.kp, F.bindsN (fun _ _ _ _ _ _ us hl => match us, hl with | [_, _], _ => rfl)⟩
  · rintro vs H Q E ⟨a, ns, l, rfl, _⟩
    rfl
  · intro cdv A outer s H vs Q E hr hsp
    obtain ⟨a, ns, l, rfl, h1, h2, h3, h4⟩ := hsp
    have b := well_body (P := P) (w := w) (base := base) C (f := f) (cdv := cdv) (A := A) (outer := outer) (s := s) (H := H) (E := E) (a := a) (ns := ns) (l := l) (by decide +kernel) h2 h3
    have st := scr_start (N := ["_law_script", "_law_lap", "_law_mixed", "_law_cell", "_law_own"]) (vs := [.int (l : Int)]) (ds := [nD l]) h1 (.cons (.int _) .nil)
    suffices z : SVs (cx P w K mg base ["_law_script", "_law_lap", "_law_mixed", "_law_cell", "_law_own"] "_law_well" 60 f cdv A outer s H E) (defBody (top 60)) { nx := fun _ H' => Q .non H', rt := Q } (L2.start ["_law_script", "_law_lap", "_law_mixed", "_law_cell", "_law_own"] [.ref a, .int (l : Int)]) H by
      obtain ⟨t, p, q⟩ := z
      exact ⟨t, p.nox, q⟩
    refine b [] H _ H st { nx := fun _ H' => Q .non H', rt := Q } (fun O' ρ' σ' H' n s' => n.elim) fun d v H' rt da fr ex wk => ?_
    obtain ⟨x, y, z, rfl, gd⟩ := rt
    rw [hid_nil] at da
    rw [hid_nil, hid_nil] at ex
    exact h4 v H' x y z da gd fr ex
/-- _law_right(_law_well(script, lap)) -/
theorem e_turn {X : Cx} {ρ : List Cell} {f l : Nat} {p p2 pos pos2 p3 : Pos} {e : Expr} {x : Str} {a : Addr} {ns : List Int} {n : Nat} (gd : X.A.guards = some []) (hr : Room l X.A) (hk : 10 ≤ l) (cr : FcG X.prog X.w X.K X.mg X.base 10 "_law_right" (spW X.K Sright Rright)) (cw : Fc X.prog X.w X.K X.mg X.base 3 "_law_well" (spWell X.K)) (i : Nat) (h : ρ[i]? = some (.scr a ns)) (hn : ns.length ≤ 63) (hb : ED X [] ρ 0 e (nD n)) (hl : n ≤ 3) (hg : Gl X "_law_right" := by rfl) (hg2 : Gl X "_law_well" := by rfl)
    (hN : X.N[i]? = some x := by rfl) (hv : Vis X.env.scope x := by first | exact Or.inl rfl | exact Or.inr (Or.inl rfl) | exact Or.inr (Or.inr rfl)) (hd : (x == ("__debug__" : Str)) = false := by decide) (hcd : (x == ("__classdict__" : Str)) = false := by decide)
    (s1 : starEach (.Call (.Name "_law_well" p2) [.Name x p3, e] [] pos2 :: []) X.env = (false, eval (.Call (.Name "_law_well" p2) [.Name x p3, e] [] pos2) X.env) :: starEach [] X.env := by rfl) (s2 : starEach (.Name x p3 :: [e]) X.env = (false, eval (.Name x p3) X.env) :: starEach [e] X.env := by rfl) (s3 : starEach (e :: []) X.env = (false, eval e X.env) :: starEach [] X.env := by rfl)
    (l1 : (backTo pos (starEach [] X.env)).any (·.1) = false := by rfl) (l2 : (backTo pos2 (starEach [e] X.env)).any (·.1) = false := by rfl) : ED X [] ρ f (.Call (.Name "_law_right" p) [.Call (.Name "_law_well" p2) [.Name x p3, e] [] pos2] [] pos) (.bl true) := fun O σ H s Q q => by
  obtain ⟨h1, h2⟩ := s.at_ i _ h
  refine ⟨_, pe_fcG gd cr hr hk hg (pa_cons (pe_fc cw hr (Nat.le_trans (by decide) hk) hg2 (pa_cons (pe_var hN hv hd hcd) (pa_cons ev_pe pa_nil s3) s2) (by decide) s2 l2) pa_nil s1) (by decide) s1 l1, ?_⟩
  refine ⟨_, h1, hb O σ H s _ fun v H1 d pd r => ?_⟩
  subst pd
  have t1 := s.mono r.ex r.wk
  obtain ⟨_, h3⟩ := t1.at_ i _ h
  have ex1 := r.ex
  rw [hid_nil, hid_nil] at ex1
  show spWell X.K ([.ref a, v] ++ []) H1 _ E0
  rw [List.append_nil]
  refine ⟨a, ns, n, by rw [r.da.int_inv], h3.mono (hid_le _ H1), hn, hl, fun v2 H2 x2 y2 z2 da gdd fr ex2 => ?_⟩
  obtain ⟨wa, rfl, nw⟩ := fr _ rfl
  obtain ⟨wa', xs, e1, g1, g2⟩ := da.ls_inv
  cases e1
  have ei : xs = [.int x2, .int y2, .int z2] := g2.ints (ns := [x2, y2, z2])
  subst ei
  show spW X.K Sright Rright ([.ref wa] ++ []) H2 Q E0
  rw [List.append_nil]
  refine ⟨wa, [], [], rfl, fun b m => by rw [List.mem_singleton.mp m]; exact ⟨x2, y2, z2, g1, gdd⟩, .nil, rfl, fun v3 H3 d rr da3 fr3 ex3 wk3 => ?_⟩
  have rr : d = .bl true := rr
  subst rr
  have ex : Ex H H3 := fun b o eb => by
    have e1 := ex1 b o eb
    have e2 := ex2 b o e1
    have nb : b ≠ wa := fun z => by
      rw [z, nw] at e1
      cases e1
    exact (hid_some (ex3 b o (by rw [hid_out fun m => nb (List.mem_singleton.mp m)]; exact e2))).2
  have im : Im X.K (hid [] H3) v3 (.bl true) := by
    have := da3.bl_inv
    subst this
    exact .bl true
  refine q v3 H3 _ rfl (Res.of (fun b mb => ?_) im (by rw [hid_nil, hid_nil]; exact ex) fun b mb => by cases mb)
  obtain ⟨_, o, eo, so⟩ := s.ok b mb
  exact ⟨o, ex b o eo, so⟩
def spLaw (K : PySem.W.Frag) : Sp := fun vs H Q _ => ∃ (a : Addr) (ns : List Int), vs = [.ref a] ∧ ScrAt K H a ns ∧ ns.length ≤ 63 ∧ ∀ H', Q (.bl true) H'
theorem law_ok (C : Ct K mg) {f : Addr} (hf : mg ("law" : Str) = some (.ref f)) : ∃ fd : FuncData, (∀ (s : Shared) (v : Value), BindsTo s fd ⟨[v], []⟩ [("_law_script", v)]) ∧ ∀ base : Heap, FnG P w K mg base 12 f fd ["_law_script"] (spLaw K) := by
  obtain ⟨f', fd, F, hm⟩ := C.fd 62 _ rfl
  have ef : f' = f := by
    have hm : mg ("law" : Str) = some (.ref f') := hm
    rw [hf] at hm
    injection hm with hm
    injection hm with hm
    exact hm.symm
  subst ef
  refine ⟨fd, fun s v => F.bindsA (ps := ["_law_script"]) (fun _ _ _ _ _ _ us hl => match us, hl with | [_], _ => rfl) s [v] rfl, fun base => okG F (k := 11) (N := ["_law_script", "_law_lap"]) ⟨rfl, rfl, rfl, by decide +kernel, rfl, by decide +kernel, by decide +kernel⟩ ?_ ?_⟩
  · rintro vs H Q E ⟨a, ns, rfl, _⟩
    rfl
  · intro cdv A outer s H vs Q E gd hr hsp
    obtain ⟨a, ns, rfl, h1, h2, h3⟩ := hsp
    have nd : (["_law_script", "_law_lap"] : List Str).Nodup := by decide +kernel
    have b : R (cx P w K mg base ["_law_script", "_law_lap"] "law" 82 f' cdv A outer s H E) [] (startC ["_law_script", "_law_lap"] [.scr a ns]) (defBody (top 82)) (fun _ => False) fun d => d = .bl true := by
      have hm : max 2 (min ns.length 3) ≤ 3 := by omega
      refine r_retD (d := .bl true) (ED.eq (e_allA C.g (xs := List.range (max 2 (min ns.length 3))) (b := fun _ => true) rfl (e_lcA0 (t := .nm 1) (own := [("_law_lap", 1)]) (g0 := nD) rfl nd (it_rangeD C.g (n := max 2 (min ns.length 3)) (ED.eq (e_max2 C.g rfl e_int (e_min2 C.g rfl (e_scrLen C.g 0 rfl) e_int)) ?_) (by omega)) (blkOk_by rfl) (fun _ _ _ _ _ => pgN 1 nd) (by decide) (fun _ _ => rfl) (fun x _ y _ => nD_inj x y) (fun i mi _ _ _ _ _ => ?_) (fun _ _ => rfl) (by rw [List.length_range]; omega))) (congrArg D.bl (all_tt _))) rfl rfl
      · congr 1
        by_cases q : (3 : Int) < (ns.length : Int)
        · rw [if_pos q]
          have e : max 2 (min ns.length 3) = 3 := by omega
          rw [e]
          rfl
        · rw [if_neg q]
          by_cases q2 : (ns.length : Int) > 2
          · rw [if_pos q2]
            have e : max 2 (min ns.length 3) = ns.length := by omega
            rw [e]
          · rw [if_neg q2]
            have e : max 2 (min ns.length 3) = 2 := by omega
            rw [e]
            rfl
      · have := List.mem_range.mp mi
        exact e_turn gd hr (by decide) (f_law_right C) (f_law_well C) 0 rfl h2 (e_name 1 rfl) (by omega)
    have st := scr_start (N := ["_law_script", "_law_lap"]) (vs := []) (ds := []) h1 .nil
    suffices z : SVs (cx P w K mg base ["_law_script", "_law_lap"] "law" 82 f' cdv A outer s H E) (defBody (top 82)) { nx := fun _ H' => Q .non H', rt := Q } (L2.start ["_law_script", "_law_lap"] [.ref a]) H by
      obtain ⟨t, p, q⟩ := z
      exact ⟨t, p.nox, q⟩
    refine b [] H _ H st { nx := fun _ H' => Q .non H', rt := Q } (fun O' ρ' σ' H' n s' => n.elim) fun d v H' rt da fr ex wk => ?_
    subst rt
    rw [da.bl_inv]
    exact h3 H'
end
end K19
end

section
set_option Elab.async false
set_option linter.all false
set_option maxRecDepth 100000
set_option maxHeartbeats 0
namespace K19
open PySem PySem.Spec PyProof.Rows L2
def exB (K : PySem.W.Frag) : Bool := He.tupB K "ZERO" [.int 0, .int 1] && (He.tupB K "ONE" [.int 1, .int 1] && decide (PySem.W.nsIn K mainGlobals "gcd" = some (some (.builtin "math.gcd"))))
abbrev Al : Type := Bool × Bool × List He.FnW
def obsX (K : PySem.W.Frag) : Al := (exB K, He.obsD fa fn K)
def valX : Al := (true, He.valD fn)
def obsG (n : Nat) (g : Addr → Option Obj) : Al := obsX (He.frG g (He.asD g n))
def hk : PySem.W.Hook where
  α := Al
  obs := fun s => obsG 4 s.heap.get?
  val := fun _ => valX
  says := fun _ h => ∃ K : PySem.W.Frag, K.In h ∧ obsX K = valX
  of := fun _ _ e => ⟨_, He.frG_in, e⟩
  keeps := fun _ _ _ ⟨K, hK, c⟩ k => ⟨K, PySem.W.Frag.In.keeps hK k, c⟩
abbrev R0 : PySem.W.OpenRow := PySem.W.OpenLaw.row PySem.Challenge.rw_belltables_k19_whole_classical_values_be
def ob (s : PySem.W.SharedT) : Al := obsG 4 (HandSHeadRun.getT s)
theorem ob_eq (s : PySem.W.SharedT) : ob s = hk.obs s.abs := by
  have e : HandSHeadRun.getT s = s.abs.heap.get? := funext (HandSHeadRun.getT_eq s)
  show obsG 4 (HandSHeadRun.getT s) = obsG 4 s.abs.heap.get?
  rw [e]
def loose0 : List Str := ["is_whole", "is_between", "is_tuple_of", "ZERO", "ONE", "is_ratio", "is_row", "ratio", "plus", "times", "is_less", "total", "dot", "MOST_OBSERVABLES", "MOST_OUTCOMES"]
def loose1 : List Str := ["MOST_GLOBAL", "is_lot_of", "is_part", "product_of", "are_outcomes", "are_contexts", "is_scenario_by", "sections_by", "all_of", "globals_of", "is_chances", "part_of", "marginal_by", "shared_by", "agree"]
def loose2 : List Str := ["is_agreed", "LabError", "InvalidScenario", "InvalidFamily", "NotAgreed", "InvalidGame", "check_scenario", "check_family", "check_agreed", "value_by", "worth_of", "are_wins", "is_game_by", "won_by", "game_value_by"]
def loose3 : List Str := ["greatest_by", "classical_by", "check_game", "game_value", "classical_value", "_law_well", "_law_draw", "_law_one", "_law_dealt", "_law_frac", "_law_plus", "_law_times", "_law_below", "_law_total", "_law_contexts"]
def loose4 : List Str := ["_law_is_within", "_law_scenario", "_law_sections", "_law_globals", "_law_place", "_law_family", "_law_joint", "_law_game", "_law_paid", "_law_worth", "_law_greatest", "_law_right"]
abbrev loose : List Str := loose0 ++ (loose1 ++ (loose2 ++ (loose3 ++ (loose4))))
theorem run (w : World) : HandSHeadRun.RunEqI R0 (PySem.W.view R0.prog [0, 82]) hk ob 20000 loose w := by
  unfold HandSHeadRun.RunEqI
  kernel_rfl
end K19
end

section
set_option Elab.async false
set_option linter.all false
set_option maxRecDepth 100000
set_option maxHeartbeats 0
namespace K19
open PySem PySem.Spec PyProof.Rows L2
def fnL0 : List (Str × Nat) := [("is_whole", 2), ("is_between", 3), ("is_tuple_of", 4), ("is_ratio", 8), ("is_row", 9), ("ratio", 10), ("plus", 11), ("times", 12), ("is_less", 13), ("total", 14)]
def fnL1 : List (Str × Nat) := [("dot", 15), ("is_lot_of", 20), ("is_part", 21), ("product_of", 22), ("are_outcomes", 23), ("are_contexts", 24), ("is_scenario_by", 25), ("sections_by", 26), ("all_of", 27), ("globals_of", 28)]
def fnL2 : List (Str × Nat) := [("is_chances", 29), ("part_of", 30), ("marginal_by", 31), ("shared_by", 32), ("agree", 33), ("is_agreed", 34), ("check_scenario", 42), ("check_family", 43), ("check_agreed", 44), ("value_by", 46)]
def fnL3 : List (Str × Nat) := [("worth_of", 47), ("are_wins", 49), ("is_game_by", 50), ("won_by", 51), ("game_value_by", 52), ("greatest_by", 53), ("classical_by", 54), ("check_game", 56), ("game_value", 57), ("classical_value", 58)]
def fnL4 : List (Str × Nat) := [("_law_well", 60), ("_law_draw", 61), ("_law_one", 62), ("_law_dealt", 63), ("_law_frac", 64), ("_law_plus", 65), ("_law_times", 66), ("_law_below", 67), ("_law_total", 68), ("_law_contexts", 69)]
def fnL5 : List (Str × Nat) := [("_law_is_within", 70), ("_law_scenario", 71), ("_law_sections", 72), ("_law_globals", 73), ("_law_place", 74), ("_law_family", 75), ("_law_joint", 76), ("_law_game", 77), ("_law_paid", 78), ("_law_worth", 79)]
def fnL6 : List (Str × Nat) := [("_law_greatest", 80), ("_law_right", 81), ("law", 82)]
def fnL : List (Str × Nat) := fnL0 ++ fnL1 ++ fnL2 ++ fnL3 ++ fnL4 ++ fnL5 ++ fnL6
theorem fn_eq : fn = fnL.map fun p => mkD p.1 p.2 := rfl
theorem fa_eq : fa = (fnL.map fun p => He.Fa.glo p.1) ++ fa.drop 63 := rfl
theorem scr_of {K : PySem.W.Frag} {H : Hp} {a : Addr} {ns : List Int} (o : Only H) (h : SqL K H a (ns.map V.int)) : ScrAt K H a ns := by
  rcases h with (h | h) | h
  · rcases o a with z | ⟨ob, xs, z⟩
    · rw [h] at z
      cases z
    · rw [h] at z
      cases z
  · exact .inl h
  · exact .inr h
theorem ct_of {K : PySem.W.Frag} {h : Heap} {mg : Str → Option Value} (X : K.In h) (G : h.Ns mainGlobals mg) (c : obsX K = valX) : Ct K mg := by
  have sd : He.SaysD fa fn K := congrArg Prod.snd c
  have ex : exB K = true := congrArg Prod.fst c
  unfold exB at ex
  rw [Bool.and_eq_true, Bool.and_eq_true, decide_eq_true_iff] at ex
  obtain ⟨z0, z1, gc⟩ := ex
  refine ⟨⟨He.free_ok X G (sd.fact 63), He.free_ok X G (sd.fact 64), He.free_ok X G (sd.fact 65), He.free_ok X G (sd.fact 66), He.free_ok X G (sd.fact 67), He.free_ok X G (sd.fact 68), He.free_ok X G (sd.fact 69), He.free_ok X G (sd.fact 70), He.free_ok X G (sd.fact 71), He.free_ok X G (sd.fact 72), He.free_ok X G (sd.fact 73), He.free_ok X G (sd.fact 74), He.free_ok X G (sd.fact 75), He.free_ok X G (sd.fact 76), He.free_ok X G (sd.fact 77), He.free_ok X G (sd.fact 78), He.free_ok X G (sd.fact 79), He.free_ok X G (sd.fact 80), He.free_ok X G (sd.fact 81),
    PySem.W.mg_of X G gc, He.int_ok X G (sd.fact 82), He.int_ok X G (sd.fact 83), He.int_ok X G (sd.fact 84), ⟨_, He.glo_ok X G (sd.fact 85), fun H => He.tupB_ok z0 H⟩, ⟨_, He.glo_ok X G (sd.fact 86), fun H => He.tupB_ok z1 H⟩⟩, fun j d e => ?_⟩
  obtain ⟨fd, F⟩ := sd.def_ j e
  have lt := (List.getElem?_eq_some_iff.mp e).1
  rw [fn_eq, List.getElem?_map] at e
  cases ep : fnL[j]? with
  | none =>
    rw [ep] at e
    cases e
  | some p =>
    rw [ep] at e
    cases e
    refine ⟨_, fd, F, He.glo_ok X G (x := p.1) (sd.fact j ?_)⟩
    have l2 : j < (fnL.map fun p => He.Fa.glo p.1).length := by
      rw [List.length_map]
      exact (List.getElem?_eq_some_iff.mp ep).1
    rw [fa_eq, List.getElem?_append_left l2, List.getElem?_map, ep]
    rfl
theorem walk_endG {l : PySem.W.OpenLaw} {n k : Nat} {q : Program} {loose : List Str} {XP : (Str → Option Value) → Heap → Prop} {YP : World → Heap → Prop} {d : DefRec} {x : Str}
    (hn : l.most = some n) (hn2 : n ≤ 63) (hdf : d.params.defaults = []) (hr : Room k callerA)
    (F : ∀ (w : World) (mg : Str → Option Value) (fa : Addr) (h : Heap), YP w h → h.Ns mainGlobals mg → mg d.name = some (.ref fa) →
      ∃ (K : PySem.W.Frag) (fd : FuncData), K.In h ∧ (∀ (s : Shared) (u : Value), BindsTo s fd ⟨[u], []⟩ [(x, u)]) ∧ ∀ base : Heap, K.In base → base.Ns mainGlobals mg → FnG l.prog w K mg base k fa fd [x] (spLaw K)) :
    PySem.W.WalkO q loose XP YP l.row.toRowW d [] (fun f vs => PySem.call f vs) := by
  refine Att.attach_callB hn hdf fun w s0 s1 mg mb fa o pm cd doc a vs ns G Y ho hd hcd hmg hobj hints hlen hbits hg => ?_
  obtain ⟨K, fd, KX, hb, hF⟩ := F w mg fa _ Y G.T.g hmg
  have h63 : ns.length ≤ 63 := Nat.le_trans hlen hn2
  exact callG KX G.T.g G.T.b G.T.builtins G.T.nolimit hg hobj hints (Nat.le_trans h63 (by decide)) hr hF hb fun H hO hS => ⟨a, ns, rfl, scr_of hO hS, h63, fun _ => rfl⟩
end K19
open PySem PySem.W PySem.Calls PyProof.Rows
theorem PySem.Challenge.cw_belltables_k19_whole_classical_values_be_holds : PySem.Challenge.rw_belltables_k19_whole_classical_values_be.Holds := by
  w_on; o_law
  refine HandSHeadRun.head_imp (r := K19.R0) (q := view (OpenLaw.row PySem.Challenge.rw_belltables_k19_whole_classical_values_be).prog [0, 82]) (H := K19.hk) (ob := K19.ob) (M := 20000) (loose := K19.loose) (d := HandSHeadRun.topDef (OpenLaw.row PySem.Challenge.rw_belltables_k19_whole_classical_values_be).prog 82) (kwd := []) K19.ob_eq
    K19.run (by kernel_rfl) (by kernel_rfl) (by kernel_rfl) (by rfl) (by first | assumption | decide +kernel) (by decide +kernel) ⟨rfl, rfl, rfl, rfl, rfl, by decide +kernel⟩ ?hw ?hc
  case hw => w_witness2
  case hc =>
    refine K19.walk_endG (l := PySem.Challenge.rw_belltables_k19_whole_classical_values_be) (n := 63) (k := 12) (x := "_law_script") rfl (by decide) (by kernel_rfl) ⟨rfl, by decide, by decide⟩ ?F
    intro w mg fa h Y G hmg0
    obtain ⟨K, KX, c⟩ := Y
    have hmg : mg ("law" : PySem.Str) = some (.ref fa) := by
      have e : (HandSHeadRun.topDef (OpenLaw.row PySem.Challenge.rw_belltables_k19_whole_classical_values_be).prog 82).name = ("law" : PySem.Str) := by kernel_rfl
      rw [← e]
      exact hmg0
    have C := K19.ct_of KX G c
    obtain ⟨fd, hb, hF⟩ := K19.law_ok (P := (PySem.Challenge.rw_belltables_k19_whole_classical_values_be).prog) (w := w) C hmg
    exact ⟨K, fd, KX, hb, fun base _ _ => hF base⟩
end
