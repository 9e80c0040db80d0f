import PyProof.Rows.All
import HandS.ForMost
import HandS.ForExc
import HandS.Walk
import HandS.TupAny
import HandS.IsInst
import HandS.Flow
import HandS.MakeKwOnly
import HandS.Style
import HandS.More
import HandS.WideBits
import HandS.Deep
import HandS.ForSpec
import HandS.Conv
import HandS.Gcd
import HandS.SortInts
import HandS.SetFor
import HandS.Strs
import HandS.Iter
import HandS.Zip
import HandS.DictComp
import HandS.TryOnly
import HandS.SortRule
import HandS.TryMany
import HandS.SuiteRaise
import HandS.CallLocal
import HandS.Star
import KE.DatumOrd
import HandS.WordsDict
import HandS.TupLen
import HandS.IterVal
import HandS.Keys
import HandS.TupMul
import PySem.Challenge.RW_echofolds_k47_whole_possible_with_shifts
set_option Elab.async false
set_option linter.all false
set_option maxRecDepth 100000
set_option maxHeartbeats 4000000
/-! DL1: deep data D over the hand layer: cells (things that change) by number, all else by value. -/
namespace DL
open PySem L2

/-! ### data -/
inductive D where
  | non | bl (b : Bool) | int (i : Int) | str (x : Str) | tup (ds : List D) | lst (ds : List D)
  | dct (ks vs : List D) | hnd (k : Nat) | ref (a : Addr) | ty (n : String) | scr (ds : List D) | ktp (ds : List D) | fn (x : Str)
inductive Cell where
  | lst (ds : List D)
  | dct (ks vs : List D)
abbrev Cells := List Cell
/-- an error that leaves: its class's name, its fields -/
structure Er where
  c : Str
  fs : List (Str × D)

/-- where the cells stand (cs), and what is hidden meanwhile (hs: the lists that comprehensions are making) -/
structure Al where
  cs : List Addr
  hs : List Addr
abbrev Al.all (α : Al) : List Addr := α.cs ++ α.hs
abbrev Al.push (α : Al) (p : Addr) : Al := ⟨α.cs ++ [p], α.hs⟩
abbrev Al.hide (α : Al) (p : Addr) : Al := ⟨α.cs, p :: α.hs⟩

/-- a key as data -/
def kD : Key → D
  | .inl i => .int i
  | .inr x => .str x
def ktD (k : List Key) : D := .tup (k.map kD)

/-- a list that nobody changes: the script, a list of the written part -/
def SqF (K : PySem.W.Frag) (H : Hp) (a : Addr) (xs : List V) : Prop :=
  (∃ o, H a = some (.frz o (.lst xs))) ∨ ∃ (o : Obj) (its : Array Value) (n : Nat), K.lookup a = some o ∧ o.cls = .type "list" ∧ o.dict = none ∧ o.data = .seq its n ∧ its.size ≤ sizeLine ∧ Vals xs its.toList
theorem SqF.sq {K : PySem.W.Frag} {H : Hp} {a : Addr} {xs : List V} (h : SqF K H a xs) : SqL K H a xs := by
  rcases h with ⟨o, h⟩ | h
  · exact .inl (.inr ⟨o, h⟩)
  · exact .inr h
mutual
/-- v stands for d, the cells at α -/
inductive VR (K : PySem.W.Frag) (α : Al) (H : Hp) : V → D → Prop where
  | non : VR K α H .non .non
  | bl (b : Bool) : VR K α H (.bl b) (.bl b)
  | int (i : Int) : VR K α H (.int i) (.int i)
  | str (x : Str) : VR K α H (.str x) (.str x)
  | tup {a : Addr} {xs : List V} {ds : List D} : H a = some (.tup xs) → xs.length ≤ sizeLine → VRs K α H xs ds → VR K α H (.ref a) (.tup ds)
  | ktp {a : Addr} {xs : List V} {ds : List D} : SqT K H a xs → xs.length ≤ sizeLine → VRs K α H xs ds → VR K α H (.ref a) (.ktp ds)
  | lst {a : Addr} {xs : List V} {ds : List D} : H a = some (.lst xs) → a ∉ α.all → xs.length ≤ sizeLine → VRs K α H xs ds → VR K α H (.ref a) (.lst ds)
  | dctK {a : Addr} {kvs : List (Key × V)} {ks vs : List D} : H a = some (.dK kvs) → a ∉ α.all → ks = kvs.map (fun p => kD p.1) → VRs K α H (kvs.map (·.2)) vs → VR K α H (.ref a) (.dct ks vs)
  | dctT {a : Addr} {kvs : List (List Key × V)} {ks vs : List D} : H a = some (.dT kvs) → a ∉ α.all → ks = kvs.map (fun p => ktD p.1) → VRs K α H (kvs.map (·.2)) vs → VR K α H (.ref a) (.dct ks vs)
  | hnd {k : Nat} {a : Addr} : α.cs[k]? = some a → VR K α H (.ref a) (.hnd k)
  | ref (a : Addr) : VR K α H (.ref a) (.ref a)
  | ty (n : String) : VR K α H (.ty n) (.ty n)
  | fn {x : Str} {f : Addr} : PySem.W.nsIn K mainGlobals x = some (some (.ref f)) → VR K α H (.ref f) (.fn x)
  | scr {a : Addr} {xs : List V} {ds : List D} : SqF K H a xs → xs.length ≤ sizeLine → VRs K α H xs ds → VR K α H (.ref a) (.scr ds)
inductive VRs (K : PySem.W.Frag) (α : Al) (H : Hp) : List V → List D → Prop where
  | nil : VRs K α H [] []
  | cons {v : V} {vs : List V} {d : D} {ds : List D} : VR K α H v d → VRs K α H vs ds → VRs K α H (v :: vs) (d :: ds)
end

def CellR (K : PySem.W.Frag) (α : Al) (H : Hp) (a : Addr) : Cell → Prop
  | .lst ds => ∃ xs, H a = some (.lst xs) ∧ xs.length ≤ sizeLine ∧ VRs K α H xs ds
  | .dct ks vs => (∃ kvs : List (Key × V), H a = some (.dK kvs) ∧ ks = kvs.map (fun p => kD p.1) ∧ VRs K α H (kvs.map (·.2)) vs) ∨
      (∃ kvs : List (List Key × V), H a = some (.dT kvs) ∧ ks = kvs.map (fun p => ktD p.1) ∧ VRs K α H (kvs.map (·.2)) vs)
/-- what a cell may be in the heap -/
def Kd (o : HO) : Prop := (∃ xs, o = .lst xs) ∨ (∃ kvs, o = .dK kvs) ∨ ∃ kvs, o = .dT kvs
structure CR (K : PySem.W.Frag) (α : Al) (H : Hp) (C : Cells) : Prop where
  len : α.cs.length = C.length
  nd : α.all.Nodup
  at_ : ∀ (k : Nat) (a : Addr) (c : Cell), α.cs[k]? = some a → C[k]? = some c → CellR K α H a c
  hid : ∀ a ∈ α.hs, ∃ o, H a = some o ∧ Kd o
/-- from (α, H) to (α', H'): new cells are new; all that was tracked, but for the cells, is as it was -/
structure ExtW (α : Al) (H : Hp) (α' : Al) (H' : Hp) : Prop where
  pre : ∃ β, α'.cs = α.cs ++ β ∧ ∀ a ∈ β, H a = none
  more : ∃ γ, α'.hs = γ ++ α.hs ∧ ∀ a ∈ γ, H a = none
  keep : ∀ b o, H b = some o → b ∉ α.all → H' b = some o
/-- .. what is hidden too -/
structure Ext (α : Al) (H : Hp) (α' : Al) (H' : Hp) : Prop extends ExtW α H α' H' where
  hs : α'.hs = α.hs
  hid : ∀ b ∈ α.hs, H' b = H b
theorem noMore {β : Type} {l : List β} {P : β → Prop} : ∃ γ, l = γ ++ l ∧ ∀ a ∈ γ, P a := ⟨[], rfl, fun _ h => nomatch h⟩

section
variable {K : PySem.W.Frag} {α α' α'' : Al} {H H' H'' : Hp} {C C' : Cells}
theorem Ext.refl (α : Al) (H : Hp) : Ext α H α H := ⟨⟨⟨[], (List.append_nil _).symm, fun _ h => nomatch h⟩, noMore, fun _ _ h _ => h⟩, rfl, fun _ _ => rfl⟩
theorem ExtW.notin (e : ExtW α H α' H') {b : Addr} {o : HO} (h : H b = some o) (n : b ∉ α.all) : b ∉ α'.all := by
  obtain ⟨β, eq, hb⟩ := e.pre
  obtain ⟨γ, eq2, hc⟩ := e.more
  intro hm
  rcases List.mem_append.mp hm with q | q
  · rw [eq] at q
    rcases List.mem_append.mp q with q | q
    · exact n (List.mem_append_left _ q)
    · rw [hb b q] at h; cases h
  · rw [eq2] at q
    rcases List.mem_append.mp q with q | q
    · rw [hc b q] at h; cases h
    · exact n (List.mem_append_right _ q)
theorem ExtW.sub (e : ExtW α H α' H') {a : Addr} (h : a ∈ α.all) : a ∈ α'.all := by
  obtain ⟨β, eq, hb⟩ := e.pre
  obtain ⟨γ, eq2, hc⟩ := e.more
  rcases List.mem_append.mp h with q | q
  · exact List.mem_append_left _ (by rw [eq]; exact List.mem_append_left _ q)
  · exact List.mem_append_right _ (by rw [eq2]; exact List.mem_append_right _ q)
theorem ExtW.trans (e : ExtW α H α' H') (c' : ∀ a ∈ α.all, ∃ o, H' a = some o) (f : ExtW α' H' α'' H'') : ExtW α H α'' H'' := by
  have back : ∀ a, H' a = none → H a = none := fun a z => by
    cases h : H a with
    | none => rfl
    | some o =>
      exfalso
      by_cases hm : a ∈ α.all
      · obtain ⟨o', z'⟩ := c' a hm
        rw [z'] at z; cases z
      · rw [e.keep a o h hm] at z; cases z
  refine ⟨?_, ?_, fun b o h n => f.keep b o (e.keep b o h n) (e.notin h n)⟩
  · obtain ⟨β, eq, hb⟩ := e.pre
    obtain ⟨γ, eq2, hc⟩ := f.pre
    refine ⟨β ++ γ, by rw [eq2, eq, List.append_assoc], fun a ha => ?_⟩
    rcases List.mem_append.mp ha with q | q
    · exact hb a q
    · exact back a (hc a q)
  · obtain ⟨β, eq, hb⟩ := e.more
    obtain ⟨γ, eq2, hc⟩ := f.more
    refine ⟨γ ++ β, by rw [eq2, eq, List.append_assoc], fun a ha => ?_⟩
    rcases List.mem_append.mp ha with q | q
    · exact back a (hc a q)
    · exact hb a q
theorem Ext.trans (e : Ext α H α' H') (c' : ∀ a ∈ α.all, ∃ o, H' a = some o) (f : Ext α' H' α'' H'') : Ext α H α'' H'' :=
  ⟨e.toExtW.trans c' f.toExtW, f.hs.trans e.hs, fun b hb => (f.hid b (by rw [e.hs]; exact hb)).trans (e.hid b hb)⟩
theorem CR.there (c : CR K α H C) : ∀ a ∈ α.all, ∃ o, H a = some o ∧ ((∃ xs, o = .lst xs) ∨ (∃ kvs, o = .dK kvs) ∨ ∃ kvs, o = .dT kvs) := fun a ha => by
  rcases List.mem_append.mp ha with ha | ha
  · obtain ⟨k, hk, rfl⟩ := List.mem_iff_getElem.mp ha
    have hk' : k < C.length := by rw [← c.len]; exact hk
    have q := c.at_ k α.cs[k] C[k] (by simp [hk]) (by simp [hk'])
    cases h : C[k] with
    | lst ds =>
      rw [h] at q
      obtain ⟨xs, e, _⟩ := q
      exact ⟨_, e, .inl ⟨xs, rfl⟩⟩
    | dct ks vs =>
      rw [h] at q
      rcases q with ⟨kvs, e, _⟩ | ⟨kvs, e, _⟩
      · exact ⟨_, e, .inr (.inl ⟨kvs, rfl⟩)⟩
      · exact ⟨_, e, .inr (.inr ⟨kvs, rfl⟩)⟩
  · obtain ⟨o, e, q⟩ := c.hid a ha
    exact ⟨o, e, q⟩
theorem CR.has (c : CR K α H C) : ∀ a ∈ α.all, ∃ o, H a = some o := fun a ha => let ⟨o, h, _⟩ := c.there a ha; ⟨o, h⟩
/-- an address whose object is no cell's kind is no cell -/
theorem CR.not (c : CR K α H C) {b : Addr} {o : HO} (h : H b = some o) (h1 : ∀ xs, o ≠ .lst xs) (h2 : ∀ kvs, o ≠ .dK kvs) (h3 : ∀ kvs, o ≠ .dT kvs) : b ∉ α.all := fun hm => by
  obtain ⟨o', e, q⟩ := c.there b hm
  rw [h] at e; cases e
  rcases q with ⟨xs, z⟩ | ⟨xs, z⟩ | ⟨xs, z⟩
  · exact h1 _ z
  · exact h2 _ z
  · exact h3 _ z
theorem Ext.trans' (e : Ext α H α' H') (c : CR K α H C) (c' : CR K α' H' C') (f : Ext α' H' α'' H'') : Ext α H α'' H'' :=
  e.trans (fun a ha => c'.has a (e.sub ha)) f

theorem rd_ext (c : CR K α H C) (e : ExtW α H α' H') {a : Addr} {u : HO} (h : Rd H a u) (n : a ∉ α.all) : Rd H' a u := by
  rcases h with h | ⟨o, h⟩
  · exact .inl (e.keep _ _ h n)
  · exact .inr ⟨o, e.keep _ _ h n⟩
theorem sqT_ext (c : CR K α H C) (e : ExtW α H α' H') {a : Addr} {xs : List V} (h : SqT K H a xs) : SqT K H' a xs := by
  rcases h with (h | ⟨o, h⟩) | h
  · exact .inl (.inl (e.keep _ _ h (c.not h (fun _ z => by cases z) (fun _ z => by cases z) (fun _ z => by cases z))))
  · exact .inl (.inr ⟨o, e.keep _ _ h (c.not h (fun _ z => by cases z) (fun _ z => by cases z) (fun _ z => by cases z))⟩)
  · exact .inr h
theorem sqF_ext (c : CR K α H C) (e : ExtW α H α' H') {a : Addr} {xs : List V} (h : SqF K H a xs) : SqF K H' a xs := by
  rcases h with ⟨o, h⟩ | h
  · exact .inl ⟨o, e.keep _ _ h (c.not h (fun _ z => by cases z) (fun _ z => by cases z) (fun _ z => by cases z))⟩
  · exact .inr h
theorem rd_notin (e : ExtW α H α' H') {a : Addr} {u : HO} (h : Rd H a u) (n : a ∉ α.all) : a ∉ α'.all := by
  rcases h with h | ⟨o, h⟩
  · exact e.notin h n
  · exact e.notin h n
mutual
theorem VR.extW (c : CR K α H C) (e : ExtW α H α' H') : ∀ {v : V} {d : D}, VR K α H v d → VR K α' H' v d
  | _, _, .non => .non
  | _, _, .bl b => .bl b
  | _, _, .int i => .int i
  | _, _, .str x => .str x
  | _, _, .tup h z r => .tup (e.keep _ _ h (c.not h (fun _ z => by cases z) (fun _ z => by cases z) (fun _ z => by cases z))) z (VRs.extW c e r)
  | _, _, .ktp h z r => .ktp (sqT_ext c e h) z (VRs.extW c e r)
  | _, _, .lst h n z r => .lst (e.keep _ _ h n) (e.notin h n) z (VRs.extW c e r)
  | _, _, .scr h z r => .scr (sqF_ext c e h) z (VRs.extW c e r)
  | _, _, .dctK h n z r => .dctK (e.keep _ _ h n) (e.notin h n) z (VRs.extW c e r)
  | _, _, .dctT h n z r => .dctT (e.keep _ _ h n) (e.notin h n) z (VRs.extW c e r)
  | _, _, .hnd h => .hnd (by
      obtain ⟨β, eq, _⟩ := e.pre
      rw [eq, List.getElem?_append_left (List.getElem?_eq_some_iff.mp h).1]
      exact h)
  | _, _, .ref a => .ref a
  | _, _, .fn h => .fn h
  | _, _, .ty n => .ty n
theorem VRs.extW (c : CR K α H C) (e : ExtW α H α' H') : ∀ {vs : List V} {ds : List D}, VRs K α H vs ds → VRs K α' H' vs ds
  | _, _, .nil => .nil
  | _, _, .cons h t => .cons (VR.extW c e h) (VRs.extW c e t)
end
theorem VR.ext (c : CR K α H C) (e : Ext α H α' H') {v : V} {d : D} (r : VR K α H v d) : VR K α' H' v d := VR.extW c e.toExtW r
theorem VRs.ext (c : CR K α H C) (e : Ext α H α' H') {v : List V} {d : List D} (r : VRs K α H v d) : VRs K α' H' v d := VRs.extW c e.toExtW r
theorem VRs.length : ∀ {vs : List V} {ds : List D}, VRs K α H vs ds → vs.length = ds.length
  | _, _, .nil => rfl
  | _, _, .cons _ t => by simp [VRs.length t]
theorem VRs.get : ∀ {vs : List V} {ds : List D}, VRs K α H vs ds → ∀ {i : Nat} {v : V}, vs[i]? = some v → ∃ d, ds[i]? = some d ∧ VR K α H v d
  | _, _, .nil, _, _, e => by simp at e
  | _, _, .cons h t, 0, _, e => by simp at e; subst e; exact ⟨_, rfl, h⟩
  | _, _, .cons h t, i + 1, v, e => by
    obtain ⟨d, h1, h2⟩ := VRs.get t (i := i) (v := v) (by simpa using e)
    exact ⟨d, by simpa using h1, h2⟩
theorem VRs.getD : ∀ {vs : List V} {ds : List D}, VRs K α H vs ds → ∀ {i : Nat} {d : D}, ds[i]? = some d → ∃ v, vs[i]? = some v ∧ VR K α H v d
  | _, _, .nil, _, _, e => by simp at e
  | _, _, .cons h t, 0, _, e => by simp at e; subst e; exact ⟨_, rfl, h⟩
  | _, _, .cons h t, i + 1, v, e => by
    obtain ⟨d, h1, h2⟩ := VRs.getD t (i := i) (d := v) (by simpa using e)
    exact ⟨d, by simpa using h1, h2⟩
theorem VRs.append : ∀ {vs ws : List V} {ds es : List D}, VRs K α H vs ds → VRs K α H ws es → VRs K α H (vs ++ ws) (ds ++ es)
  | _, _, _, _, .nil, s => s
  | _, _, _, _, .cons h t, s => .cons h (VRs.append t s)
theorem VRs.take : ∀ {vs : List V} {ds : List D} (n : Nat), VRs K α H vs ds → VRs K α H (vs.take n) (ds.take n)
  | _, _, 0, _ => .nil
  | _, _, _ + 1, .nil => .nil
  | _, _, n + 1, .cons h t => .cons h (VRs.take n t)
theorem VRs.drop : ∀ {vs : List V} {ds : List D} (n : Nat), VRs K α H vs ds → VRs K α H (vs.drop n) (ds.drop n)
  | _, _, 0, r => r
  | _, _, _ + 1, .nil => .nil
  | _, _, n + 1, .cons h t => VRs.drop n t
theorem VRs.set {v : V} {d : D} (r : VR K α H v d) : ∀ {vs : List V} {ds : List D} (n : Nat), VRs K α H vs ds → VRs K α H (vs.set n v) (ds.set n d)
  | _, _, _, .nil => .nil
  | _, _, 0, .cons _ t => .cons r t
  | _, _, n + 1, .cons h t => .cons h (VRs.set r n t)
theorem VRs.reverse : ∀ {vs : List V} {ds : List D}, VRs K α H vs ds → VRs K α H vs.reverse ds.reverse
  | _, _, .nil => .nil
  | _, _, .cons h t => by
    rw [List.reverse_cons, List.reverse_cons]
    exact (VRs.reverse t).append (.cons h .nil)
theorem VRs.ints : ∀ (ns : List Int), VRs K α H (ns.map V.int) (ns.map D.int)
  | [] => .nil
  | n :: r => .cons (.int n) (VRs.ints r)
/-- a new thing, no cell -/
theorem Ext.new (c : CR K α H C) {p : Addr} {o : HO} (h : H p = none) : Ext α H α (upd H p o) :=
  ⟨⟨⟨[], (List.append_nil _).symm, fun _ h => nomatch h⟩, noMore, fun b u e _ => by rw [upd_ne (ne_of_none e h)]; exact e⟩, rfl, fun b hb => by
    obtain ⟨o', e, _⟩ := c.hid b hb
    exact upd_ne (ne_of_none e h)⟩
theorem CR.notin_of_none (c : CR K α H C) {p : Addr} (h : H p = none) : p ∉ α.all := fun hm => by
  obtain ⟨o, e⟩ := c.has p hm
  rw [h] at e; cases e
theorem CellR.ext (c : CR K α H C) (e : ExtW α H α' H') {a : Addr} {cl : Cell} (r : CellR K α H a cl) (h : H' a = H a) : CellR K α' H' a cl := by
  cases cl with
  | lst ds =>
    obtain ⟨xs, h1, z, r⟩ := r
    exact ⟨xs, by rw [h]; exact h1, z, r.extW c e⟩
  | dct ks vs =>
    rcases r with ⟨kvs, h1, z, r⟩ | ⟨kvs, h1, z, r⟩
    · exact .inl ⟨kvs, by rw [h]; exact h1, z, r.extW c e⟩
    · exact .inr ⟨kvs, by rw [h]; exact h1, z, r.extW c e⟩
/-- .. the cells too -/
theorem CR.new (c : CR K α H C) {p : Addr} {o : HO} (h : H p = none) : CR K α (upd H p o) C :=
  ⟨c.len, c.nd, fun k a cl ha hc => (c.at_ k a cl ha hc).ext c (Ext.new c h).toExtW (by
    have n : a ≠ p := fun z => c.notin_of_none h (z ▸ List.mem_append_left _ (List.mem_of_getElem? ha))
    rw [upd_ne n]), fun a ha => by
    obtain ⟨o', e, q⟩ := c.hid a ha
    exact ⟨o', by rw [upd_ne (ne_of_none e h)]; exact e, q⟩⟩
/-- heaps that agree -/
theorem CR.same (c : CR K α H C) (e : Ext α H α H') (h : ∀ a ∈ α.all, H' a = H a) : CR K α H' C :=
  ⟨c.len, c.nd, fun k a cl ha hc => (c.at_ k a cl ha hc).ext c e.toExtW (h a (List.mem_append_left _ (List.mem_of_getElem? ha))), fun a ha => by rw [h a (List.mem_append_right _ ha)]; exact c.hid a ha⟩
/-- a new cell -/
theorem Ext.newCell (c : CR K α H C) {p : Addr} {o : HO} (h : H p = none) : Ext α H (α.push p) (upd H p o) :=
  ⟨⟨⟨[p], rfl, fun a ha => by rw [List.mem_singleton.mp ha]; exact h⟩, noMore, fun b u e _ => by rw [upd_ne (ne_of_none e h)]; exact e⟩, rfl, fun b hb => by
    obtain ⟨o', e, _⟩ := c.hid b hb
    exact upd_ne (ne_of_none e h)⟩
theorem CR.newCell (c : CR K α H C) {p : Addr} {o : HO} {cl : Cell} (h : H p = none) (r : CellR K (α.push p) (upd H p o) p cl) : CR K (α.push p) (upd H p o) (C ++ [cl]) := by
  have np := c.notin_of_none h
  refine ⟨by simp [c.len], ?_, fun k a cl' ha hc => ?_, fun a ha => ?_⟩
  · have q : (α.push p).all = α.cs ++ (p :: α.hs) := List.append_assoc α.cs [p] α.hs
    rw [q, List.nodup_append]
    have nd := List.nodup_append.mp c.nd
    refine ⟨nd.1, List.nodup_cons.mpr ⟨fun z => np (List.mem_append_right _ z), nd.2.1⟩, fun a ha b hb => ?_⟩
    rcases List.mem_cons.mp hb with z | z
    · rw [z]; exact fun z => np (z ▸ List.mem_append_left _ ha)
    · exact nd.2.2 a ha b z
  · by_cases hk : k < α.cs.length
    · have ha : α.cs[k]? = Option.some a := by rw [← ha]; exact (List.getElem?_append_left hk).symm
      rw [List.getElem?_append_left (by rw [← c.len]; exact hk)] at hc
      refine (c.at_ k a cl' ha hc).ext c (Ext.newCell c h).toExtW ?_
      have n : a ≠ p := fun z => np (z ▸ List.mem_append_left _ (List.mem_of_getElem? ha))
      rw [upd_ne n]
    · have hk2 : k < (α.cs ++ [p]).length := (List.getElem?_eq_some_iff.mp ha).1
      have e : k = α.cs.length := by simp at hk2; omega
      subst e
      have e1 : a = p := by simpa using ha.symm
      have e2 : cl' = cl := by
        have z : (C ++ [cl])[C.length]? = Option.some cl := by simp
        rw [c.len] at hc
        rw [hc] at z
        exact Option.some.inj z
      subst e1 e2
      exact r
  · obtain ⟨o', e, q⟩ := c.hid a ha
    exact ⟨o', by rw [upd_ne (ne_of_none e h)]; exact e, q⟩
/-- a cell is written -/
theorem Ext.write (c : CR K α H C) {k : Nat} {p : Addr} {o : HO} (hp : α.cs[k]? = some p) : Ext α H α (upd H p o) :=
  ⟨⟨⟨[], (List.append_nil _).symm, fun _ h => nomatch h⟩, noMore, fun b u e n => by
    have q : b ≠ p := fun z => n (z ▸ List.mem_append_left _ (List.mem_of_getElem? hp))
    rw [upd_ne q]; exact e⟩, rfl, fun b hb => upd_ne fun z => (List.nodup_append.mp c.nd).2.2 p (List.mem_of_getElem? hp) b hb z.symm⟩
theorem CR.write (c : CR K α H C) {k : Nat} {p : Addr} {o : HO} {cl : Cell} (hp : α.cs[k]? = some p) (r : CellR K α (upd H p o) p cl) : CR K α (upd H p o) (C.set k cl) := by
  refine ⟨by simp [c.len], c.nd, fun j a cl' ha hc => ?_, fun a ha => ?_⟩
  · by_cases hj : j = k
    · subst hj
      rw [hp] at ha; cases ha
      have hl : j < C.length := by rw [← c.len]; exact (List.getElem?_eq_some_iff.mp hp).1
      rw [List.getElem?_set_self hl] at hc; cases hc
      exact r
    · rw [List.getElem?_set_ne (Ne.symm hj)] at hc
      refine (c.at_ j a cl' ha hc).ext c (Ext.write c hp).toExtW ?_
      have n : a ≠ p := fun z => by
        subst z
        obtain ⟨h1, e1⟩ := List.getElem?_eq_some_iff.mp ha
        obtain ⟨h2, e2⟩ := List.getElem?_eq_some_iff.mp hp
        exact hj ((List.getElem_inj (List.nodup_append.mp c.nd).1).mp (e1.trans e2.symm))
      rw [upd_ne n]
  · have n : a ≠ p := fun z => (List.nodup_append.mp c.nd).2.2 p (List.mem_of_getElem? hp) a ha z.symm
    rw [upd_ne n]
    exact c.hid a ha

/-! ### hiding -/
mutual
theorem VR.sub {αs : Al} (hc : αs.cs = α.cs) (hh : ∀ a, a ∈ αs.hs → a ∈ α.hs) : ∀ {v : V} {d : D}, VR K α H v d → VR K αs H v d
  | _, _, .non => .non
  | _, _, .bl b => .bl b
  | _, _, .int i => .int i
  | _, _, .str x => .str x
  | _, _, .tup h z r => .tup h z (VRs.sub hc hh r)
  | _, _, .ktp h z r => .ktp h z (VRs.sub hc hh r)
  | _, _, .lst h n z r => .lst h (fun m => n ((List.mem_append.mp m).elim (fun q => List.mem_append_left _ (by rw [← hc]; exact q)) fun q => List.mem_append_right _ (hh _ q))) z (VRs.sub hc hh r)
  | _, _, .dctK h n z r => .dctK h (fun m => n ((List.mem_append.mp m).elim (fun q => List.mem_append_left _ (by rw [← hc]; exact q)) fun q => List.mem_append_right _ (hh _ q))) z (VRs.sub hc hh r)
  | _, _, .dctT h n z r => .dctT h (fun m => n ((List.mem_append.mp m).elim (fun q => List.mem_append_left _ (by rw [← hc]; exact q)) fun q => List.mem_append_right _ (hh _ q))) z (VRs.sub hc hh r)
  | _, _, .hnd h => .hnd (by rw [hc]; exact h)
  | _, _, .ref a => .ref a
  | _, _, .fn h => .fn h
  | _, _, .ty n => .ty n
  | _, _, .scr h z r => .scr h z (VRs.sub hc hh r)
theorem VRs.sub {αs : Al} (hc : αs.cs = α.cs) (hh : ∀ a, a ∈ αs.hs → a ∈ α.hs) : ∀ {vs : List V} {ds : List D}, VRs K α H vs ds → VRs K αs H vs ds
  | _, _, .nil => .nil
  | _, _, .cons h t => .cons (VR.sub hc hh h) (VRs.sub hc hh t)
end
theorem CellR.sub {αs : Al} (hc : αs.cs = α.cs) (hh : ∀ a, a ∈ αs.hs → a ∈ α.hs) {a : Addr} {cl : Cell} (r : CellR K α H a cl) : CellR K αs H a cl := by
  cases cl with
  | lst ds =>
    obtain ⟨xs, h1, z, r⟩ := r
    exact ⟨xs, h1, z, r.sub hc hh⟩
  | dct ks vs =>
    rcases r with ⟨kvs, h1, z, r⟩ | ⟨kvs, h1, z, r⟩
    · exact .inl ⟨kvs, h1, z, r.sub hc hh⟩
    · exact .inr ⟨kvs, h1, z, r.sub hc hh⟩
/-- what is hidden is told again -/
theorem CR.shown {p : Addr} (c : CR K (α.hide p) H C) : CR K α H C := by
  refine ⟨c.len, ?_, fun k a cl ha hc => CellR.sub (α := α.hide p) (αs := α) rfl (fun _ h => List.mem_cons_of_mem p h) (c.at_ k a cl ha hc), fun a ha => c.hid a (List.mem_cons_of_mem _ ha)⟩
  have nd := List.nodup_append.mp c.nd
  exact List.nodup_append.mpr ⟨nd.1, (List.nodup_cons.mp nd.2.1).2, fun a ha b hb => nd.2.2 a ha b (List.mem_cons_of_mem _ hb)⟩
theorem CR.shown_not {p : Addr} (c : CR K (α.hide p) H C) : p ∉ α.all := by
  have nd := List.nodup_append.mp c.nd
  intro hm
  rcases List.mem_append.mp hm with q | q
  · exact nd.2.2 p q p List.mem_cons_self rfl
  · exact (List.nodup_cons.mp nd.2.1).1 q
mutual
theorem VR.hidden {p : Addr} (h0 : H p = none) {o : HO} : ∀ {v : V} {d : D}, VR K α H v d → VR K (α.hide p) (upd H p o) v d
  | _, _, .non => .non
  | _, _, .bl b => .bl b
  | _, _, .int i => .int i
  | _, _, .str x => .str x
  | _, _, .tup h z r => .tup (by rw [upd_ne (ne_of_none h h0)]; exact h) z (VRs.hidden h0 r)
  | _, _, .ktp h z r => .ktp (by
      rcases h with (h | ⟨o', h⟩) | h
      · exact .inl (.inl (by rw [upd_ne (ne_of_none h h0)]; exact h))
      · exact .inl (.inr ⟨o', by rw [upd_ne (ne_of_none h h0)]; exact h⟩)
      · exact .inr h) z (VRs.hidden h0 r)
  | _, _, .lst h n z r => .lst (by rw [upd_ne (ne_of_none h h0)]; exact h) (fun m => (List.mem_append.mp m).elim (fun q => n (List.mem_append_left _ q)) fun q => (List.mem_cons.mp q).elim (fun e => ne_of_none h h0 e) fun q => n (List.mem_append_right _ q)) z (VRs.hidden h0 r)
  | _, _, .dctK h n z r => .dctK (by rw [upd_ne (ne_of_none h h0)]; exact h) (fun m => (List.mem_append.mp m).elim (fun q => n (List.mem_append_left _ q)) fun q => (List.mem_cons.mp q).elim (fun e => ne_of_none h h0 e) fun q => n (List.mem_append_right _ q)) z (VRs.hidden h0 r)
  | _, _, .dctT h n z r => .dctT (by rw [upd_ne (ne_of_none h h0)]; exact h) (fun m => (List.mem_append.mp m).elim (fun q => n (List.mem_append_left _ q)) fun q => (List.mem_cons.mp q).elim (fun e => ne_of_none h h0 e) fun q => n (List.mem_append_right _ q)) z (VRs.hidden h0 r)
  | _, _, .hnd h => .hnd h
  | _, _, .ref a => .ref a
  | _, _, .fn h => .fn h
  | _, _, .ty n => .ty n
  | _, _, .scr h z r => .scr (by
      rcases h with ⟨o', h⟩ | h
      · exact .inl ⟨o', by rw [upd_ne (ne_of_none h h0)]; exact h⟩
      · exact .inr h) z (VRs.hidden h0 r)
theorem VRs.hidden {p : Addr} (h0 : H p = none) {o : HO} : ∀ {vs : List V} {ds : List D}, VRs K α H vs ds → VRs K (α.hide p) (upd H p o) vs ds
  | _, _, .nil => .nil
  | _, _, .cons h t => .cons (VR.hidden h0 h) (VRs.hidden h0 t)
end
theorem CellR.hidden {p : Addr} (h0 : H p = none) {o : HO} {a : Addr} {cl : Cell} (r : CellR K α H a cl) : CellR K (α.hide p) (upd H p o) a cl := by
  cases cl with
  | lst ds =>
    obtain ⟨xs, h1, z, r⟩ := r
    exact ⟨xs, by rw [upd_ne (ne_of_none h1 h0)]; exact h1, z, r.hidden h0⟩
  | dct ks vs =>
    rcases r with ⟨kvs, h1, z, r⟩ | ⟨kvs, h1, z, r⟩
    · exact .inl ⟨kvs, by rw [upd_ne (ne_of_none h1 h0)]; exact h1, z, r.hidden h0⟩
    · exact .inr ⟨kvs, by rw [upd_ne (ne_of_none h1 h0)]; exact h1, z, r.hidden h0⟩
theorem CR.hidden {p : Addr} (c : CR K α H C) (h0 : H p = none) {o : HO} (ko : Kd o) : CR K (α.hide p) (upd H p o) C := by
  have np := c.notin_of_none h0
  have nd := List.nodup_append.mp c.nd
  refine ⟨c.len, List.nodup_append.mpr ⟨nd.1, List.nodup_cons.mpr ⟨fun z => np (List.mem_append_right _ z), nd.2.1⟩, fun a ha b hb => ?_⟩, fun k a cl ha hc => (c.at_ k a cl ha hc).hidden h0, fun a ha => ?_⟩
  · rcases List.mem_cons.mp hb with z | z
    · rw [z]; exact fun z => np (z ▸ List.mem_append_left _ ha)
    · exact nd.2.2 a ha b z
  · rcases List.mem_cons.mp ha with z | z
    · exact ⟨o, by rw [z]; exact upd_same, ko⟩
    · obtain ⟨o', e, q⟩ := c.hid a z
      exact ⟨o', by rw [upd_ne (ne_of_none e h0)]; exact e, q⟩
/-- the hidden list grows -/
theorem ExtW.grow {p : Addr} {o : HO} (hp : p ∈ α.hs) : ExtW α H α (upd H p o) :=
  ⟨⟨[], (List.append_nil _).symm, fun _ h => nomatch h⟩, noMore, fun b u e n => by
    have q : b ≠ p := fun z => n (z ▸ List.mem_append_right _ hp)
    rw [upd_ne q]; exact e⟩
theorem CR.grow {p : Addr} {o : HO} (c : CR K α H C) (hp : p ∈ α.hs) (ko : Kd o) : CR K α (upd H p o) C := by
  have nd := List.nodup_append.mp c.nd
  refine ⟨c.len, c.nd, fun k a cl ha hc => (c.at_ k a cl ha hc).ext c (ExtW.grow hp) ?_, fun a ha => ?_⟩
  · have q : a ≠ p := nd.2.2 a (List.mem_of_getElem? ha) p hp
    rw [upd_ne q]
  · by_cases q : a = p
    · exact ⟨o, by rw [q]; exact upd_same, ko⟩
    · rw [upd_ne q]
      exact c.hid a ha
/-- what was not there may change -/
theorem ExtW.mut (e : ExtW α H α' H') {p : Addr} {o : HO} (h : H p = none) : ExtW α H α' (upd H' p o) :=
  ⟨e.pre, e.more, fun b u q n => by rw [upd_ne (ne_of_none q h)]; exact e.keep b u q n⟩
theorem ExtW.hide {p : Addr} {o : HO} (h : H p = none) : ExtW α H (α.hide p) (upd H p o) :=
  ⟨⟨[], (List.append_nil _).symm, fun _ h => nomatch h⟩, ⟨[p], rfl, fun a ha => by rw [List.mem_singleton.mp ha]; exact h⟩, fun b u e _ => by rw [upd_ne (ne_of_none e h)]; exact e⟩
end

/-! ### outcomes -/
inductive Out (α : Type) where
  | ok (a : α)
  | err (e : Er) (C : Cells)
  | bad
abbrev Mo (α : Type) := Cells → Out (α × Cells)
def ret {α : Type} (a : α) : Mo α := fun C => .ok (a, C)
def bad {α : Type} : Mo α := fun _ => .bad
def bnd {α β : Type} (m : Mo α) (k : α → Mo β) : Mo β := fun C => match m C with
  | .ok (a, C') => k a C'
  | .err e C' => .err e C'
  | .bad => .bad

def ErrR (K : PySem.W.Frag) (mg : Str → Option Value) (α : Al) (H : Hp) (er : Er) (cls : Value) (d : Option Addr) : Prop :=
  (mg er.c = some cls ∨ (mg er.c = none ∧ bootBuiltins er.c = some cls)) ∧
    ((er.fs = [] ∧ d = none) ∨ ∃ dd fs, d = some dd ∧ H dd = some (.xd fs) ∧ fs.map (·.1) = er.fs.map (·.1) ∧ VRs K α H (fs.map (·.2)) (er.fs.map (·.2)))

/-- what is wanted of an outcome -/
def WpO {β : Type} (K : PySem.W.Frag) (mg : Str → Option Value) (α : Al) (H : Hp) (Q : Al → Hp → Cells → β → Prop) (E : XK) : Out (β × Cells) → Prop
  | .ok (x, C') => ∀ α' H', Ext α H α' H' → CR K α' H' C' → Q α' H' C' x
  | .err er C' => ∀ cls d α' H', Ext α H α' H' → CR K α' H' C' → ErrR K mg α' H' er cls d → E cls d H'
  | .bad => False

section
variable {K : PySem.W.Frag} {mg : Str → Option Value} {α α' : Al} {H H' : Hp} {C C' : Cells} {β γ : Type} {Q : Al → Hp → Cells → β → Prop} {E : XK}
theorem WpO.start {o : Out (β × Cells)} (c : CR K α H C) (c' : CR K α' H' C') (e : Ext α H α' H') (h : WpO K mg α H Q E o) : WpO K mg α' H' Q E o := by
  match o, h with
  | .ok (x, _), h => exact fun α2 H2 e2 c2 => h α2 H2 (e.trans' c c' e2) c2
  | .err er _, h => exact fun cls d α2 H2 e2 c2 r => h cls d α2 H2 (e.trans' c c' e2) c2 r
/-- a bind: the first, then the second where it stands -/
theorem WpO.bnd {m : Mo γ} {k : γ → Mo β} (c : CR K α H C) (h : WpO K mg α H Q E (bnd m k C)) : WpO K mg α H (fun α' H' C' x => WpO K mg α' H' Q E (k x C')) E (m C) := by
  unfold DL.bnd at h
  cases hm : m C with
  | ok p =>
    obtain ⟨x, C1⟩ := p
    rw [hm] at h
    exact fun α1 H1 e1 c1 => WpO.start c c1 e1 h
  | err er C1 =>
    rw [hm] at h
    exact h
  | bad =>
    rw [hm] at h
    exact h
theorem WpO.ret {x : β} (c : CR K α H C) (h : WpO K mg α H Q E (ret x C)) : Q α H C x := h α H (Ext.refl α H) c
theorem WpO.mono {Q' : Al → Hp → Cells → β → Prop} {o : Out (β × Cells)} (h : WpO K mg α H Q E o) (hq : ∀ α' H' C' x, Ext α H α' H' → CR K α' H' C' → Q α' H' C' x → Q' α' H' C' x) : WpO K mg α H Q' E o := by
  match o, h with
  | .ok (x, _), h => exact fun α2 H2 e2 c2 => hq _ _ _ _ e2 c2 (h α2 H2 e2 c2)
  | .err er _, h => exact h
end
end DL

/-! DL2: expressions as functions of the slots' data (EX), the judgements DE, DA, DT; operators and calls by data. -/
namespace DL
open PySem L2

abbrev Ro := List (Option D)
abbrev EX := Ro → Mo D
abbrev AX := Ro → Mo (List D)
abbrev BX := Ro → Mo Bool
structure SR (K : PySem.W.Frag) (α : Al) (σ : St) (H : Hp) (ρ : Ro) : Prop where
  len : σ.length = ρ.length
  at_ : ∀ (i : Nat) (x : D), ρ[i]? = some (some x) → ∃ v, σ[i]? = some (some v) ∧ VR K α H v x
theorem SR.ext {K : PySem.W.Frag} {α α' : Al} {σ : St} {H H' : Hp} {ρ : Ro} {C : Cells} (r : SR K α σ H ρ) (c : CR K α H C) (e : Ext α H α' H') : SR K α' σ H' ρ :=
  ⟨r.len, fun i x h => let ⟨v, h1, h2⟩ := r.at_ i x h; ⟨v, h1, h2.ext c e⟩⟩
theorem SR.set {K : PySem.W.Frag} {α : Al} {σ : St} {H : Hp} {ρ : Ro} (r : SR K α σ H ρ) {i : Nat} {v : V} {x : D} (h : VR K α H v x) : SR K α (σ.set i (some v)) H (ρ.set i (some x)) := by
  refine ⟨by simp [r.len], fun j y e => ?_⟩
  by_cases hj : j = i
  · subst hj
    by_cases hl : j < ρ.length
    · rw [List.getElem?_set_self hl] at e
      cases e
      exact ⟨v, by rw [List.getElem?_set_self (by rw [r.len]; exact hl)], h⟩
    · rw [List.getElem?_eq_none (by simpa using hl)] at e
      cases e
  · rw [List.getElem?_set_ne (Ne.symm hj)] at e
    obtain ⟨w, h1, h2⟩ := r.at_ j y e
    exact ⟨w, by rw [List.getElem?_set_ne (Ne.symm hj)]; exact h1, h2⟩
theorem SR.unset {K : PySem.W.Frag} {α : Al} {σ : St} {H : Hp} {ρ : Ro} (r : SR K α σ H ρ) (i : Nat) (o : Option V) : SR K α (σ.set i o) H (ρ.set i none) := by
  refine ⟨by simp [r.len], fun j y e => ?_⟩
  by_cases hj : j = i
  · subst hj
    by_cases hl : j < ρ.length
    · rw [List.getElem?_set_self hl] at e
      cases e
    · rw [List.getElem?_eq_none (by simpa using hl)] at e
      cases e
  · rw [List.getElem?_set_ne (Ne.symm hj)] at e
    obtain ⟨w, h1, h2⟩ := r.at_ j y e
    exact ⟨w, by rw [List.getElem?_set_ne (Ne.symm hj)]; exact h1, h2⟩

/-! ### readings by data -/
def tD (X : Cx) (W : WX) (f : EX) : TE := fun σ H Q => ∃ α C ρ, CR X.K α H C ∧ SR X.K α σ H ρ ∧
  WpO X.K X.mg α H (fun α' H' _ x => ∀ v, VR X.K α' H' v x → Q v H') (fun c d H' => W c d σ H') (f ρ C)
def tDA (X : Cx) (W : WX) (f : AX) : TA := fun σ H Q => ∃ α C ρ, CR X.K α H C ∧ SR X.K α σ H ρ ∧
  WpO X.K X.mg α H (fun α' H' _ x => ∀ v, VRs X.K α' H' v x → Q v H') (fun c d H' => W c d σ H') (f ρ C)
def tDT (X : Cx) (W : WX) (f : BX) : TT := fun σ H Q => ∃ α C ρ, CR X.K α H C ∧ SR X.K α σ H ρ ∧
  WpO X.K X.mg α H (fun α' H' _ x => Q x H') (fun c d H' => W c d σ H') (f ρ C)
abbrev DE (X : Cx) (W : WX) (e : Expr) (f : EX) : Prop := PE X e (tD X W f)
abbrev DA (X : Cx) (W : WX) (e : List Expr) (f : AX) : Prop := PA X e (tDA X W f)
abbrev DT (X : Cx) (W : WX) (e : Expr) (f : BX) : Prop := PT X e (tDT X W f)
abbrev DW (X : Cx) (W : WX) (e : Expr) (f : BX) : Prop := PW X e (tDT X W f)

section
variable {X : Cx}
theorem peImp {e : Expr} {t t' : TE} (h : PE X e t) (i : ∀ σ H Q, t' σ H Q → t σ H Q) : PE X e t' := ⟨fun pins s σ H Q I q => h.run pins s σ H Q I (i σ H Q q)⟩
theorem paImp {e : List Expr} {t t' : TA} (h : PA X e t) (i : ∀ σ H Q, t' σ H Q → t σ H Q) : PA X e t' := ⟨fun pos pins s σ H Q I q => h.run pos pins s σ H Q I (i σ H Q q)⟩
theorem ptImp {e : Expr} {t t' : TT} (h : PT X e t) (i : ∀ σ H Q, t' σ H Q → t σ H Q) : PT X e t' := ⟨fun pins s σ H Q I q => h.run pins s σ H Q I (i σ H Q q)⟩
theorem pwImp {e : Expr} {t t' : TT} (h : PW X e t) (i : ∀ σ H Q, t' σ H Q → t σ H Q) : PW X e t' := ⟨fun wh pins s σ H Q I q => h.run wh pins s σ H Q I (i σ H Q q)⟩
theorem opImp {f : Value → Value → Sem Value} {r r' : R2} (h : OpR X f r) (i : ∀ x y H Q, r' x y H Q → r x y H Q) : OpR X f r' := fun pins s σ H x y v u Q I rx ry q => h pins s σ H x y v u Q I rx ry (i _ _ _ _ q)
theorem ixImp {r r' : R2} (h : IxR X r) (i : ∀ x y H Q, r' x y H Q → r x y H Q) : IxR X r' := fun ve sl pins s σ H x y v u Q I rx ry q => h ve sl pins s σ H x y v u Q I rx ry (i _ _ _ _ q)
theorem callImp {f : Value} {r r' : List V → Hp → VK → Prop} (h : CallR X f r) (i : ∀ xs H Q, r' xs H Q → r xs H Q) : CallR X f r' := fun pins s σ H xs us Q I r q => h pins s σ H xs us Q I r (i _ _ _ q)
theorem unImp {f : Value → Sem Value} {r r' : V → Hp → VK → Prop} (h : UnR X f r) (i : ∀ x H Q, r' x H Q → r x H Q) : UnR X f r' := fun pins s σ H x v Q I rx q => h pins s σ H x v Q I rx (i _ _ _ q)

/-! ### pure operations -/
def lft {α : Type} (o : Cells → Option α) : Mo α := fun C => match o C with
  | some z => .ok (z, C)
  | none => .bad
abbrev Op1 := Cells → D → Option D
abbrev Op2 := Cells → D → D → Option D
abbrev OpN := Cells → List D → Option D
/-- what is asked where the data answer is z: whatever stands for z will do -/
def Ans (K : PySem.W.Frag) (α : Al) (H : Hp) (C : Cells) (Q : VK) (z : D) : Prop := ∀ α' H', Ext α H α' H' → CR K α' H' C → ∀ v, VR K α' H' v z → Q v H'
theorem Ans.here {K : PySem.W.Frag} {α : Al} {H : Hp} {C : Cells} {Q : VK} {z : D} (h : Ans K α H C Q z) (c : CR K α H C) {v : V} (r : VR K α H v z) : Q v H := h α H (Ext.refl α H) c v r
/-- a new object -/
theorem Ans.new {K : PySem.W.Frag} {α : Al} {H : Hp} {C : Cells} {Q : VK} {z : D} (h : Ans K α H C Q z) (c : CR K α H C) {p : Addr} {o : HO} (hp : H p = none) (r : VR K α (upd H p o) (.ref p) z) : Q (.ref p) (upd H p o) :=
  h α (upd H p o) (Ext.new c hp) (c.new hp) (.ref p) r
def rD1 (K : PySem.W.Frag) (op : Op1) : V → Hp → VK → Prop := fun x H Q => ∃ α C dx dz, CR K α H C ∧ VR K α H x dx ∧ op C dx = some dz ∧ Ans K α H C Q dz
def rD2 (K : PySem.W.Frag) (op : Op2) : R2 := fun x y H Q => ∃ α C dx dy dz, CR K α H C ∧ VR K α H x dx ∧ VR K α H y dy ∧ op C dx dy = some dz ∧ Ans K α H C Q dz
def rDN (K : PySem.W.Frag) (op : OpN) : List V → Hp → VK → Prop := fun xs H Q => ∃ α C ds dz, CR K α H C ∧ VRs K α H xs ds ∧ op C ds = some dz ∧ Ans K α H C Q dz
def x1 (op : Op1) (f : EX) : EX := fun ρ => bnd (f ρ) fun x => lft fun C => op C x
def x2 (op : Op2) (f g : EX) : EX := fun ρ => bnd (f ρ) fun x => bnd (g ρ) fun y => lft fun C => op C x y
def xN (op : OpN) (f : AX) : EX := fun ρ => bnd (f ρ) fun xs => lft fun C => op C xs
variable {W : WX} {a b c e : Expr} {es : List Expr} {f g k : EX} {fa : AX} {pos : Pos} {σ : St} {H : Hp} {Q : VK}
theorem WpO.lft {K : PySem.W.Frag} {mg : Str → Option Value} {α : Al} {H : Hp} {C : Cells} {β : Type} {Q : Al → Hp → Cells → β → Prop} {E : XK} {o : Cells → Option β} (h : WpO K mg α H Q E (lft o C)) :
    ∃ z, o C = some z ∧ ∀ α' H', Ext α H α' H' → CR K α' H' C → Q α' H' C z := by
  unfold DL.lft at h
  cases e : o C with
  | none => rw [e] at h; exact h.elim
  | some z => rw [e] at h; exact ⟨z, rfl, h⟩
theorem tD_x1 {op : Op1} (h : tD X W (x1 op f) σ H Q) : tD X W f σ H fun x H1 => rD1 X.K op x H1 Q := by
  obtain ⟨α, C, ρ, c, r, h⟩ := h
  refine ⟨α, C, ρ, c, r, (WpO.bnd c h).mono fun α1 H1 C1 x e1 c1 h1 v rv => ?_⟩
  obtain ⟨z, hz, q⟩ := h1.lft
  exact ⟨α1, C1, x, z, c1, rv, hz, q⟩
theorem tD_x2 {op : Op2} (h : tD X W (x2 op f g) σ H Q) : tD X W f σ H fun x H1 => tD X W g σ H1 fun y H2 => rD2 X.K op x y H2 Q := by
  obtain ⟨α, C, ρ, c, r, h⟩ := h
  refine ⟨α, C, ρ, c, r, (WpO.bnd c h).mono fun α1 H1 C1 x e1 c1 h1 v rv => ?_⟩
  refine ⟨α1, C1, ρ, c1, r.ext c e1, (WpO.bnd c1 h1).mono fun α2 H2 C2 y e2 c2 h2 w rw => ?_⟩
  obtain ⟨z, hz, q⟩ := h2.lft
  exact ⟨α2, C2, x, y, z, c2, rv.ext c1 e2, rw, hz, q⟩
theorem tD_xN {op : OpN} (h : tD X W (xN op fa) σ H Q) : tDA X W fa σ H fun xs H1 => rDN X.K op xs H1 Q := by
  obtain ⟨α, C, ρ, c, r, h⟩ := h
  refine ⟨α, C, ρ, c, r, (WpO.bnd c h).mono fun α1 H1 C1 x e1 c1 h1 v rv => ?_⟩
  obtain ⟨z, hz, q⟩ := h1.lft
  exact ⟨α1, C1, x, z, c1, rv, hz, q⟩
theorem de_bin {op : Operator} {o : Op2} (ho : OpR X (binaryOp op) (rD2 X.K o)) (ha : DE X W a f) (hb : DE X W b g) : DE X W (.BinOp a op b pos) (x2 o f g) := peImp (pe_op ho ha hb) fun σ H Q h => tD_x2 h
theorem de_un {op : UnaryOp} {o : Op1} (ho : UnR X (unaryOp op) (rD1 X.K o)) (ha : DE X W a f) : DE X W (.UnaryOp op a pos) (x1 o f) := peImp (pe_un ho ha) fun σ H Q h => tD_x1 h
theorem de_cmp {op : CmpOp} {o : Op2} (ho : OpR X (compareOp op) (rD2 X.K o)) (ha : DE X W a f) (hb : DE X W b g) (hm : behindInMarks op b = false := by first | exact nomark _ | rfl) : DE X W (.Compare a [op] [b] pos) (x2 o f g) :=
  peImp (pe_cmpR ho ha hb hm) fun σ H Q h => tD_x2 h
theorem de_ix {o : Op2} (ho : IxR X (rD2 X.K o)) (ha : DE X W a f) (hb : DE X W b g) (hs : PlainIx b := by exact fun _ _ => rfl) : DE X W (.Subscript a b pos) (x2 o f g) := peImp (pe_ix ho ha hb hs) fun σ H Q h => tD_x2 h
/-- a built-in called by its name -/
theorem de_blt {x : Str} {id : String} {o : OpN} {p : Pos} (hc : CallR X (.builtin id) (rDN X.K o)) (hg : Gl X x) (hm : X.mg x = none) (hv : bootBuiltins x = some (.builtin id)) (ha : DA X W (e :: es) fa)
    (hn : x ≠ ("__name__" : Str) := by decide) (hdb : (x == ("__debug__" : Str)) = false := by decide) (he : starEach (e :: es) X.env = (false, eval e X.env) :: starEach es X.env := by rfl) (hpl : (backTo pos (starEach es X.env)).any (·.1) = false := by rfl) : DE X W (.Call (.Name x p) (e :: es) [] pos) (xN o fa) :=
  peImp (pe_callB hc hg hm hv ha hn hdb he hpl) fun σ H Q h => tD_xN h
theorem de_bty {x : Str} {T : String} {o : OpN} {p : Pos} (hc : CallR X (.type T) (rDN X.K o)) (hg : Gl X x) (hm : X.mg x = none) (hv : bootBuiltins x = some (.type T)) (ha : DA X W (e :: es) fa)
    (hn : x ≠ ("__name__" : Str) := by decide) (hdb : (x == ("__debug__" : Str)) = false := by decide) (he : starEach (e :: es) X.env = (false, eval e X.env) :: starEach es X.env := by rfl) (hpl : (backTo pos (starEach es X.env)).any (·.1) = false := by rfl) : DE X W (.Call (.Name x p) (e :: es) [] pos) (xN o fa) :=
  peImp (pe_callTy hc hg hm hv ha hn hdb he hpl) fun σ H Q h => tD_xN h

/-! ### names, constants, arguments -/
def xV (i : Nat) : EX := fun ρ => lft fun _ => ρ.getD i none
def xC (d : D) : EX := fun _ => ret d
theorem tD_C {d : D} (h : tD X W (xC d) σ H Q) {v : V} (r : ∀ α H, VR X.K α H v d) : Q v H := by
  obtain ⟨α, C, ρ, c, _, h⟩ := h
  exact WpO.ret c h v (r α H)
theorem de_var {i : Nat} {x : Str} (hN : X.N[i]? = some x := by rfl) (hv : Vis X.env.scope x := by first | exact Or.inl rfl | exact Or.inr (Or.inl rfl) | exact Or.inr (Or.inr rfl)) (hd : (x == ("__debug__" : Str)) = false := by decide)
    (hcd : (x == ("__classdict__" : Str)) = false := by decide) : DE X W (.Name x pos) (xV i) := peImp (pe_var hN hv hd hcd) fun σ H Q h => by
  obtain ⟨α, C, ρ, c, r, h⟩ := h
  obtain ⟨z, hz, q⟩ := WpO.lft h
  have e : ρ[i]? = some (some z) := by
    rw [List.getD_eq_getElem?_getD] at hz
    cases h1 : ρ[i]? with
    | none => rw [h1] at hz; cases hz
    | some y => rw [h1] at hz; rw [show y = some z from hz]
  obtain ⟨v, h1, h2⟩ := r.at_ i z e
  exact ⟨v, h1, q α H (Ext.refl α H) c v h2⟩
theorem de_int {i : Int} {j : Nat} : DE X W (.Constant (.int i) j pos) (xC (.int i)) := peImp pe_int fun σ H Q h => tD_C h fun _ _ => .int i
theorem de_bl {i : Bool} {j : Nat} : DE X W (.Constant (.bool i) j pos) (xC (.bl i)) := peImp pe_bl fun σ H Q h => tD_C h fun _ _ => .bl i
theorem de_non {j : Nat} : DE X W (.Constant .none j pos) (xC .non) := peImp pe_non fun σ H Q h => tD_C h fun _ _ => .non
theorem de_str {i : Str} {j : Nat} : DE X W (.Constant (.str i) j pos) (xC (.str i)) := peImp pe_str fun σ H Q h => tD_C h fun _ _ => .str i
/-- a module's constant: an int, a text, None, a truth; a written tuple stands in K -/
def VRK (K : PySem.W.Frag) (v : V) (d : D) : Prop := ∀ α H, VR K α H v d
theorem de_glob {x : Str} {d : D} {v : V} {u : Value} (hm : X.mg x = some u) (r : RelV v u) (k : VRK X.K v d) (hg : Gl X x := by rfl) (hd : (x == ("__debug__" : Str)) = false := by decide) : DE X W (.Name x pos) (xC d) :=
  peImp (pe_glob hg hm r hd) fun σ H Q h => tD_C h k
theorem de_globI {x : Str} {i : Int} {t : Tok} (hm : X.mg x = some (.int i t)) (hg : Gl X x := by rfl) (hd : (x == ("__debug__" : Str)) = false := by decide) : DE X W (.Name x pos) (xC (.int i)) :=
  peImp (pe_glob (v := .int i) hg hm ⟨t, rfl⟩ hd) fun σ H Q h => tD_C h fun _ _ => .int i
/-- a built-in class by its name as a value (isinstance's second place) -/
theorem de_ty {x : Str} {T : String} (hg : Gl X x) (hm : X.mg x = none) (hv : bootBuiltins x = some (.type T)) (hn : x ≠ ("__name__" : Str) := by decide) (hd : (x == ("__debug__" : Str)) = false := by decide) : DE X W (.Name x pos) (xC (.ty T)) :=
  peImp (pe_bltn (v := .ty T) hg hm hv rfl hn hd) fun σ H Q h => tD_C h fun _ _ => .ty T
def aNil : AX := fun _ => ret []
def aCons (f : EX) (g : AX) : AX := fun ρ => bnd (f ρ) fun x => bnd (g ρ) fun xs => ret (x :: xs)
theorem da_nil : DA X W [] aNil := paImp pa_nil fun σ H Q h => by
  obtain ⟨α, C, ρ, c, r, h⟩ := h
  exact WpO.ret c h [] .nil
theorem da_cons (ha : DE X W e f) (hr : DA X W es fa) (hs : starEach (e :: es) X.env = (false, eval e X.env) :: starEach es X.env := by rfl) : DA X W (e :: es) (aCons f fa) := paImp (pa_cons ha hr hs) fun σ H Q h => by
  obtain ⟨α, C, ρ, c, r, h⟩ := h
  refine ⟨α, C, ρ, c, r, (WpO.bnd c h).mono fun α1 H1 C1 x e1 c1 h1 v rv => ?_⟩
  refine ⟨α1, C1, ρ, c1, r.ext c e1, (WpO.bnd c1 h1).mono fun α2 H2 C2 xs e2 c2 h2 vs rvs => ?_⟩
  exact WpO.ret c2 h2 (v :: vs) (.cons (rv.ext c1 e2) rvs)

/-! ### tests -/
def truth (C : Cells) : D → Option Bool
  | .non => some false
  | .bl b => some b
  | .int i => some (i != 0)
  | .str x => if x.length ≤ sizeLine then some ((x.length : Int) != 0) else none
  | .tup ds => some (!ds.isEmpty)
  | .lst ds => some (!ds.isEmpty)
  | .hnd k => match C[k]? with
    | some (.lst ds) => some (!ds.isEmpty)
    | _ => none
  | _ => none
def bV (f : EX) : BX := fun ρ => bnd (f ρ) fun x => lft fun C => truth C x
theorem empty_eq {K : PySem.W.Frag} {α : Al} {H : Hp} {xs : List V} {ds : List D} (r : VRs K α H xs ds) : xs.isEmpty = ds.isEmpty := by cases r <;> rfl
theorem truth_ok {α : Al} {H : Hp} {C : Cells} {v : V} {x : D} {b : Bool} {K : PySem.W.Frag} (c : CR K α H C) (r : VR K α H v x) (h : truth C x = some b) : TruV K v H b := by
  cases r with
  | non => exact (Option.some.inj h).symm
  | bl y => exact (Option.some.inj h).symm
  | int i => exact (Option.some.inj h).symm
  | str y =>
    have h : (if y.length ≤ sizeLine then some ((y.length : Int) != 0) else none) = some b := h
    by_cases hl : y.length ≤ sizeLine
    · rw [if_pos hl] at h
      exact ⟨hl, (Option.some.inj h).symm⟩
    · rw [if_neg hl] at h; cases h
  | tup h1 z r =>
    refine .inr (.inl ⟨_, SqT.of h1, ?_⟩)
    rw [← Option.some.inj h, empty_eq r]
  | ktp _ _ _ => cases h
  | lst h1 n z r =>
    refine .inl ⟨_, SqL.of h1, ?_⟩
    rw [← Option.some.inj h, empty_eq r]
  | scr _ _ _ => cases h
  | dctK _ _ _ _ => cases h
  | dctT _ _ _ _ => cases h
  | @hnd k p hk =>
    unfold truth at h
    cases hc : C[k]? with
    | none => simp only [hc] at h; cases h
    | some cl =>
      cases cl with
      | dct _ _ => simp only [hc] at h; cases h
      | lst ds =>
        obtain ⟨xs, e1, z, r⟩ := c.at_ k _ _ hk hc
        simp only [hc] at h
        refine .inl ⟨xs, SqL.of e1, ?_⟩
        rw [← Option.some.inj h, empty_eq r]
  | ref _ => cases h
  | fn _ => cases h
  | ty _ => cases h
theorem tD_bV {t : Hp → V → Bool → Prop} {Q : Bool → Hp → Prop} (h : tDT X W (bV f) σ H Q) : tD X W f σ H fun x H1 => ∃ k, TruV X.K x H1 k ∧ Q k H1 := by
  obtain ⟨α, C, ρ, c, r, h⟩ := h
  refine ⟨α, C, ρ, c, r, (WpO.bnd c h).mono fun α1 H1 C1 x e1 c1 h1 v rv => ?_⟩
  obtain ⟨z, hz, q⟩ := h1.lft
  exact ⟨z, truth_ok c1 rv hz, q α1 H1 (Ext.refl _ _) c1⟩
theorem dt_truth (ha : DE X W a f) (he : ∀ whole, isTrue a X.env whole = (do let v ← whole; standAt a.pos; holding [v] (truthy v)) := by intro _; rfl) : DT X W a (bV f) :=
  ptImp (pt_truth ha he) fun σ H Q h => tD_bV (t := fun _ _ _ => True) h
def boolOf : D → Option Bool
  | .bl k => some k
  | _ => none
theorem boolOf_some {z : D} {k : Bool} (h : boolOf z = some k) : z = .bl k := by
  cases z <;> first | (cases h; rfl) | cases h
theorem VR.blInv {K : PySem.W.Frag} {α : Al} {H : Hp} {v : V} {k : Bool} (r : VR K α H v (.bl k)) : v = .bl k := by cases r; rfl
def bO (o : Op2) (f g : EX) : BX := fun ρ => bnd (f ρ) fun x => bnd (g ρ) fun y => lft fun C => (o C x y).bind boolOf
theorem tD_bO {o : Op2} {Q : Bool → Hp → Prop} (h : tDT X W (bO o f g) σ H Q) : tD X W f σ H fun x H1 => tD X W g σ H1 fun y H2 => rD2 X.K o x y H2 fun z H3 => ∃ k, z = .bl k ∧ Q k H3 := by
  obtain ⟨α, C, ρ, c, r, h⟩ := h
  refine ⟨α, C, ρ, c, r, (WpO.bnd c h).mono fun α1 H1 C1 x e1 c1 h1 v rv => ?_⟩
  refine ⟨α1, C1, ρ, c1, r.ext c e1, (WpO.bnd c1 h1).mono fun α2 H2 C2 y e2 c2 h2 w rw => ?_⟩
  obtain ⟨k, hk, q⟩ := h2.lft
  obtain ⟨z, hz, hb⟩ := Option.bind_eq_some_iff.mp hk
  have ez := boolOf_some hb
  subst ez
  exact ⟨α2, C2, x, y, _, c2, rv.ext c1 e2, rw, hz, fun α' H' e' c' v' r' => ⟨k, r'.blInv, q α' H' e' c'⟩⟩
theorem dt_cmp {op : CmpOp} {o : Op2} (ho : OpR X (compareOp op) (rD2 X.K o)) (ha : DE X W a f) (hb : DE X W b g) (hm : behindInMarks op b = false := by first | exact nomark _ | rfl) :
    DT X W (.Compare a [op] [b] pos) (bO o f g) := ptImp (pt_cmpR ho ha hb hm) fun σ H Q h => tD_bO h
/-- a op b op' c -/
def xCh (o o' : Op2) (f g k : EX) : BX := fun ρ => bnd (f ρ) fun x => bnd (g ρ) fun y => bnd (lft fun C => (o C x y).bind boolOf) fun t => if t = true then bnd (k ρ) fun z => lft fun C => (o' C y z).bind boolOf else ret false
def xB (b : BX) : EX := fun ρ => bnd (b ρ) fun t => ret (.bl t)
theorem tD_ch {o o' : Op2} {Q : Bool → Hp → Prop} (h : tDT X W (xCh o o' f g k) σ H Q) : tChain (rD2 X.K o) (rD2 X.K o') (tD X W f) (tD X W g) (tD X W k) σ H fun z H3 => ∃ b, z = .bl b ∧ Q b H3 := by
  obtain ⟨α, C, ρ, c, r, h⟩ := h
  refine ⟨α, C, ρ, c, r, (WpO.bnd c h).mono fun α1 H1 C1 x e1 c1 h1 v rv => ?_⟩
  refine ⟨α1, C1, ρ, c1, r.ext c e1, (WpO.bnd c1 h1).mono fun α2 H2 C2 y e2 c2 h2 w rw => ?_⟩
  obtain ⟨t, ht, q⟩ := (WpO.bnd c2 h2).lft
  obtain ⟨z, hz, hb⟩ := Option.bind_eq_some_iff.mp ht
  have ez := boolOf_some hb
  subst ez
  refine ⟨α2, C2, x, y, _, c2, rv.ext c1 e2, rw, hz, fun α3 H3 e3 c3 v3 r3 => ⟨t, r3.blInv, ?_⟩⟩
  have q3 := q α3 H3 e3 c3
  cases t with
  | false =>
    rw [if_neg Bool.false_ne_true] at q3 ⊢
    exact ⟨false, rfl, WpO.ret c3 q3⟩
  | true =>
    rw [if_pos rfl] at q3 ⊢
    refine ⟨α3, C2, ρ, c3, ((r.ext c e1).ext c1 e2).ext c2 e3, (WpO.bnd c3 q3).mono fun α4 H4 C4 z4 e4 c4 h4 v4 r4 => ?_⟩
    obtain ⟨k', hk', q'⟩ := h4.lft
    obtain ⟨z', hz', hb'⟩ := Option.bind_eq_some_iff.mp hk'
    have ez' := boolOf_some hb'
    subst ez'
    exact ⟨α4, C4, y, z4, _, c4, (rw.ext c2 e3).ext c3 e4, r4, hz', fun α' H' e' c' v' r' => ⟨k', r'.blInv, q' α' H' e' c'⟩⟩
theorem dt_ch {op op' : CmpOp} {o o' : Op2} (ho : OpR X (compareOp op) (rD2 X.K o)) (ho' : OpR X (compareOp op') (rD2 X.K o')) (ha : DE X W a f) (hb : DE X W b g) (hc : DE X W c k) (hm : lastMarks [op, op'] [b, c] = false := by rfl) : DT X W (.Compare a [op, op'] [b, c] pos) (xCh o o' f g k) :=
  ptImp (pt_chain ho ho' ha hb hc hm) fun σ H Q h => tD_ch h
theorem tDT_B {b : BX} (h : tD X W (xB b) σ H Q) : tDT X W b σ H fun k H1 => Q (.bl k) H1 := by
  obtain ⟨α, C, ρ, c, r, h⟩ := h
  exact ⟨α, C, ρ, c, r, (WpO.bnd c h).mono fun α1 H1 C1 x e1 c1 h1 => WpO.ret c1 h1 (.bl x) (.bl x)⟩
theorem de_ch {op op' : CmpOp} {o o' : Op2} (ho : OpR X (compareOp op) (rD2 X.K o)) (ho' : OpR X (compareOp op') (rD2 X.K o')) (ha : DE X W a f) (hb : DE X W b g) (hc : DE X W c k) (hm : lastMarks [op, op'] [b, c] = false := by rfl) : DE X W (.Compare a [op, op'] [b, c] pos) (xB (xCh o o' f g k)) :=
  peImp (pe_chain ho ho' ha hb hc hm) fun σ H Q h => by
    obtain ⟨α, C, ρ, c, r, h⟩ := tD_ch (tDT_B h)
    refine ⟨α, C, ρ, c, r, h.mono fun α1 H1 C1 x e1 c1 h1 v rv => ?_⟩
    obtain ⟨α2, C2, ρ2, c2, r2, h2⟩ := h1 v rv
    refine ⟨α2, C2, ρ2, c2, r2, h2.mono fun α3 H3 C3 x3 e3 c3 h3 v3 rv3 => ?_⟩
    obtain ⟨α4, C4, dx, dy, dz, c4, rx, ry, hz, ans⟩ := h3 v3 rv3
    refine ⟨α4, C4, dx, dy, dz, c4, rx, ry, hz, fun α5 H5 e5 c5 v5 r5 => ?_⟩
    obtain ⟨t, et, q⟩ := ans α5 H5 e5 c5 v5 r5
    refine ⟨t, et, ?_⟩
    cases t with
    | false =>
      rw [if_neg Bool.false_ne_true] at q ⊢
      obtain ⟨b, eb, q⟩ := q
      cases eb
      exact q
    | true =>
      rw [if_pos rfl] at q ⊢
      obtain ⟨α6, C6, ρ6, c6, r6, h6⟩ := q
      refine ⟨α6, C6, ρ6, c6, r6, h6.mono fun α7 H7 C7 x7 e7 c7 h7 v7 rv7 => ?_⟩
      obtain ⟨α8, C8, dx8, dy8, dz8, c8, rx8, ry8, hz8, ans8⟩ := h7 v7 rv7
      refine ⟨α8, C8, dx8, dy8, dz8, c8, rx8, ry8, hz8, fun α9 H9 e9 c9 v9 r9 => ?_⟩
      obtain ⟨b, eb, q⟩ := ans8 α9 H9 e9 c9 v9 r9
      cases eb
      exact q

/-! ### and, or, not, a if t else b -/
variable {p q : BX} {rest : List Expr}
def bAnd (p q : BX) : BX := fun ρ => bnd (p ρ) fun t => if t = true then q ρ else ret false
def bOr (p q : BX) : BX := fun ρ => bnd (p ρ) fun t => if t = true then ret true else q ρ
def bNot (p : BX) : BX := fun ρ => bnd (p ρ) fun t => ret (!t)
def xIf (p : BX) (f g : EX) : EX := fun ρ => bnd (p ρ) fun t => if t = true then f ρ else g ρ
theorem dw_and1 (h : DT X W a p) : DW X W (.BoolOp .And [a] pos) p := pw_and1 h
theorem dw_or1 (h : DT X W a p) : DW X W (.BoolOp .Or [a] pos) p := pw_or1 h
theorem dw_and (ha : DT X W a p) (hb : DW X W (.BoolOp .And (b :: rest) pos) q) : DW X W (.BoolOp .And (a :: b :: rest) pos) (bAnd p q) := pwImp (pw_and ha hb) fun σ H Q h => by
  obtain ⟨α, C, ρ, c, r, h⟩ := h
  refine ⟨α, C, ρ, c, r, (WpO.bnd c h).mono fun α1 H1 C1 x e1 c1 h1 => ?_⟩
  cases x with
  | true =>
    rw [if_pos rfl] at h1 ⊢
    exact ⟨α1, C1, ρ, c1, r.ext c e1, h1⟩
  | false =>
    rw [if_neg Bool.false_ne_true] at h1 ⊢
    exact WpO.ret c1 h1
theorem dw_or (ha : DT X W a p) (hb : DW X W (.BoolOp .Or (b :: rest) pos) q) : DW X W (.BoolOp .Or (a :: b :: rest) pos) (bOr p q) := pwImp (pw_or ha hb) fun σ H Q h => by
  obtain ⟨α, C, ρ, c, r, h⟩ := h
  refine ⟨α, C, ρ, c, r, (WpO.bnd c h).mono fun α1 H1 C1 x e1 c1 h1 => ?_⟩
  cases x with
  | true =>
    rw [if_pos rfl] at h1 ⊢
    exact WpO.ret c1 h1
  | false =>
    rw [if_neg Bool.false_ne_true] at h1 ⊢
    exact ⟨α1, C1, ρ, c1, r.ext c e1, h1⟩
theorem dt_not (ha : DT X W a p) : DT X W (.UnaryOp .Not a pos) (bNot p) := ptImp (pt_not ha) fun σ H Q h => by
  obtain ⟨α, C, ρ, c, r, h⟩ := h
  exact ⟨α, C, ρ, c, r, (WpO.bnd c h).mono fun α1 H1 C1 x e1 c1 h1 => WpO.ret c1 h1⟩
theorem de_if (hc : DT X W c p) (ha : DE X W a f) (hb : DE X W b g) : DE X W (.IfExp c a b pos) (xIf p f g) := peImp (pe_ifExp hc ha hb) fun σ H Q h => by
  obtain ⟨α, C, ρ, c, r, h⟩ := h
  refine ⟨α, C, ρ, c, r, (WpO.bnd c h).mono fun α1 H1 C1 x e1 c1 h1 => ?_⟩
  cases x with
  | true =>
    rw [if_pos rfl] at h1 ⊢
    exact ⟨α1, C1, ρ, c1, r.ext c e1, h1⟩
  | false =>
    rw [if_neg Bool.false_ne_true] at h1 ⊢
    exact ⟨α1, C1, ρ, c1, r.ext c e1, h1⟩
end
end DL

/-! DL3: statements as functions of the slots' data (SX), targets, loops, calls of defs, defs. -/
namespace DL
open PySem L2
open PyProof.Rows (envOfC)

inductive Fl where
  | nx | rt (d : D) | bk | ct
inductive SO where
  | ok (f : Fl) (ρ : Ro) (C : Cells)
  | err (e : Er) (ρ : Ro) (C : Cells)
  | bad
abbrev SX := Ro → Cells → SO
abbrev TX := D → Ro → Mo Ro
/-- an expression within a statement -/
def sE {β : Type} (m : Mo β) (ρ : Ro) (k : β → Cells → SO) : Cells → SO := fun C => match m C with
  | .ok (x, C') => k x C'
  | .err e C' => .err e ρ C'
  | .bad => .bad
def FlQ (K : PySem.W.Frag) (E : Ends) (α : Al) (σ : St) (H : Hp) : Fl → Prop
  | .nx => E.nx σ H
  | .bk => E.bk σ H
  | .ct => E.ct σ H
  | .rt d => ∀ v, VR K α H v d → E.rt v H
def WpS (X : Cx) (W : WX) (α : Al) (H : Hp) (E : Ends) : SO → Prop
  | .ok f ρ C => ∀ α' H' σ', Ext α H α' H' → CR X.K α' H' C → SR X.K α' σ' H' ρ → FlQ X.K E α' σ' H' f
  | .err er ρ C => ∀ cls d α' H' σ', Ext α H α' H' → CR X.K α' H' C → SR X.K α' σ' H' ρ → ErrR X.K X.mg α' H' er cls d → W cls d σ' H'
  | .bad => False
def tDS (X : Cx) (W : WX) (f : SX) : TS := fun E σ H => ∃ α C ρ, CR X.K α H C ∧ SR X.K α σ H ρ ∧ WpS X W α H E (f ρ C)
abbrev DS (X : Cx) (W : WX) (st : Stmt) (f : SX) : Prop := PS X st (tDS X W f)
abbrev DSs (X : Cx) (W : WX) (st : List Stmt) (f : SX) : Prop := PSs X st (tDS X W f)

section
variable {X : Cx} {W : WX} {α α' : Al} {H H' : Hp} {C C' : Cells} {σ : St} {ρ : Ro} {E E' : Ends} {o : SO}
theorem psImp {st : Stmt} {t t' : TS} (h : PS X st t) (i : ∀ E σ H, t' E σ H → t E σ H) : PS X st t' := ⟨fun pins s σ H E I q => h.run pins s σ H E I (i E σ H q)⟩
theorem pssImp {st : List Stmt} {t t' : TS} (h : PSs X st t) (i : ∀ E σ H, t' E σ H → t E σ H) : PSs X st t' := ⟨fun pins s σ H E I q => h.run pins s σ H E I (i E σ H q)⟩
theorem WpS.start (c : CR X.K α H C) (c' : CR X.K α' H' C') (e : Ext α H α' H') (h : WpS X W α H E o) : WpS X W α' H' E o := by
  match o, h with
  | .ok f ρ _, h => exact fun α2 H2 σ2 e2 c2 r2 => h α2 H2 σ2 (e.trans' c c' e2) c2 r2
  | .err er ρ _, h => exact fun cls d α2 H2 σ2 e2 c2 r2 q => h cls d α2 H2 σ2 (e.trans' c c' e2) c2 r2 q
/-- the expression of a statement -/
theorem WpS.sE {β : Type} {m : Mo β} {k : β → Cells → SO} (c : CR X.K α H C) (r : SR X.K α σ H ρ) (h : WpS X W α H E (sE m ρ k C)) :
    WpO X.K X.mg α H (fun α' H' C' x => WpS X W α' H' E (k x C')) (fun c d H' => W c d σ H') (m C) := by
  unfold DL.sE at h
  cases hm : m C with
  | ok p =>
    obtain ⟨x, C1⟩ := p
    rw [hm] at h
    exact fun α1 H1 e1 c1 => WpS.start c c1 e1 h
  | err er C1 =>
    rw [hm] at h
    exact fun cls d α1 H1 e1 c1 q => h cls d α1 H1 σ e1 c1 (r.ext c e1) q
  | bad =>
    rw [hm] at h
    exact h
theorem WpS.nx (c : CR X.K α H C) (r : SR X.K α σ H ρ) (h : WpS X W α H E (.ok .nx ρ C)) : E.nx σ H := h α H σ (Ext.refl α H) c r

/-! ### small statements -/
variable {e : Expr} {f g : EX} {s1 s2 : SX} {pos : Pos}
def sNil : SX := fun ρ C => .ok .nx ρ C
def sSeq (s1 s2 : SX) : SX := fun ρ C => match s1 ρ C with
  | .ok .nx ρ' C' => s2 ρ' C'
  | o => o
def sExpr (f : EX) : SX := fun ρ C => sE (f ρ) ρ (fun _ C' => .ok .nx ρ C') C
def sRet (f : EX) : SX := fun ρ C => sE (f ρ) ρ (fun x C' => .ok (.rt x) ρ C') C
def sRetN : SX := fun ρ C => .ok (.rt .non) ρ C
def sBrk : SX := fun ρ C => .ok .bk ρ C
def sCnt : SX := fun ρ C => .ok .ct ρ C
def sIf (p : BX) (s1 s2 : SX) : SX := fun ρ C => sE (p ρ) ρ (fun t C' => if t = true then s1 ρ C' else s2 ρ C') C
def sSet (i : Nat) (f : EX) : SX := fun ρ C => sE (f ρ) ρ (fun x C' => .ok .nx (ρ.set i (some x)) C') C
def sNever : SX := fun _ _ => .bad
theorem ds_nil : DSs X W [] sNil := pssImp pss_nil fun E σ H ⟨α, C, ρ, c, r, h⟩ => h.nx c r
theorem ds_cons {st : Stmt} {rest : List Stmt} (h1 : DS X W st s1) (h2 : DSs X W rest s2) : DSs X W (st :: rest) (sSeq s1 s2) := pssImp (pss_cons h1 h2) fun E σ H ⟨α, C, ρ, c, r, h⟩ => by
  refine ⟨α, C, ρ, c, r, ?_⟩
  unfold sSeq at h
  cases hs : s1 ρ C with
  | ok fl ρ1 C1 =>
    rw [hs] at h
    cases fl with
    | nx => exact fun α1 H1 σ1 e1 c1 r1 => ⟨α1, C1, ρ1, c1, r1, WpS.start c c1 e1 h⟩
    | rt d => exact h
    | bk => exact h
    | ct => exact h
  | err er ρ1 C1 => rw [hs] at h; exact h
  | bad => rw [hs] at h; exact h
theorem ds_one {st : Stmt} (h1 : DS X W st s1) : DSs X W [st] s1 := pss_one h1
theorem ds_pass : DS X W (.Pass pos) sNil := psImp ps_pass fun E σ H ⟨α, C, ρ, c, r, h⟩ => h.nx c r
theorem ds_brk : DS X W (.Break pos) sBrk := psImp ps_break fun E σ H ⟨α, C, ρ, c, r, h⟩ => h α H σ (Ext.refl α H) c r
theorem ds_cnt : DS X W (.Continue pos) sCnt := psImp ps_continue fun E σ H ⟨α, C, ρ, c, r, h⟩ => h α H σ (Ext.refl α H) c r
theorem ds_doc {x j pos pos'} : DS X W (.Expr (.Constant (.str x) j pos) pos') sNil := psImp ps_doc fun E σ H ⟨α, C, ρ, c, r, h⟩ => h.nx c r
theorem ds_never {st : Stmt} : DS X W st sNever := psImp ps_never fun E σ H ⟨α, C, ρ, c, r, h⟩ => h
theorem ds_expr (he : DE X W e f) (hs : swapsWith e none pos.line X.env = pure false := by rfl) : DS X W (.Expr e pos) (sExpr f) := psImp (ps_expr he hs) fun E σ H ⟨α, C, ρ, c, r, h⟩ =>
  ⟨α, C, ρ, c, r, (WpS.sE c r h).mono fun α1 H1 C1 x e1 c1 h1 v rv => h1.nx c1 (r.ext c e1)⟩
theorem ds_ret (he : DE X W e f) : DS X W (.Return (some e) pos) (sRet f) := psImp (ps_ret he) fun E σ H ⟨α, C, ρ, c, r, h⟩ =>
  ⟨α, C, ρ, c, r, (WpS.sE c r h).mono fun α1 H1 C1 x e1 c1 h1 v rv => h1 α1 H1 σ (Ext.refl α1 H1) c1 (r.ext c e1) v rv⟩
theorem ds_retN : DS X W (.Return none pos) sRetN := psImp ps_retN fun E σ H ⟨α, C, ρ, c, r, h⟩ => h α H σ (Ext.refl α H) c r .non .non
theorem ds_if {p : BX} {a b : List Stmt} (hc : DT X W e p) (ha : DSs X W a s1) (hb : DSs X W b s2) : DS X W (.If e a b pos) (sIf p s1 s2) := psImp (ps_if hc ha hb) fun E σ H ⟨α, C, ρ, c, r, h⟩ => by
  refine ⟨α, C, ρ, c, r, (WpS.sE c r h).mono fun α1 H1 C1 x e1 c1 h1 => ?_⟩
  cases x with
  | true =>
    rw [if_pos rfl] at h1 ⊢
    exact ⟨α1, C1, ρ, c1, r.ext c e1, h1⟩
  | false =>
    rw [if_neg Bool.false_ne_true] at h1 ⊢
    exact ⟨α1, C1, ρ, c1, r.ext c e1, h1⟩
theorem ds_set {i : Nat} {x : Str} {p' : Pos} (hN : X.N.Nodup) (he : DE X W e f) (hi : X.N[i]? = some x := by rfl) (hx : Loc X.env.scope x := by first | exact Or.inl rfl | exact Or.inr rfl) (hs : swapsWith e (some (.Name x p')) pos.line X.env = pure false := by rfl)
    (hf : X.fn x = true ∨ X.env.scope.names.lookup x = some .local := by first | exact .inl rfl | exact .inr rfl) : DS X W (.Assign [.Name x p'] e pos) (sSet i f) := psImp (ps_set hN hi hx he hs hf) fun E σ H ⟨α, C, ρ, c, r, h⟩ =>
  ⟨α, C, ρ, c, r, (WpS.sE c r h).mono fun α1 H1 C1 x e1 c1 h1 v rv => h1.nx c1 ((r.ext c e1).set rv)⟩

/-! ### targets: ix the slots that they set -/
structure Agr (ix : List Nat) (σ σ' : St) : Prop where
  len : σ'.length = σ.length
  at_ : ∀ j, j ∉ ix → σ'[j]? = σ[j]?
theorem Agr.refl (ix : List Nat) (σ : St) : Agr ix σ σ := ⟨rfl, fun _ _ => rfl⟩
theorem Agr.trans {ix ix' : List Nat} {σ σ' σ'' : St} (a : Agr ix σ σ') (b : Agr ix' σ' σ'') : Agr (ix ++ ix') σ σ'' :=
  ⟨b.len.trans a.len, fun j hj => (b.at_ j fun z => hj (List.mem_append_right _ z)).trans (a.at_ j fun z => hj (List.mem_append_left _ z))⟩
def gD (X : Cx) (ix : List Nat) (t : TX) : TG := fun v σ H Q => ∃ α C ρ d, CR X.K α H C ∧ SR X.K α σ H ρ ∧ VR X.K α H v d ∧
  WpO X.K X.mg α H (fun α' H' _ ρ' => ∀ σ', SR X.K α' σ' H' ρ' → Agr ix σ σ' → Q σ' H') (fun _ _ _ => False) (t d ρ C)
def gDs (X : Cx) (ix : List Nat) (t : List D → Ro → Mo Ro) : TGs := fun vs σ H Q => ∃ α C ρ ds, CR X.K α H C ∧ SR X.K α σ H ρ ∧ VRs X.K α H vs ds ∧
  WpO X.K X.mg α H (fun α' H' _ ρ' => ∀ σ', SR X.K α' σ' H' ρ' → Agr ix σ σ' → Q σ' H') (fun _ _ _ => False) (t ds ρ C)
abbrev DG (X : Cx) (tg : Expr) (ix : List Nat) (t : TX) : Prop := PG X tg (gD X ix t)
abbrev DGs (X : Cx) (tg : List Expr) (ix : List Nat) (t : List D → Ro → Mo Ro) : Prop := PGs X tg (gDs X ix t)
theorem pgImp {tg : Expr} {t t' : TG} (h : PG X tg t) (i : ∀ v σ H Q, t' v σ H Q → t v σ H Q) : PG X tg t' := ⟨fun pins s σ H v u Q I r q => h.run pins s σ H v u Q I r (i v σ H Q q)⟩
theorem pgsImp {tg : List Expr} {t t' : TGs} (h : PGs X tg t) (i : ∀ v σ H Q, t' v σ H Q → t v σ H Q) : PGs X tg t' := ⟨fun pins s σ H v u Q I r q => h.run pins s σ H v u Q I r (i v σ H Q q)⟩
def gN (i : Nat) : TX := fun d ρ => ret (ρ.set i (some d))
def gNilD : List D → Ro → Mo Ro
  | [], ρ => ret ρ
  | _ :: _, _ => bad
def gConsD (t : TX) (u : List D → Ro → Mo Ro) : List D → Ro → Mo Ro
  | [], _ => bad
  | d :: ds, ρ => bnd (t d ρ) fun ρ' => u ds ρ'
def asTup : D → Option (List D)
  | .tup ds => some ds
  | _ => none
def gTupD (n : Nat) (t : List D → Ro → Mo Ro) : TX := fun d ρ => match d with
  | .tup ds => if ds.length = n then t ds ρ else bad
  | _ => bad
theorem agr_set {i : Nat} {x : Option V} : Agr [i] σ (σ.set i x) := ⟨by simp, fun j hj => by
  have q : i ≠ j := fun z => hj (by simp [z])
  exact List.getElem?_set_ne q⟩
theorem dg_name {i : Nat} {x : Str} (hN : X.N.Nodup) (hi : X.N[i]? = some x := by rfl) (hx : Loc X.env.scope x := by first | exact Or.inl rfl | exact Or.inr rfl) (hf : X.fn x = true ∨ X.env.scope.names.lookup x = some .local := by first | exact .inl rfl | exact .inr rfl) :
    DG X (.Name x pos) [i] (gN i) := pgImp (pg_name hN hi hx hf) fun v σ H Q ⟨α, C, ρ, d, c, r, rv, h⟩ => WpO.ret c h _ (r.set rv) agr_set
theorem dgs_nil : DGs X [] [] gNilD := pgsImp pgs_nil fun vs σ H Q ⟨α, C, ρ, ds, c, r, rv, h⟩ => by
  cases rv with
  | nil => exact ⟨rfl, WpO.ret c h σ r (Agr.refl _ _)⟩
  | cons _ _ => exact h.elim
theorem dgs_cons {es : List Expr} {ix ix' : List Nat} {t : TX} {u : List D → Ro → Mo Ro} (h1 : DG X e ix t) (h2 : DGs X es ix' u) (hs : (assignEach (e :: es) X.env).map (·.2) = assign e X.env :: (assignEach es X.env).map (·.2) := by rfl) :
    DGs X (e :: es) (ix ++ ix') (gConsD t u) := pgsImp (pgs_cons h1 h2 hs) fun vs σ H Q ⟨α, C, ρ, ds, c, r, rv, h⟩ => by
  cases rv with
  | nil => exact h.elim
  | @cons v vs d ds rv rvs =>
    refine ⟨v, vs, rfl, α, C, ρ, d, c, r, rv, (WpO.bnd c h).mono fun α1 H1 C1 ρ1 e1 c1 h1 σ1 r1 a1 => ?_⟩
    exact ⟨α1, C1, ρ1, ds, c1, r1, rvs.ext c e1, h1.mono fun α2 H2 C2 ρ2 e2 c2 h2 σ2 r2 a2 => h2 σ2 r2 (a1.trans a2)⟩
theorem dg_tup {es : List Expr} {k n : Nat} {ix : List Nat} {t : List D → Ro → Mo Ro} (hc : X.calm = true) (h : DGs X es ix t) (hn : (assignEach es X.env).length = n := by rfl) (hst : (assignEach es X.env).findIdx? (·.1) = none := by rfl) :
    DG X (.Tuple es k pos) ix (gTupD n t) := pgImp (pg_tup hc h hn hst) fun v σ H Q ⟨α, C, ρ, d, c, r, rv, h⟩ => by
  unfold gTupD at h
  cases rv with
  | @tup a xs ds h1 z rvs =>
    dsimp only at h
    by_cases hl : ds.length = n
    · rw [if_pos hl] at h
      exact ⟨a, xs, rfl, SqT.of h1, rvs.length.trans hl, α, C, ρ, ds, c, r, rvs, h⟩
    · rw [if_neg hl] at h
      exact h.elim
  | _ => exact h.elim
/-- target = value -/
def sAsg (f : EX) (t : TX) : SX := fun ρ C => sE (f ρ) ρ (fun x C' => sE (t x ρ) ρ (fun ρ' C'' => .ok .nx ρ' C'') C') C
/-- a target raises nothing -/
theorem tgt {ix : List Nat} {t : TX} {v : V} {d : D} {k : Ro → Cells → SO} {Q : St → Hp → Prop} (c : CR X.K α H C) (r : SR X.K α σ H ρ) (rv : VR X.K α H v d) (hn : ∀ er C', t d ρ C ≠ .err er C') (h : WpS X W α H E (sE (t d ρ) ρ k C))
    (hk : ∀ α' H' C' ρ' σ', Ext α H α' H' → CR X.K α' H' C' → SR X.K α' σ' H' ρ' → Agr ix σ σ' → WpS X W α' H' E (k ρ' C') → Q σ' H') : gD X ix t v σ H Q := by
  refine ⟨α, C, ρ, d, c, r, rv, ?_⟩
  have h' := WpS.sE c r h
  cases ht : t d ρ C with
  | ok p =>
    obtain ⟨ρ1, C1⟩ := p
    rw [ht] at h'
    exact fun α1 H1 e1 c1 σ1 r1 a1 => hk α1 H1 C1 ρ1 σ1 e1 c1 r1 a1 (h' α1 H1 e1 c1)
  | err er C1 => exact (hn er C1 ht).elim
  | bad => rw [ht] at h'; exact h'
/-- a target that never raises -/
def NoErr (t : TX) : Prop := ∀ d ρ C er C', t d ρ C ≠ .err er C'
def NoErrs (t : List D → Ro → Mo Ro) : Prop := ∀ d ρ C er C', t d ρ C ≠ .err er C'
theorem ne_name {i : Nat} : NoErr (gN i) := fun _ _ _ _ _ h => nomatch h
theorem ne_nil : NoErrs gNilD := fun d ρ C er C' h => by cases d <;> cases h
theorem ne_cons {t : TX} {u : List D → Ro → Mo Ro} (a : NoErr t) (b : NoErrs u) : NoErrs (gConsD t u) := fun d ρ C er C' h => by
  cases d with
  | nil => cases h
  | cons d ds =>
    simp only [gConsD, bnd] at h
    cases ht : t d ρ C with
    | ok p => obtain ⟨ρ1, C1⟩ := p; rw [ht] at h; exact b _ _ _ _ _ h
    | err e1 C1 => exact a _ _ _ _ _ ht
    | bad => rw [ht] at h; cases h
theorem ne_tup {n : Nat} {t : List D → Ro → Mo Ro} (a : NoErrs t) : NoErr (gTupD n t) := fun d ρ C er C' h => by
  unfold gTupD at h
  cases d with
  | tup ds =>
    by_cases hl : ds.length = n
    · simp only [hl, if_true] at h; exact a _ _ _ _ _ h
    · simp only [hl, if_false] at h; cases h
  | _ => cases h
theorem ds_asg {tg : Expr} {ix : List Nat} {t : TX} (he : DE X W e f) (hg : DG X tg ix t) (hn : NoErr t) (hs : swapsWithSole [tg] e pos.line X.env = pure false := by rfl) (hw : swappedStores [tg] e X.env = pure none := by rfl)
    (h1 : (assignEach [tg] X.env).map (·.2) = [assign tg X.env] := by rfl) : DS X W (.Assign [tg] e pos) (sAsg f t) := psImp (ps_asg he hg hs hw h1) fun E σ H ⟨α, C, ρ, c, r, h⟩ =>
  ⟨α, C, ρ, c, r, (WpS.sE c r h).mono fun α1 H1 C1 x e1 c1 h1 v rv => tgt c1 (r.ext c e1) rv (hn _ _ _) h1 fun α2 H2 C2 ρ2 σ2 e2 c2 r2 a2 h2 => h2.nx c2 r2⟩
/-- a, b = x, y -/
def sPar (i j : Nat) (fa : AX) : SX := fun ρ C => sE (fa ρ) ρ (fun xs C' => match xs with
  | [x, y] => .ok .nx ((ρ.set i (some x)).set j (some y)) C'
  | _ => .bad) C
theorem ds_par {i j : Nat} {x y : Str} {a b : Expr} {fa : AX} {px py pt : Pos} {kt k2 : Nat} {pt2 : Pos} (hc : X.calm = true) (hN : X.N.Nodup) (hij : i ≠ j) (ha : DA X W [a, b] fa) (hi : X.N[i]? = some x := by rfl) (hj : X.N[j]? = some y := by rfl)
    (hx : X.env.scope.names.lookup x = some .local := by rfl) (hy : X.env.scope.names.lookup y = some .local := by rfl)
    (hw : swappedStores [.Tuple [.Name x px, .Name y py] kt pt] (.Tuple [a, b] k2 pt2) X.env = pure (some [x, y]) := by rfl)
    (hs : swapsWithSole [.Tuple [.Name x px, .Name y py] kt pt] (.Tuple [a, b] k2 pt2) pos.line X.env = pure false := by rfl) : DS X W (.Assign [.Tuple [.Name x px, .Name y py] kt pt] (.Tuple [a, b] k2 pt2) pos) (sPar i j fa) :=
  psImp (ps_par hc hN hi hj hij hx hy ha hw hs) fun E σ H ⟨α, C, ρ, c, r, h⟩ => by
  refine ⟨α, C, ρ, c, r, (WpS.sE c r h).mono fun α1 H1 C1 xs e1 c1 h1 vs rv => ?_⟩
  cases rv with
  | nil => exact h1.elim
  | @cons v vs d ds rv rvs =>
    cases rvs with
    | nil => exact h1.elim
    | @cons v2 vs d2 ds rv2 rvs =>
      cases rvs with
      | cons _ _ => exact h1.elim
      | nil => exact ⟨v, v2, rfl, h1.nx c1 (((r.ext c e1).set rv).set rv2)⟩

/-! ### what is walked -/
/-- the items; where they are a cell's, its number and its items: it must stand so at each turn -/
structure Src where
  items : List D
  cell : Option (Nat × List D)
open Classical in
noncomputable def Src.chk {β : Type} (s : Src) (C : Cells) (o b : β) : β := match s.cell with
  | none => o
  | some (k, ds) => if C[k]? = some (.lst ds) then o else b
def Src.ok (s : Src) (C : Cells) : Prop := match s.cell with
  | none => True
  | some (k, ds) => C[k]? = some (.lst ds)
theorem Src.chk_ok {β : Type} {s : Src} {C : Cells} {o b : β} (P : β → Prop) (h : P (s.chk C o b)) (hb : ¬ P b) : s.ok C ∧ P o := by
  unfold Src.chk at h
  unfold Src.ok
  cases hs : s.cell with
  | none => simp only [hs] at h ⊢; exact ⟨trivial, h⟩
  | some p =>
    obtain ⟨k, ds⟩ := p
    simp only [hs] at h ⊢
    by_cases q : C[k]? = some (.lst ds)
    · rw [if_pos q] at h; exact ⟨q, h⟩
    · rw [if_neg q] at h; exact (hb h).elim
abbrev IX := Ro → Mo Src
structure DWalk (K : PySem.W.Frag) (α : Al) (H : Hp) (J : It) (s : Src) (G : Hp → Prop) (Y : Nat → Hp → V → Hp → Prop) : Prop where
  walk : Walk J s.items.length G Y
  len : s.items.length ≤ sizeLine
  good : ∀ α' H' C', ExtW α H α' H' → CR K α' H' C' → s.ok C' → G H'
  gives : ∀ i x H1 H2 α' C' d, ExtW α H α' H1 → CR K α' H1 C' → s.ok C' → Y i H1 x H2 → s.items[i]? = some d → Ext α' H1 α' H2 ∧ CR K α' H2 C' ∧ VR K α' H2 x d
def iD (X : Cx) (W : WX) (f : IX) : TI := fun σ H R => ∃ α C ρ, CR X.K α H C ∧ SR X.K α σ H ρ ∧
  WpO X.K X.mg α H (fun α' H' _ s => ∀ J G Y, DWalk X.K α' H' J s G Y → R J H') (fun c d H' => W c d σ H') (f ρ C)
abbrev DI (X : Cx) (W : WX) (tg iter : Expr) (f : IX) : Prop := PI X tg iter (iD X W f)
theorem piImp {tg iter : Expr} {t t' : TI} (h : PI X tg iter t) (i : ∀ σ H R, t' σ H R → t σ H R) : PI X tg iter t' := ⟨fun pins s σ H R I q => h.run pins s σ H R I (i σ H R q)⟩

/-! ### for -/
noncomputable def forD (s : Src) (t : TX) (b : SX) : List D → Ro → Cells → SO
  | [], ρ, C => s.chk C (.ok .nx ρ C) .bad
  | x :: xs, ρ, C => s.chk C (sE (t x ρ) ρ (fun ρ1 C1 => match b ρ1 C1 with
    | .ok .nx ρ2 C2 => forD s t b xs ρ2 C2
    | .ok .ct ρ2 C2 => forD s t b xs ρ2 C2
    | .ok .bk ρ2 C2 => .ok .nx ρ2 C2
    | .ok (.rt d) ρ2 C2 => .ok (.rt d) ρ2 C2
    | .err e ρ2 C2 => .err e ρ2 C2
    | .bad => .bad) C) .bad
noncomputable def sFor (f : IX) (t : TX) (b : SX) : SX := fun ρ C => sE (f ρ) ρ (fun s C' => forD s t b s.items ρ C') C
theorem ds_for {tg iter : Expr} {body : List Stmt} {fi : IX} {ix : List Nat} {t : TX} {b : SX} (hp : PassesOwn (model X.prog X.w) X.A X.env X.xe) (hc : X.calm = true) (hi : DI X W tg iter fi) (hg : DG X tg ix t) (hn : NoErr t) (hb : DSs X W body b)
    (hs : ∀ x, foldedSetIterable iter X.env x = pure x := by intro _; rfl) : DS X W (.For tg iter body [] pos) (sFor fi t b) := psImp (ps_for hp hc hi hg hb hs) fun E σ H ⟨α, C, ρ, c, r, h⟩ => by
  refine ⟨α, C, ρ, c, r, (WpS.sE c r h).mono fun α0 H0 C0 s e0 c0 h0 J G Y dw => ?_⟩
  refine for_it dw.walk (fun i σ H => ∃ α C ρ, Ext α0 H0 α H ∧ CR X.K α H C ∧ SR X.K α σ H ρ ∧ WpS X W α H E (forD s t b (s.items.drop i) ρ C)) ?_ ?_ ?_ ?_
  · exact ⟨α0, C0, ρ, Ext.refl _ _, c0, r.ext c e0, by rw [List.drop_zero]; exact h0⟩
  · rintro i σ H hi ⟨α, C, ρ, e1, c1, r1, w1⟩
    refine dw.good α H C e1.toExtW c1 ?_
    cases hd : s.items.drop i with
    | nil => rw [hd] at w1; exact (Src.chk_ok _ w1 fun z => z).1
    | cons x xs => rw [hd] at w1; exact (Src.chk_ok _ w1 fun z => z).1
  · rintro i x σ H H' hi ⟨α, C, ρ, e1, c1, r1, w1⟩ y
    have hd : s.items.drop i = s.items[i] :: s.items.drop (i + 1) := List.drop_eq_getElem_cons hi
    rw [hd] at w1
    obtain ⟨ok2, w2⟩ := Src.chk_ok _ w1 fun z => z
    obtain ⟨e2, c2, rx⟩ := dw.gives i x H H' α C s.items[i] e1.toExtW c1 ok2 y (by simp [hi])
    refine tgt (ix := ix) c2 (r1.ext c1 e2) rx (hn _ _ _) (WpS.start c1 c2 e2 w2) fun α3 H3 C3 ρ3 σ3 e3 c3 r3 a3 w3 => ?_
    refine ⟨α3, C3, ρ3, c3, r3, ?_⟩
    cases hb3 : b ρ3 C3 with
    | bad => rw [hb3] at w3; exact w3
    | err er ρ4 C4 => rw [hb3] at w3; exact w3
    | ok fl ρ4 C4 =>
      rw [hb3] at w3
      have e13 := (e1.trans' c0 c1 e2).trans' c0 c2 e3
      cases fl with
      | nx => exact fun α4 H4 σ4 e4 c4 r4 => ⟨α4, C4, ρ4, e13.trans' c0 c3 e4, c4, r4, WpS.start c3 c4 e4 w3⟩
      | ct => exact fun α4 H4 σ4 e4 c4 r4 => ⟨α4, C4, ρ4, e13.trans' c0 c3 e4, c4, r4, WpS.start c3 c4 e4 w3⟩
      | bk => exact w3
      | rt d => exact w3
  · rintro σ H ⟨α, C, ρ, e1, c1, r1, w1⟩
    rw [List.drop_length] at w1
    exact (Src.chk_ok _ w1 fun z => z).2.nx c1 r1

/-! ### while -/
def whD (p : BX) (b : SX) : Nat → SX
  | 0, _, _ => .bad
  | n + 1, ρ, C => sE (p ρ) ρ (fun t C1 => if t = true then (match b ρ C1 with
    | .ok .nx ρ2 C2 => whD p b n ρ2 C2
    | .ok .ct ρ2 C2 => whD p b n ρ2 C2
    | .ok .bk ρ2 C2 => .ok .nx ρ2 C2
    | .ok (.rt d) ρ2 C2 => .ok (.rt d) ρ2 C2
    | .err e ρ2 C2 => .err e ρ2 C2
    | .bad => .bad) else .ok .nx ρ C1) C
theorem ds_while {body : List Stmt} {p : BX} {b : SX} (n : Nat) (hp : PassesOwn (model X.prog X.w) X.A X.env X.xe) (hc : DT X W e p) (hb : DSs X W body b) : DS X W (.While e body [] pos) (whD p b n) := psImp (ps_while hp hc hb) fun E σ H ⟨α, C, ρ, c, r, h⟩ => by
  refine ⟨fun m σ H => ∃ α C ρ, CR X.K α H C ∧ SR X.K α σ H ρ ∧ WpS X W α H E (whD p b m ρ C), ⟨n, α, C, ρ, c, r, h⟩, ?_⟩
  rintro m σ H ⟨α, C, ρ, c, r, h⟩
  cases m with
  | zero => exact h.elim
  | succ m =>
    refine ⟨α, C, ρ, c, r, (WpS.sE c r h).mono fun α1 H1 C1 t e1 c1 h1 => ?_⟩
    cases t with
    | false =>
      rw [if_neg Bool.false_ne_true] at h1 ⊢
      exact h1.nx c1 (r.ext c e1)
    | true =>
      rw [if_pos rfl] at h1 ⊢
      refine ⟨fun σ H => ∃ α C ρ, CR X.K α H C ∧ SR X.K α σ H ρ ∧ WpS X W α H E (whD p b m ρ C), fun σ' H' q => ⟨m, Nat.lt_succ_self m, q⟩, α1, C1, ρ, c1, r.ext c e1, ?_⟩
      cases hb1 : b ρ C1 with
      | bad => rw [hb1] at h1; exact h1
      | err er ρ4 C4 => rw [hb1] at h1; exact h1
      | ok fl ρ4 C4 =>
        rw [hb1] at h1
        cases fl with
        | nx => exact fun α4 H4 σ4 e4 c4 r4 => ⟨α4, C4, ρ4, c4, r4, WpS.start c1 c4 e4 h1⟩
        | ct => exact fun α4 H4 σ4 e4 c4 r4 => ⟨α4, C4, ρ4, c4, r4, WpS.start c1 c4 e4 h1⟩
        | bk => exact h1
        | rt d => exact h1
end

/-! ### defs -/
def spD (K : PySem.W.Frag) (mg : Str → Option Value) (n : Nat) (g : List D → Mo D) : Sp := fun vs H Q E => ∃ α C ds, CR K α H C ∧ VRs K α H vs ds ∧ ds.length = n ∧
  WpO K mg α H (fun α' H' _ x => ∀ v, VR K α' H' v x → Q v H') E (g ds C)
/-- a def by its body: n parameters, m slots -/
def fnD (m : Nat) (b : SX) (ds : List D) : Mo D := fun C => match b (ds.map some ++ List.replicate (m - ds.length) none) C with
  | .ok (.rt d) _ C' => .ok (d, C')
  | .ok .nx _ C' => .ok (.non, C')
  | .err e _ C' => .err e C'
  | _ => .bad
section
variable {P : Program} {w : World} {K : PySem.W.Frag} {mg : Str → Option Value} {base : Heap}
theorem start_SR {α : Al} {H : Hp} {N : List Str} {vs : List V} {ds : List D} (r : VRs K α H vs ds) : SR K α (L2.start N vs) H (ds.map some ++ List.replicate (N.length - ds.length) none) := by
  have hl := r.length
  refine ⟨by simp [L2.start, hl], fun i x e => ?_⟩
  unfold L2.start
  by_cases hi : i < ds.length
  · rw [List.getElem?_append_left (by simpa using hi), List.getElem?_map] at e
    cases h1 : ds[i]? with
    | none => rw [h1] at e; cases e
    | some d =>
      rw [h1] at e
      cases e
      obtain ⟨v, hv, rv⟩ := r.getD h1
      refine ⟨v, ?_, rv⟩
      rw [List.getElem?_append_left (by simp; omega), List.getElem?_map, hv]
      rfl
  · rw [List.getElem?_append_right (by simpa using hi), List.getElem?_replicate] at e
    split at e <;> cases e
/-- THE RULE for a def -/
theorem fn_ok {x qual : Str} {st : Stmt} {f : Addr} {fd : FuncData} {N ps : List Str} {k n : Nat} (b : SX) (F : Fun K x qual st f fd) (S : FnScope N ps (defScope st)) (hn : ps.length = n)
    (hb : ∀ (cdv : Value) (A : Around) (outer : List Env) (s : Shared) (H : Hp) (E : XK), Room k (A.deeper (envOfC qual (defScope st) s.heap.objs.size f cdv)) →
      DSs (cxOf (L2.CX P w) P w K mg base N qual (defScope st) f cdv A outer s H E) (fun c d _ H => E c d H) (defBody st) b) : FnOk P w K mg base (L2.CX P w) (k + 1) f fd ps (spD K mg n (fnD N.length b)) := by
  subst hn
  refine F.okX S (fun vs H Q E h => ?_) (fun cdv A outer s H vs Q E hr h => ⟨_, hb cdv A outer s H E hr, ?_⟩)
  · obtain ⟨α, C, ds, c, r, hl, _⟩ := h
    exact r.length.trans hl
  · obtain ⟨α, C, ds, c, r, hl, h⟩ := h
    refine ⟨α, C, _, c, start_SR r, ?_⟩
    unfold fnD at h
    cases ho : b (ds.map some ++ List.replicate (N.length - ds.length) none) C with
    | ok fl ρ' C' =>
      rw [ho] at h
      cases fl with
      | nx => exact fun α' H' σ' e' c' r' => h α' H' e' c' .non .non
      | rt d => exact fun α' H' σ' e' c' r' v rv => h α' H' e' c' v rv
      | bk => exact h.elim
      | ct => exact h.elim
    | err er ρ' C' =>
      rw [ho] at h
      exact fun cls d α' H' σ' e' c' r' q => h cls d α' H' e' c' q
    | bad => rw [ho] at h; exact h
/-- a promise for no arguments at all -/
theorem fn_bad {x qual : Str} {st : Stmt} {f : Addr} {fd : FuncData} {ps : List Str} {k n : Nat} : FnOk P w K mg base (L2.CX P w) k f fd ps (spD K mg n fun _ => bad) :=
  ⟨fun _ _ _ _ ⟨_, _, _, _, _, _, h⟩ => h.elim, fun _ _ _ _ _ _ _ _ _ _ _ _ _ ⟨_, _, _, _, _, _, h⟩ => h.elim⟩
/-- the same def, another function of the data that is at most as much defined -/
theorem fn_imp {f : Addr} {fd : FuncData} {ps : List Str} {k n : Nat} {g g' : List D → Mo D} (F : FnOk P w K mg base (L2.CX P w) k f fd ps (spD K mg n g)) (h : ∀ ds C, ds.length = n → g' ds C ≠ .bad → g ds C = g' ds C) : FnOk P w K mg base (L2.CX P w) k f fd ps (spD K mg n g') :=
  F.imp fun vs H Q E ⟨α, C, ds, c, r, hl, q⟩ => ⟨α, C, ds, c, r, hl, by
    rw [h ds C hl fun z => by rw [z] at q; exact q]
    exact q⟩
end

/-! ### calls of defs -/
/-- what leaves a callee is taken here -/
def Tk (X : Cx) (W : WX) : Prop := ∀ σ, PassesAt (L2.CX X.prog X.w) X σ (WE W σ)
theorem tk_of {X : Cx} {W : WX} (t : Takes X W) : Tk X W := fun σ => passAt t σ
abbrev W0 : WX := fun _ _ _ _ => False
theorem tk0 {X : Cx} : Tk X W0 := fun σ pins H s e s' I h => by
  obtain ⟨_, _, _, _, _, _, _, _, _, _, _, _, z⟩ := h
  exact z.elim
def xCall (n : Nat) (g : List D → Mo D) (fa : AX) : EX := fun ρ => bnd (fa ρ) fun ds => if ds.length = n then g ds else bad
section
variable {X : Cx} {W : WX} {k n : Nat} {f : Addr} {fd : FuncData} {ps : List Str} {g : List D → Mo D} {x : Str} {p pos : Pos} {e : Expr} {es : List Expr} {fa : AX} {σ : St} {H : Hp} {Q : VK}
theorem tD_call (h : tD X W (xCall n g fa) σ H Q) : tDA X W fa σ H fun vs H1 => spD X.K X.mg n g vs H1 Q (WE W σ) := by
  obtain ⟨α, C, ρ, c, r, h⟩ := h
  refine ⟨α, C, ρ, c, r, (WpO.bnd c h).mono fun α1 H1 C1 ds e1 c1 h1 vs rv => ?_⟩
  by_cases hl : ds.length = n
  · rw [if_pos hl] at h1
    exact ⟨α1, C1, ds, c1, rv, hl, h1⟩
  · rw [if_neg hl] at h1
    exact h1.elim
theorem de_call (F : FnOk X.prog X.w X.K X.mg X.base (L2.CX X.prog X.w) k f fd ps (spD X.K X.mg n g)) (hr : Room k X.A) (hm : X.mg x = some (.ref f)) (hk : PySem.W.keepIn X.K (.ref f) = true) (hb : Binds X.K fd ps []) (tk : Tk X W)
    (ha : DA X W (e :: es) fa) (hg : Gl X x := by rfl) (hdb : (x == ("__debug__" : Str)) = false := by decide) (he : starEach (e :: es) X.env = (false, eval e X.env) :: starEach es X.env := by rfl) (hpl : (backTo pos (starEach es X.env)).any (·.1) = false := by rfl) :
    DE X W (.Call (.Name x p) (e :: es) [] pos) (xCall n g fa) := peImp (pe_callS F hr hg hm hk hb tk ha hdb he hpl) fun σ H Q h => tD_call h
end
end DL

/-! DL4: the operations on data. -/
namespace DL
open PySem L2
/-! ### equality -/
mutual
def toPy : D → PyData
  | .non => .none
  | .bl b => .bool b
  | .int i => .int i
  | .str x => .str x
  | .tup ds => .tuple (toPys ds)
  | .lst ds => .list (toPys ds)
  | _ => .dict []
def toPys : List D → List PyData
  | [] => []
  | d :: ds => toPy d :: toPys ds
end
mutual
/-- data that == goes over: no dict, no cell within, not deep -/
def okD : Nat → D → Bool
  | _, .non => true
  | _, .bl _ => true
  | _, .int _ => true
  | _, .str x => PyData.canLay0 (.str x)
  | n + 1, .tup ds => okL n ds
  | n + 1, .lst ds => okL n ds
  | _, _ => false
def okL : Nat → List D → Bool
  | _, [] => true
  | n, d :: ds => okD n d && okL n ds
end
def eqD (x y : D) : Bool := PyData.eqv (toPy x) (toPy y)
def eqL (xs ys : List D) : Bool := PyData.eqvAll (toPys xs) (toPys ys)
mutual
theorem okD_lay : ∀ (n : Nat) (d : D), okD n d = true → (toPy d).canLay0 = true ∧ (toPy d).depth ≤ n
  | _, .non, _ => ⟨rfl, Nat.zero_le _⟩
  | _, .bl _, _ => ⟨rfl, Nat.zero_le _⟩
  | _, .int _, _ => ⟨rfl, Nat.zero_le _⟩
  | n, .str x, h => ⟨by cases n <;> exact h, Nat.zero_le _⟩
  | n + 1, .tup ds, h => by
    obtain ⟨a, b⟩ := okL_lay n ds h
    exact ⟨a, Nat.succ_le_succ b⟩
  | n + 1, .lst ds, h => by
    obtain ⟨a, b⟩ := okL_lay n ds h
    exact ⟨a, Nat.succ_le_succ b⟩
  | 0, .tup ds, h => by cases h
  | 0, .lst ds, h => by cases h
  | n, .dct _ _, h => by cases n <;> cases h
  | n, .hnd _, h => by cases n <;> cases h
  | n, .ref _, h => by cases n <;> cases h
  | n, .fn _, h => by cases n <;> cases h
  | n, .ty _, h => by cases n <;> cases h
  | n, .scr _, h => by cases n <;> cases h
  | n, .ktp _, h => by cases n <;> cases h
theorem okL_lay : ∀ (n : Nat) (ds : List D), okL n ds = true → PyData.canLayAll0 (toPys ds) = true ∧ PyData.depthAll (toPys ds) ≤ n
  | _, [], _ => ⟨rfl, Nat.zero_le _⟩
  | n, d :: ds, h => by
    have h' := Bool.and_eq_true_iff.mp (show (okD n d && okL n ds) = true from h)
    obtain ⟨a, b⟩ := okD_lay n d h'.1
    obtain ⟨a', b'⟩ := okL_lay n ds h'.2
    exact ⟨by show ((toPy d).canLay0 && PyData.canLayAll0 (toPys ds)) = true; rw [a, a']; rfl, Nat.max_le.mpr ⟨b, b'⟩⟩
end
section
variable {K : PySem.W.Frag} {α : Al} {H : Hp} {C : Cells}
mutual
theorem VR.dp : ∀ {n : Nat} {v : V} {d : D}, VR K α H v d → okD n d = true → Dp K H v (toPy d)
  | _, _, _, .non, _ => .non
  | _, _, _, .bl b, _ => .bl b
  | _, _, _, .int i, _ => .int i
  | _, _, _, .str x, _ => .str x
  | n + 1, _, _, .tup h _ r, ok => .tup (SqT.of h) (VRs.dp (n := n) r ok)
  | n + 1, _, _, .lst h _ _ r, ok => .lst (SqL.of h) (VRs.dp (n := n) r ok)
  | 0, _, _, .tup h _ r, ok => by cases ok
  | 0, _, _, .lst h _ _ r, ok => by cases ok
  | n, _, _, .dctK _ _ _ _, ok => by cases n <;> cases ok
  | n, _, _, .dctT _ _ _ _, ok => by cases n <;> cases ok
  | n, _, _, .hnd _, ok => by cases n <;> cases ok
  | n, _, _, .ref _, ok => by cases n <;> cases ok
  | n, _, _, .fn _, ok => by cases n <;> cases ok
  | n, _, _, .ty _, ok => by cases n <;> cases ok
  | n, _, _, .scr _ _ _, ok => by cases n <;> cases ok
  | n, _, _, .ktp _ _ _, ok => by cases n <;> cases ok
theorem VRs.dp : ∀ {n : Nat} {vs : List V} {ds : List D}, VRs K α H vs ds → okL n ds = true → DpAll K H vs (toPys ds)
  | _, _, _, .nil, _ => .nil
  | n, _, d :: ds, .cons h t, ok => .cons (VR.dp h (Bool.and_eq_true_iff.mp (show (okD n d && okL n ds) = true from ok)).1) (VRs.dp t (Bool.and_eq_true_iff.mp (show (okD n d && okL n ds) = true from ok)).2)
end
/-- a cell's content, else the thing itself -/
def look (C : Cells) : D → D
  | .hnd k => match C[k]? with
    | some (.lst ds) => .lst ds
    | some (.dct ks vs) => .dct ks vs
    | none => .hnd k
  | d => d
/-- a list, be it a cell -/
theorem VR.asL {v : V} {d : D} {ds : List D} (c : CR K α H C) (r : VR K α H v d) (h : look C d = .lst ds) : ∃ a xs, v = .ref a ∧ H a = some (.lst xs) ∧ xs.length ≤ sizeLine ∧ VRs K α H xs ds := by
  cases r with
  | @lst a xs ds' h1 n z r => cases h; exact ⟨a, xs, rfl, h1, z, r⟩
  | @hnd k a hk =>
    unfold look at h
    cases hc : C[k]? with
    | none => simp only [hc] at h; cases h
    | some cl =>
      cases cl with
      | dct _ _ => simp only [hc] at h; cases h
      | lst ds' =>
        obtain ⟨xs, e1, z, r⟩ := c.at_ k _ _ hk hc
        simp only [hc] at h
        cases h
        exact ⟨a, xs, rfl, e1, z, r⟩
  | _ => cases h
theorem VR.asT {v : V} {d : D} {ds : List D} (c : CR K α H C) (r : VR K α H v d) (h : look C d = .tup ds) : ∃ a xs, v = .ref a ∧ H a = some (.tup xs) ∧ xs.length ≤ sizeLine ∧ VRs K α H xs ds := by
  cases r with
  | @tup a xs ds' h1 z r => cases h; exact ⟨a, xs, rfl, h1, z, r⟩
  | @hnd k a hk =>
    unfold look at h
    cases hc : C[k]? with
    | none => simp only [hc] at h; cases h
    | some cl => cases cl <;> (simp only [hc] at h; cases h)
  | _ => cases h
theorem VR.asI {v : V} {d : D} {i : Int} (r : VR K α H v d) (h : look C d = .int i) : v = .int i := by
  cases r with
  | int j => cases h; rfl
  | @hnd k a hk =>
    unfold look at h
    cases hc : C[k]? with
    | none => simp only [hc] at h; cases h
    | some cl => cases cl <;> (simp only [hc] at h; cases h)
  | _ => cases h
theorem VR.asS {v : V} {d : D} {x : Str} (r : VR K α H v d) (h : look C d = .str x) : v = .str x := by
  cases r with
  | str j => cases h; rfl
  | @hnd k a hk =>
    unfold look at h
    cases hc : C[k]? with
    | none => simp only [hc] at h; cases h
    | some cl => cases cl <;> (simp only [hc] at h; cases h)
  | _ => cases h
theorem VR.asB {v : V} {d : D} {b : Bool} (r : VR K α H v d) (h : look C d = .bl b) : v = .bl b := by
  cases r with
  | bl j => cases h; rfl
  | @hnd k a hk =>
    unfold look at h
    cases hc : C[k]? with
    | none => simp only [hc] at h; cases h
    | some cl => cases cl <;> (simp only [hc] at h; cases h)
  | _ => cases h
theorem VR.asDp {v : V} {d : D} {n : Nat} (c : CR K α H C) (r : VR K α H v d) (h : okD n (look C d) = true) : Dp K H v (toPy (look C d)) := by
  cases r with
  | @hnd k a hk =>
    unfold look at h ⊢
    cases hc : C[k]? with
    | none => simp only [hc] at h; cases n <;> cases h
    | some cl =>
      cases cl with
      | dct _ _ => simp only [hc] at h; cases n <;> cases h
      | lst ds' =>
        obtain ⟨xs, e1, z, r⟩ := c.at_ k _ _ hk hc
        simp only [hc] at h ⊢
        cases n with
        | zero => cases h
        | succ n => exact .lst (SqL.of e1) (r.dp (n := n) h)
  | non => exact .non
  | bl b => exact .bl b
  | int b => exact .int b
  | str b => exact .str b
  | tup a b c => exact VR.dp (n := n) (.tup a b c) h
  | lst a b c d => exact VR.dp (n := n) (.lst a b c d) h
  | dctK a b c d => cases n <;> cases h
  | dctT a b c d => cases n <;> cases h
  | ref a => cases n <;> cases h
  | fn a => cases n <;> cases h
  | ty a => cases n <;> cases h
  | scr a b c => cases n <;> cases h
  | ktp a b c => cases n <;> cases h
end
def okQ (d : D) : Bool := okD 60 d
def oEq : Op2 := fun C x y => if okQ (look C x) && okQ (look C y) then some (.bl (eqD (look C x) (look C y))) else none
def oNe : Op2 := fun C x y => if okQ (look C x) && okQ (look C y) then some (.bl (!eqD (look C x) (look C y))) else none
theorem shaped_of {d : D} (h : okQ d = true) : SeqAt.shaped (toPy d) = true := by
  obtain ⟨a, b⟩ := okD_lay 60 d h
  show ((toPy d).canLay0 && decide ((toPy d).depth ≤ 64)) = true
  rw [a, decide_eq_true (Nat.le_trans b (by decide))]
  rfl
section
variable {X : Cx}
theorem r_eq (hu : X.A.units + 64 < cLine) : OpR X (compareOp .Eq) (rD2 X.K oEq) := opImp (op_eqD hu) fun x y H Q ⟨α, C, dx, dy, dz, c, rx, ry, h, ans⟩ => by
  unfold oEq at h
  split at h
  · rename_i hk
    obtain ⟨h1, h2⟩ := Bool.and_eq_true_iff.mp hk
    cases h
    exact ⟨_, _, rx.asDp c h1, ry.asDp c h2, shaped_of h1, shaped_of h2, ans.here c (.bl _)⟩
  · cases h
theorem r_ne (hu : X.A.units + 64 < cLine) : OpR X (compareOp .NotEq) (rD2 X.K oNe) := opImp (op_neD hu) fun x y H Q ⟨α, C, dx, dy, dz, c, rx, ry, h, ans⟩ => by
  unfold oNe at h
  split at h
  · rename_i hk
    obtain ⟨h1, h2⟩ := Bool.and_eq_true_iff.mp hk
    cases h
    exact ⟨_, _, rx.asDp c h1, ry.asDp c h2, shaped_of h1, shaped_of h2, ans.here c (.bl _)⟩
  · cases h

/-! ### numbers -/
def oI2 (p : Int → Int → Option D) : Op2 := fun _ x y => match x, y with
  | .int i, .int j => p i j
  | _, _ => none
theorem oI2_some {p : Int → Int → Option D} {C : Cells} {x y z : D} (h : oI2 p C x y = some z) : ∃ i j, x = .int i ∧ y = .int j ∧ p i j = some z := by
  unfold oI2 at h
  split at h
  · exact ⟨_, _, rfl, rfl, h⟩
  · cases h
theorem VR.intInv {K : PySem.W.Frag} {α : Al} {H : Hp} {v : V} {i : Int} (r : VR K α H v (.int i)) : v = .int i := by cases r; rfl
theorem rI0_of {f : Value → Value → Sem Value} {g : Int → Int → V} {p : Int → Int → Option D} (h : OpR X f (rI0 g)) (hp : ∀ i j z, p i j = some z → (∃ k, g i j = .int k ∧ z = .int k) ∨ (∃ k, g i j = .bl k ∧ z = .bl k)) : OpR X f (rD2 X.K (oI2 p)) :=
  opImp h fun x y H Q ⟨α, C, dx, dy, dz, c, rx, ry, h, ans⟩ => by
    obtain ⟨i, j, rfl, rfl, h⟩ := oI2_some h
    refine ⟨i, j, rx.intInv, ry.intInv, ?_⟩
    rcases hp i j dz h with ⟨k, e1, e2⟩ | ⟨k, e1, e2⟩
    · rw [e1]; subst e2; exact ans.here c (.int k)
    · rw [e1]; subst e2; exact ans.here c (.bl k)
theorem rI_of {f : Value → Value → Sem Value} {g : Int → Int → V} {CC : Int → Int → Prop} {p : Int → Int → Option D} (h : OpR X f (rI CC g)) (hp : ∀ i j z, p i j = some z → CC i j ∧ ∃ k, g i j = .int k ∧ z = .int k) : OpR X f (rD2 X.K (oI2 p)) :=
  opImp h fun x y H Q ⟨α, C, dx, dy, dz, c, rx, ry, h, ans⟩ => by
    obtain ⟨i, j, rfl, rfl, h⟩ := oI2_some h
    obtain ⟨hc, k, e1, e2⟩ := hp i j dz h
    refine ⟨i, j, rx.intInv, ry.intInv, hc, ?_⟩
    rw [e1]; subst e2; exact ans.here c (.int k)
def oLt : Op2 := oI2 fun i j => some (.bl (decide (i < j)))
def oLe : Op2 := oI2 fun i j => some (.bl (decide (i ≤ j)))
def oGt : Op2 := oI2 fun i j => some (.bl (decide (j < i)))
def oGe : Op2 := oI2 fun i j => some (.bl (decide (j ≤ i)))
theorem r_lt : OpR X (compareOp .Lt) (rD2 X.K oLt) := rI0_of op_lt fun i j z h => .inr ⟨_, rfl, (Option.some.inj h).symm⟩
theorem r_le : OpR X (compareOp .LtE) (rD2 X.K oLe) := rI0_of op_le fun i j z h => .inr ⟨_, rfl, (Option.some.inj h).symm⟩
theorem r_gt : OpR X (compareOp .Gt) (rD2 X.K oGt) := rI0_of op_gt fun i j z h => .inr ⟨_, rfl, (Option.some.inj h).symm⟩
theorem r_ge : OpR X (compareOp .GtE) (rD2 X.K oGe) := rI0_of op_ge fun i j z h => .inr ⟨_, rfl, (Option.some.inj h).symm⟩
def oSub : Op2 := oI2 fun i j => some (.int (i - j))
theorem r_sub : OpR X (binaryOp .Sub) (rD2 X.K oSub) := rI0_of op_sub fun i j z h => .inl ⟨_, rfl, (Option.some.inj h).symm⟩
instance (i j : Int) : Decidable (CMul i j) := by unfold CMul; infer_instance
instance (i j : Int) : Decidable (CPow i j) := by unfold CPow; infer_instance
def oMod : Op2 := oI2 fun i j => if 0 < j then some (.int (i % j)) else none
theorem r_mod : OpR X (binaryOp .Mod) (rD2 X.K oMod) := rI_of op_mod fun i j z h => by
  by_cases hc : 0 < j
  · rw [if_pos hc] at h; exact ⟨hc, _, rfl, (Option.some.inj h).symm⟩
  · rw [if_neg hc] at h; cases h
def oFdv : Op2 := oI2 fun i j => if 0 < j ∧ j < 1073741824 then some (.int (i / j)) else none
theorem r_fdv : OpR X (binaryOp .FloorDiv) (rD2 X.K oFdv) := rI_of op_fdiv fun i j z h => by
  by_cases hc : 0 < j ∧ j < 1073741824
  · rw [if_pos hc] at h; exact ⟨hc, _, rfl, (Option.some.inj h).symm⟩
  · rw [if_neg hc] at h; cases h
def oPow : Op2 := oI2 fun i j => if CPow i j then some (.int (i ^ j.toNat)) else none
theorem r_pow : OpR X (binaryOp .Pow) (rD2 X.K oPow) := rI_of op_pow fun i j z h => by
  by_cases hc : CPow i j
  · rw [if_pos hc] at h; exact ⟨hc, _, rfl, (Option.some.inj h).symm⟩
  · rw [if_neg hc] at h; cases h
def oNeg : Op1 := fun _ x => match x with
  | .int i => some (.int (-i))
  | _ => none
theorem r_neg : UnR X (unaryOp .USub) (rD1 X.K oNeg) := unImp un_neg fun x H Q ⟨α, C, dx, dz, c, rx, h, ans⟩ => by
  cases dx with
  | int i => cases h; exact ⟨i, rx.intInv, ans.here c (.int _)⟩
  | _ => cases h

/-! ### +, * : numbers, texts, lists, tuples -/
def oAdd : Op2 := fun C x y => match look C x, look C y with
  | .int i, .int j => some (.int (i + j))
  | .str a, .str b => if a.length + b.length ≤ sizeLine then some (.str (a ++ b)) else none
  | .tup a, .tup b => if a.length + b.length ≤ sizeLine then some (.tup (a ++ b)) else none
  | .lst a, .lst b => if a.length + b.length ≤ sizeLine then some (.lst (a ++ b)) else none
  | _, _ => none
theorem vrNew {K : PySem.W.Frag} {α : Al} {H : Hp} {C : Cells} (c : CR K α H C) {p : Addr} {xs : List V} {ds : List D} (hp : H p = none) (hl : xs.length ≤ sizeLine) (r : VRs K α H xs ds) : VR K α (upd H p (.lst xs)) (.ref p) (.lst ds) :=
  .lst upd_same (c.notin_of_none hp) hl (r.ext c (Ext.new c hp))
theorem vrNewT {K : PySem.W.Frag} {α : Al} {H : Hp} {C : Cells} (c : CR K α H C) {p : Addr} {xs : List V} {ds : List D} (hp : H p = none) (hl : xs.length ≤ sizeLine) (r : VRs K α H xs ds) : VR K α (upd H p (.tup xs)) (.ref p) (.tup ds) :=
  .tup upd_same hl (r.ext c (Ext.new c hp))
theorem r_add : OpR X (binaryOp .Add) (rD2 X.K oAdd) := by
  refine opImp ((op_add (X := X)).or (op_add_str.or (op_catA.or op_cat))) fun x y H Q ⟨α, C, dx, dy, dz, c, rx, ry, h, ans⟩ => ?_
  unfold oAdd at h
  split at h
  · rename_i i j h1 h2
    cases h
    exact .inl ⟨i, j, rx.asI h1, ry.asI h2, ans.here c (.int _)⟩
  · rename_i a b h1 h2
    split at h
    · rename_i hl
      cases h
      exact .inr (.inl ⟨a, b, rx.asS h1, ry.asS h2, hl, ans.here c (.str _)⟩)
    · cases h
  · rename_i as bs h1 h2
    split at h
    · rename_i hl
      cases h
      obtain ⟨a, xs, rfl, ha, za, ra⟩ := rx.asT c h1
      obtain ⟨b, ys, rfl, hb, zb, rb⟩ := ry.asT c h2
      have l1 := ra.length
      have l2 := rb.length
      refine .inr (.inr (.inl ⟨a, b, xs, ys, rfl, rfl, SqT.of ha, SqT.of hb, by omega, fun e => ?_, fun e e' => ?_, fun e e' p hp => ?_⟩))
      · subst e
        cases ra
        exact ans.here c (.tup hb zb rb)
      · subst e'
        cases rb
        rw [List.append_nil] at ans
        exact ans.here c (.tup ha za ra)
      · exact ans.new c hp (vrNewT c hp (by rw [List.length_append]; omega) (ra.append rb))
    · cases h
  · rename_i as bs h1 h2
    split at h
    · rename_i hl
      cases h
      obtain ⟨a, xs, rfl, ha, za, ra⟩ := rx.asL c h1
      obtain ⟨b, ys, rfl, hb, zb, rb⟩ := ry.asL c h2
      have l1 := ra.length
      have l2 := rb.length
      exact .inr (.inr (.inr ⟨_, _, xs, ys, rfl, rfl, ha, hb, by omega, fun p hp => ans.new c hp (vrNew c hp (by rw [List.length_append]; omega) (ra.append rb))⟩))
    · cases h
  · cases h
end
end DL

/-! DL5: places, slices, built-ins, displays, methods, what is walked, comprehensions. -/
namespace DL
open PySem L2
section
variable {X : Cx} {W : WX} {a b c e : Expr} {es : List Expr} {f g : EX} {fa : AX} {pos : Pos} {σ : St} {H : Hp} {Q : VK}
/-! ### * -/
def oMul : Op2 := fun C x y => match look C x, look C y with
  | .int i, .int j => if CMul i j then some (.int (i * j)) else none
  | .lst a, .int k => if 0 ≤ k ∧ k < 1000 ∧ a.length * k.toNat ≤ sizeLine then some (.lst (List.replicate k.toNat a).flatten) else none
  | _, _ => none
theorem VRs.rep {K : PySem.W.Frag} {α : Al} {H : Hp} {xs : List V} {ds : List D} (r : VRs K α H xs ds) : ∀ k : Nat, VRs K α H (List.replicate k xs).flatten (List.replicate k ds).flatten
  | 0 => .nil
  | k + 1 => by
    rw [List.replicate_succ, List.replicate_succ, List.flatten_cons, List.flatten_cons]
    exact r.append (VRs.rep r k)
theorem r_mul : OpR X (binaryOp .Mult) (rD2 X.K oMul) := by
  refine opImp ((op_mul (X := X)).or op_rep) fun x y H Q ⟨α, C, dx, dy, dz, c, rx, ry, h, ans⟩ => ?_
  unfold oMul at h
  split at h
  · rename_i i j h1 h2
    split at h
    · rename_i hl
      cases h
      exact .inl ⟨i, j, rx.asI h1, ry.asI h2, hl, ans.here c (.int _)⟩
    · cases h
  · rename_i as k h1 h2
    split at h
    · rename_i hl
      cases h
      obtain ⟨a, xs, rfl, ha, za, ra⟩ := rx.asL c h1
      have l1 := ra.length
      refine .inr ⟨a, k, xs, rfl, ry.asI h2, ha, by omega, by omega, by rw [l1]; exact hl.2.2, fun p hp => ans.new c hp (vrNew c hp ?_ (ra.rep _))⟩
      rw [List.length_flatten, List.map_replicate, List.sum_replicate_nat, l1, Nat.mul_comm]
      exact hl.2.2
    · cases h
  · cases h

/-! ### o[i] -/
/-- what has items: the script, a list, a tuple -/
def seqOf : D → Option (List D)
  | .tup ds => some ds
  | .lst ds => some ds
  | .scr ds => some ds
  | _ => none
def oIx : Op2 := fun C x y => match y with
  | .int i => match look C x with
    | .tup ds => atI ds i
    | .lst ds => atI ds i
    | .scr ds => atI ds i
    | .ktp ds => atI ds i
    | .str s => if s.length ≤ sizeLine then (atI s.cps.toList i).map fun c => .str ⟨#[c]⟩ else none
    | _ => none
  | _ => none
theorem VRs.atI {K : PySem.W.Frag} {α : Al} {H : Hp} {xs : List V} {ds : List D} (r : VRs K α H xs ds) {i : Int} {d : D} (h : L2.atI ds i = some d) : ∃ v, L2.atI xs i = some v ∧ VR K α H v d := by
  unfold L2.atI at h ⊢
  rw [r.length]
  cases hn : ixN ds.length i with
  | none => rw [hn] at h; cases h
  | some j =>
    rw [hn] at h
    exact r.getD h
theorem VR.asScr {K : PySem.W.Frag} {α : Al} {C : Cells} {v : V} {d : D} {ds : List D} (r : VR K α H v d) (h : look C d = .scr ds) : ∃ a xs, v = .ref a ∧ SqL K H a xs ∧ xs.length ≤ sizeLine ∧ VRs K α H xs ds := by
  cases r with
  | @scr a xs ds' h1 z r => cases h; exact ⟨a, xs, rfl, h1.sq, z, r⟩
  | @hnd k a hk =>
    unfold look at h
    cases hc : C[k]? with
    | none => simp only [hc] at h; cases h
    | some cl => cases cl <;> (simp only [hc] at h; cases h)
  | _ => cases h
theorem VR.asK {K : PySem.W.Frag} {α : Al} {C : Cells} {v : V} {d : D} {ds : List D} (r : VR K α H v d) (h : look C d = .ktp ds) : ∃ a xs, v = .ref a ∧ SqT K H a xs ∧ xs.length ≤ sizeLine ∧ VRs K α H xs ds := by
  cases r with
  | @ktp a xs ds' h1 z r => cases h; exact ⟨a, xs, rfl, h1, z, r⟩
  | @hnd k a hk =>
    unfold look at h
    cases hc : C[k]? with
    | none => simp only [hc] at h; cases h
    | some cl => cases cl <;> (simp only [hc] at h; cases h)
  | _ => cases h
theorem r_ix : IxR X (rD2 X.K oIx) := ixImp (ix_list.or (ix_tup.or ix_str)) fun x y H Q ⟨α, C, dx, dy, dz, c, rx, ry, h, ans⟩ => by
  unfold oIx at h
  cases dy with
  | int i =>
    have ey := ry.intInv
    subst ey
    dsimp only at h
    split at h
    · rename_i ds hl
      obtain ⟨a, xs, rfl, ha, za, ra⟩ := rx.asT c hl
      obtain ⟨v, hv, rv⟩ := ra.atI h
      exact .inr (.inl ⟨a, xs, i, v, rfl, rfl, SqT.of ha, hv, ans.here c rv⟩)
    · rename_i ds hl
      obtain ⟨a, xs, rfl, ha, za, ra⟩ := rx.asL c hl
      obtain ⟨v, hv, rv⟩ := ra.atI h
      exact .inl ⟨a, xs, i, v, rfl, rfl, SqL.of ha, hv, ans.here c rv⟩
    · rename_i ds hl
      obtain ⟨a, xs, rfl, ha, za, ra⟩ := rx.asScr hl
      obtain ⟨v, hv, rv⟩ := ra.atI h
      exact .inl ⟨a, xs, i, v, rfl, rfl, ha, hv, ans.here c rv⟩
    · rename_i ds hl
      obtain ⟨a, xs, rfl, ha, za, ra⟩ := rx.asK hl
      obtain ⟨v, hv, rv⟩ := ra.atI h
      exact .inr (.inl ⟨a, xs, i, v, rfl, rfl, ha, hv, ans.here c rv⟩)
    · rename_i s hl
      split at h
      · rename_i hz
        obtain ⟨ch, h1, h2⟩ := Option.map_eq_some_iff.mp h
        subst h2
        exact .inr (.inr ⟨s, i, ch, rx.asS hl, rfl, hz, h1, ans.here c (.str _)⟩)
      · cases h
    · cases h
  | _ => cases h

/-! ### o[i:j] -/
def cutL {β : Type} (xs : List β) (lo hi : Option Int) : List β := (xs.drop (HT.sIx xs.length 0 lo)).take (HT.sIx xs.length xs.length hi - HT.sIx xs.length 0 lo)
theorem VRs.cut {K : PySem.W.Frag} {α : Al} {H : Hp} {xs : List V} {ds : List D} (r : VRs K α H xs ds) (lo hi : Option Int) : VRs K α H (cutV xs lo hi) (cutL ds lo hi) := by
  unfold cutV cutL
  rw [r.length]
  exact (r.drop _).take _
abbrev OX := Ro → Mo (Option Int)
def tDO (X : Cx) (W : WX) (f : OX) : TO := fun σ H Q => ∃ α C ρ, CR X.K α H C ∧ SR X.K α σ H ρ ∧
  WpO X.K X.mg α H (fun α' H' _ x => Q x H') (fun c d H' => W c d σ H') (f ρ C)
abbrev DO (X : Cx) (W : WX) (e : Option Expr) (f : OX) : Prop := PO X e (tDO X W f)
theorem poImp {e : Option Expr} {t t' : TO} (h : PO X e t) (i : ∀ σ H Q, t' σ H Q → t σ H Q) : PO X e t' := ⟨fun pins s σ H Q I q => h.run pins s σ H Q I (i σ H Q q)⟩
def oN : OX := fun _ => ret none
def oS (f : EX) : OX := fun ρ => bnd (f ρ) fun x => lft fun _ => match x with
  | .int i => some (some i)
  | _ => none
theorem do_none : DO X W none oN := poImp po_none fun σ H Q ⟨α, C, ρ, c, r, h⟩ => WpO.ret c h
theorem do_some (h : DE X W e f) : DO X W (some e) (oS f) := poImp (po_some h) fun σ H Q ⟨α, C, ρ, c, r, h⟩ => by
  refine ⟨α, C, ρ, c, r, (WpO.bnd c h).mono fun α1 H1 C1 x e1 c1 h1 v rv => ?_⟩
  obtain ⟨z, hz, q⟩ := h1.lft
  cases x with
  | int i => cases hz; exact ⟨i, rv.intInv, q α1 H1 (Ext.refl _ _) c1⟩
  | _ => cases hz
def sl (C : Cells) (x : D) (lo hi : Option Int) : Option D := match look C x with
  | .tup ds => some (.tup (cutL ds lo hi))
  | .lst ds => some (.lst (cutL ds lo hi))
  | .scr ds => some (.lst (cutL ds lo hi))
  | _ => none
def xSl (f : EX) (lo hi : OX) : EX := fun ρ => bnd (f ρ) fun x => bnd (lo ρ) fun l => bnd (hi ρ) fun u => lft fun C => sl C x l u
theorem cutV_len (xs : List V) (lo hi : Option Int) (h : xs.length ≤ sizeLine) : (cutV xs lo hi).length ≤ sizeLine := Nat.le_trans (cutV_length xs lo hi) h
theorem cut_whole {β : Type} (xs : List β) (lo hi : Option Int) (h : HT.sIx xs.length 0 lo = 0 ∧ HT.sIx xs.length xs.length hi = xs.length) : cutL xs lo hi = xs := by
  unfold cutL
  rw [h.1, h.2]
  simp
theorem de_sl {lo hi : Option Expr} {fl fh : OX} {p2 : Pos} (he : DE X W e f) (hl : DO X W lo fl) (hh : DO X W hi fh) : DE X W (.Subscript e (.Slice lo hi none p2) pos) (xSl f fl fh) :=
  peImp (pe_slice (sl_tupA.or sl_list) he hl hh) fun σ H Q ⟨α, C, ρ, c, r, h⟩ => by
  refine ⟨α, C, ρ, c, r, (WpO.bnd c h).mono fun α1 H1 C1 x e1 c1 h1 v rv => ?_⟩
  refine ⟨α1, C1, ρ, c1, r.ext c e1, (WpO.bnd c1 h1).mono fun α2 H2 C2 l e2 c2 h2 => ?_⟩
  refine ⟨α2, C2, ρ, c2, (r.ext c e1).ext c1 e2, (WpO.bnd c2 h2).mono fun α3 H3 C3 u e3 c3 h3 => ?_⟩
  obtain ⟨z, hz, q⟩ := h3.lft
  have ans : Ans X.K α3 H3 C3 Q z := q
  have rv3 := (rv.ext c1 e2).ext c2 e3
  unfold sl at hz
  split at hz
  · rename_i ds hl
    cases hz
    obtain ⟨a, xs, rfl, ha, za, ra⟩ := rv3.asT c3 hl
    refine .inl ⟨a, xs, rfl, SqT.of ha, fun hw => ?_, fun hw p hp => ans.new c3 hp (vrNewT c3 hp (cutV_len _ _ _ za) (ra.cut l u))⟩
    rw [ra.length] at hw
    rw [cut_whole _ _ _ hw] at ans
    exact ans.here c3 (.tup ha za ra)
  · rename_i ds hl
    cases hz
    obtain ⟨a, xs, rfl, ha, za, ra⟩ := rv3.asL c3 hl
    exact .inr ⟨a, xs, rfl, SqL.of ha, fun p hp => ans.new c3 hp (vrNew c3 hp (cutV_len _ _ _ za) (ra.cut l u))⟩
  · rename_i ds hl
    cases hz
    obtain ⟨a, xs, rfl, ha, za, ra⟩ := rv3.asScr hl
    exact .inr ⟨a, xs, rfl, ha, fun p hp => ans.new c3 hp (vrNew c3 hp (cutV_len _ _ _ za) (ra.cut l u))⟩
  · cases hz

/-! ### displays -/
theorem de_tup {x1 : Nat} (h : DA X W es fa) (hl : ∀ ρ C xs C', fa ρ C = .ok (xs, C') → xs.length ≤ sizeLine) : DE X W (.Tuple es x1 pos) (xN (fun _ xs => some (.tup xs)) fa) := peImp (pe_tup h) fun σ H Q h => by
  obtain ⟨α, C, ρ, c, r, h⟩ := h
  have h0 := WpO.bnd c h
  refine ⟨α, C, ρ, c, r, ?_⟩
  cases hf : fa ρ C with
  | bad => rw [hf] at h0; exact h0
  | err er C1 => rw [hf] at h0; exact h0
  | ok p =>
    obtain ⟨xs, C1⟩ := p
    rw [hf] at h0
    intro α1 H1 e1 c1 vs rv
    obtain ⟨z, hz, q⟩ := (h0 α1 H1 e1 c1).lft
    cases hz
    have hlen : vs.length ≤ sizeLine := by rw [rv.length]; exact hl ρ C xs C1 hf
    exact ⟨hlen, fun p hp => Ans.new (C := C1) q c1 hp (vrNewT c1 hp hlen rv)⟩
theorem de_lst (h : DA X W es fa) (hl : ∀ ρ C xs C', fa ρ C = .ok (xs, C') → xs.length ≤ sizeLine) : DE X W (.List es pos) (xN (fun _ xs => some (.lst xs)) fa) := peImp (pe_lst h) fun σ H Q h => by
  obtain ⟨α, C, ρ, c, r, h⟩ := h
  have h0 := WpO.bnd c h
  refine ⟨α, C, ρ, c, r, ?_⟩
  cases hf : fa ρ C with
  | bad => rw [hf] at h0; exact h0
  | err er C1 => rw [hf] at h0; exact h0
  | ok p =>
    obtain ⟨xs, C1⟩ := p
    rw [hf] at h0
    intro α1 H1 e1 c1 vs rv
    obtain ⟨z, hz, q⟩ := (h0 α1 H1 e1 c1).lft
    cases hz
    have hlen : vs.length ≤ sizeLine := by rw [rv.length]; exact hl ρ C xs C1 hf
    exact ⟨hlen, fun p hp => Ans.new (C := C1) q c1 hp (vrNew c1 hp hlen rv)⟩
/-- a display that makes a cell -/
def xCell (fa : AX) : EX := fun ρ => bnd (fa ρ) fun xs C => .ok (.hnd C.length, C ++ [.lst xs])
theorem de_cell (h : DA X W es fa) (hl : ∀ ρ C xs C', fa ρ C = .ok (xs, C') → xs.length ≤ sizeLine) : DE X W (.List es pos) (xCell fa) := peImp (pe_lst h) fun σ H Q h => by
  obtain ⟨α, C, ρ, c, r, h⟩ := h
  have h0 := WpO.bnd c h
  refine ⟨α, C, ρ, c, r, ?_⟩
  cases hf : fa ρ C with
  | bad => rw [hf] at h0; exact h0
  | err er C1 => rw [hf] at h0; exact h0
  | ok p =>
    obtain ⟨xs, C1⟩ := p
    rw [hf] at h0
    intro α1 H1 e1 c1 vs rv
    have q := h0 α1 H1 e1 c1
    have hlen : vs.length ≤ sizeLine := by rw [rv.length]; exact hl ρ C xs C1 hf
    refine ⟨hlen, fun p hp => ?_⟩
    have ex := Ext.newCell (o := .lst vs) c1 hp
    have cn : CR X.K (α1.push p) (upd H1 p (.lst vs)) (C1 ++ [.lst xs]) := c1.newCell hp ⟨vs, upd_same, hlen, rv.ext c1 ex⟩
    exact q (α1.push p) _ ex cn (.ref p) (.hnd (by rw [← c1.len]; simp))
/-- an argument list of a known length -/
def lenA : List Expr → Nat := List.length
theorem aNil_len {ρ : Ro} {C C' : Cells} {xs : List D} (h : aNil ρ C = .ok (xs, C')) : xs.length = 0 := by cases h; rfl
theorem aCons_len {f : EX} {fa : AX} {n : Nat} (ih : ∀ ρ C xs C', fa ρ C = .ok (xs, C') → xs.length = n) {ρ : Ro} {C C' : Cells} {xs : List D} (h : aCons f fa ρ C = .ok (xs, C')) : xs.length = n + 1 := by
  unfold aCons bnd at h
  cases h1 : f ρ C with
  | ok p =>
    obtain ⟨x, C1⟩ := p
    rw [h1] at h
    dsimp only at h
    cases h2 : fa ρ C1 with
    | ok p2 =>
      obtain ⟨ys, C2⟩ := p2
      rw [h2] at h
      cases h
      rw [List.length_cons, ih _ _ _ _ h2]
    | err _ _ => rw [h2] at h; cases h
    | bad => rw [h2] at h; cases h
  | err _ _ => rw [h1] at h; cases h
  | bad => rw [h1] at h; cases h

/-! ### built-ins -/
def oLen : OpN := fun C xs => match xs with
  | [x] => match look C x with
    | .tup ds => some (.int ds.length)
    | .lst ds => some (.int ds.length)
    | .scr ds => some (.int ds.length)
    | .ktp ds => some (.int ds.length)
    | .str s => if s.length ≤ sizeLine then some (.int s.length) else none
    | _ => none
  | _ => none
theorem vrs1 {K : PySem.W.Frag} {α : Al} {H : Hp} {xs : List V} {d : D} (r : VRs K α H xs [d]) : ∃ v, xs = [v] ∧ VR K α H v d := by
  cases r with
  | cons h t => cases t; exact ⟨_, rfl, h⟩
theorem vrs2 {K : PySem.W.Frag} {α : Al} {H : Hp} {xs : List V} {d d' : D} (r : VRs K α H xs [d, d']) : ∃ v v', xs = [v, v'] ∧ VR K α H v d ∧ VR K α H v' d' := by
  cases r with
  | cons h t =>
    obtain ⟨v', rfl, h'⟩ := vrs1 t
    exact ⟨_, _, rfl, h, h'⟩
theorem c_len : CallR X (.builtin "len") (rDN X.K oLen) := callImp (call_len_seq.or call_len_str) fun xs H Q ⟨α, C, ds, dz, c, r, h, ans⟩ => by
  unfold oLen at h
  split at h
  · rename_i x
    obtain ⟨v, rfl, rv⟩ := vrs1 r
    split at h
    · rename_i ds hl
      cases h
      obtain ⟨a, xs, rfl, ha, za, ra⟩ := rv.asT c hl
      rw [← ra.length] at ans
      exact .inl ⟨a, xs, rfl, .inr (SqT.of ha), ans.here c (.int _)⟩
    · rename_i ds hl
      cases h
      obtain ⟨a, xs, rfl, ha, za, ra⟩ := rv.asL c hl
      rw [← ra.length] at ans
      exact .inl ⟨a, xs, rfl, .inl (SqL.of ha), ans.here c (.int _)⟩
    · rename_i ds hl
      cases h
      obtain ⟨a, xs, rfl, ha, za, ra⟩ := rv.asScr hl
      rw [← ra.length] at ans
      exact .inl ⟨a, xs, rfl, .inl ha, ans.here c (.int _)⟩
    · rename_i ds hl
      cases h
      obtain ⟨a, xs, rfl, ha, za, ra⟩ := rv.asK hl
      rw [← ra.length] at ans
      exact .inl ⟨a, xs, rfl, .inr ha, ans.here c (.int _)⟩
    · rename_i s hl
      split at h
      · rename_i hz
        cases h
        exact .inr ⟨s, by rw [rv.asS hl], hz, ans.here c (.int _)⟩
      · cases h
    · cases h
  · cases h
def oInt : OpN := fun _ xs => match xs with
  | [.int i] => some (.int i)
  | [.bl k] => some (.int (if k then 1 else 0))
  | _ => none
theorem VR.blInv' {K : PySem.W.Frag} {α : Al} {H : Hp} {v : V} {k : Bool} (r : VR K α H v (.bl k)) : v = .bl k := by cases r; rfl
theorem c_int : CallR X (.type "int") (rDN X.K oInt) := callImp call_int1 fun xs H Q ⟨α, C, ds, dz, c, r, h, ans⟩ => by
  unfold oInt at h
  split at h
  · rename_i i
    cases h
    obtain ⟨v, rfl, rv⟩ := vrs1 r
    exact .inl ⟨i, by rw [rv.intInv], ans.here c (.int _)⟩
  · rename_i k
    cases h
    obtain ⟨v, rfl, rv⟩ := vrs1 r
    exact .inr ⟨k, by rw [rv.blInv], ans.here c (.int _)⟩
  · cases h
def oAbs : OpN := fun _ xs => match xs with
  | [.int i] => some (.int (if i < 0 then -i else i))
  | _ => none
theorem c_abs : CallR X (.builtin "abs") (rDN X.K oAbs) := callImp call_abs fun xs H Q ⟨α, C, ds, dz, c, r, h, ans⟩ => by
  unfold oAbs at h
  split at h
  · rename_i i
    cases h
    obtain ⟨v, rfl, rv⟩ := vrs1 r
    exact ⟨i, by rw [rv.intInv], ans.here c (.int _)⟩
  · cases h
def oMax2 : OpN := fun _ xs => match xs with
  | [.int i, .int j] => some (.int (if j > i then j else i))
  | _ => none
def oMin2 : OpN := fun _ xs => match xs with
  | [.int i, .int j] => some (.int (if j < i then j else i))
  | _ => none
theorem c_max2 (hc : X.calm = true) : CallR X (.builtin "max") (rDN X.K oMax2) := callImp (call_max2 hc) fun xs H Q ⟨α, C, ds, dz, c, r, h, ans⟩ => by
  unfold oMax2 at h
  split at h
  · rename_i i j
    cases h
    obtain ⟨v, v', rfl, rv, rv'⟩ := vrs2 r
    exact ⟨i, j, by rw [rv.intInv, rv'.intInv], ans.here c (.int _)⟩
  · cases h
theorem c_min2 (hc : X.calm = true) : CallR X (.builtin "min") (rDN X.K oMin2) := callImp (call_min2 hc) fun xs H Q ⟨α, C, ds, dz, c, r, h, ans⟩ => by
  unfold oMin2 at h
  split at h
  · rename_i i j
    cases h
    obtain ⟨v, v', rfl, rv, rv'⟩ := vrs2 r
    exact ⟨i, j, by rw [rv.intInv, rv'.intInv], ans.here c (.int _)⟩
  · cases h
def oStrI : OpN := fun _ xs => match xs with
  | [.int i] => if i.natAbs.log2 < 1920 then some (.str (Str.ofString (toString i))) else none
  | _ => none
theorem c_strI : CallR X (.type "str") (rDN X.K oStrI) := callImp call_str_int fun xs H Q ⟨α, C, ds, dz, c, r, h, ans⟩ => by
  unfold oStrI at h
  split at h
  · rename_i i
    split at h
    · rename_i hl
      cases h
      obtain ⟨v, rfl, rv⟩ := vrs1 r
      exact ⟨i, by rw [rv.intInv], hl, ans.here c (.str _)⟩
    · cases h
  · cases h
def oDivm : OpN := fun _ xs => match xs with
  | [.int i, .int j] => if 0 < j ∧ j < 1073741824 then some (.tup [.int (i / j), .int (i % j)]) else none
  | _ => none
theorem c_divm : CallR X (.builtin "divmod") (rDN X.K oDivm) := callImp call_divmod fun xs H Q ⟨α, C, ds, dz, c, r, h, ans⟩ => by
  unfold oDivm at h
  split at h
  · rename_i i j
    split at h
    · rename_i hl
      cases h
      obtain ⟨v, v', rfl, rv, rv'⟩ := vrs2 r
      exact ⟨i, j, by rw [rv.intInv, rv'.intInv], hl, fun p hp => ans.new c hp (vrNewT c hp (by show 2 ≤ sizeLine; decide) (.cons (.int _) (.cons (.int _) .nil)))⟩
    · cases h
  · cases h
/-- list(xs), tuple(xs) of what has items -/
def oList : OpN := fun C xs => match xs with
  | [x] => (seqOf (look C x)).map .lst
  | _ => none
def oTuple : OpN := fun C xs => match xs with
  | [x] => (seqOf (look C x)).map .tup
  | _ => none
theorem VR.asSeq {K : PySem.W.Frag} {α : Al} {C : Cells} {v : V} {d : D} {ds : List D} (c : CR K α H C) (r : VR K α H v d) (h : seqOf (look C d) = some ds) :
    ∃ a xs, v = .ref a ∧ ((SqL K H a xs ∧ ∀ es, look C d ≠ .tup es) ∨ (H a = some (.tup xs) ∧ look C d = .tup ds)) ∧ xs.length ≤ sizeLine ∧ VRs K α H xs ds := by
  cases hl : look C d with
  | tup es =>
    rw [hl] at h
    cases h
    obtain ⟨a, xs, e, ha, z, ra⟩ := r.asT c hl
    exact ⟨a, xs, e, .inr ⟨ha, rfl⟩, z, ra⟩
  | lst es =>
    rw [hl] at h
    cases h
    obtain ⟨a, xs, e, ha, z, ra⟩ := r.asL c hl
    exact ⟨a, xs, e, .inl ⟨SqL.of ha, fun _ z => by cases z⟩, z, ra⟩
  | scr es =>
    rw [hl] at h
    cases h
    obtain ⟨a, xs, e, ha, z, ra⟩ := r.asScr hl
    exact ⟨a, xs, e, .inl ⟨ha, fun _ z => by cases z⟩, z, ra⟩
  | _ => rw [hl] at h; cases h
theorem c_list : CallR X (.type "list") (rDN X.K oList) := callImp call_list_of fun xs H Q ⟨α, C, ds, dz, c, r, h, ans⟩ => by
  unfold oList at h
  split at h
  · rename_i x
    obtain ⟨v, rfl, rv⟩ := vrs1 r
    obtain ⟨ds, h1, h2⟩ := Option.map_eq_some_iff.mp h
    subst h2
    obtain ⟨a, xs, rfl, ha, z, ra⟩ := rv.asSeq c h1
    refine ⟨a, xs, rfl, ?_, fun p hp => ans.new c hp (vrNew c hp z ra)⟩
    rcases ha with ha | ha
    · exact .inl ha.1
    · exact .inr (SqT.of ha.1)
  · cases h
theorem c_tuple : CallR X (.type "tuple") (rDN X.K oTuple) := callImp call_tuple_of fun xs H Q ⟨α, C, ds, dz, c, r, h, ans⟩ => by
  unfold oTuple at h
  split at h
  · rename_i x
    obtain ⟨v, rfl, rv⟩ := vrs1 r
    obtain ⟨ds, h1, h2⟩ := Option.map_eq_some_iff.mp h
    subst h2
    obtain ⟨a, xs, rfl, ha, z, ra⟩ := rv.asSeq c h1
    refine ⟨a, xs, rfl, ?_⟩
    rcases ha with ha | ha
    · exact .inl ⟨ha.1, fun p hp => ans.new c hp (vrNewT c hp z ra)⟩
    · exact .inr ⟨SqT.of ha.1, ans.here c (.tup ha.1 z ra)⟩
  · cases h
/-- isinstance -/
def tyN (C : Cells) : D → Option String
  | .non => some "NoneType"
  | .bl _ => some "bool"
  | .int _ => some "int"
  | .str _ => some "str"
  | .tup _ => some "tuple"
  | .lst _ => some "list"
  | .scr _ => some "list"
  | .ktp _ => some "tuple"
  | .dct _ _ => some "dict"
  | .hnd k => match C[k]? with
    | some (.lst _) => some "list"
    | some (.dct _ _) => some "dict"
    | none => none
  | _ => none
inductive Kn : String → Prop where
  | n1 : Kn "int" | n2 : Kn "bool" | n3 : Kn "str" | n4 : Kn "tuple" | n5 : Kn "list" | n6 : Kn "dict"
theorem kit_ok (K : PySem.W.Frag) {t n : String} (ht : t = "NoneType" ∨ Kn t) (hn : Kn n) : PySem.W.kitOne K (.type t) (.type n) = some (t == n || (t == "bool" && n == "int")) := by
  rcases ht with rfl | ht
  · cases hn <;> rfl
  · cases ht <;> cases hn <;> rfl
theorem tyN_ok {K : PySem.W.Frag} {α : Al} {C : Cells} {v : V} {d : D} {t : String} (c : CR K α H C) (r : VR K α H v d) (h : tyN C d = some t) : TyX K H v (.type t) ∧ (t = "NoneType" ∨ Kn t) := by
  cases r with
  | non => cases h; exact ⟨.base .non, .inl rfl⟩
  | bl b => cases h; exact ⟨.base (.bl b), .inr .n2⟩
  | int b => cases h; exact ⟨.base (.int b), .inr .n1⟩
  | str b => cases h; exact ⟨.base (.str b), .inr .n3⟩
  | tup h1 z r => cases h; exact ⟨.base (.tup h1), .inr .n4⟩
  | ktp h1 z r =>
    cases h
    refine ⟨?_, .inr .n4⟩
    rcases h1 with (h1 | ⟨o, h1⟩) | ⟨o, its, n, h1, h2, _⟩
    · exact .base (.tup h1)
    · exact .fTuple h1
    · exact .kTuple h1 h2
  | lst h1 n z r => cases h; exact ⟨.base (.lst h1), .inr .n5⟩
  | scr h1 z r =>
    cases h
    rcases h1 with ⟨o, h1⟩ | ⟨o, its, n, h1, h2, _⟩
    · exact ⟨.base (.frz h1), .inr .n5⟩
    · exact ⟨.kList h1 h2, .inr .n5⟩
  | dctK h1 _ _ _ => cases h; exact ⟨.base (.dK h1), .inr .n6⟩
  | dctT h1 _ _ _ => cases h; exact ⟨.base (.dT h1), .inr .n6⟩
  | @hnd k a hk =>
    unfold tyN at h
    cases hc : C[k]? with
    | none => simp only [hc] at h; cases h
    | some cl =>
      cases cl with
      | lst ds =>
        obtain ⟨xs, e1, _⟩ := c.at_ k _ _ hk hc
        simp only [hc] at h
        cases h
        exact ⟨.base (.lst e1), .inr .n5⟩
      | dct ks vs =>
        simp only [hc] at h
        cases h
        rcases c.at_ k _ _ hk hc with ⟨kvs, e1, _⟩ | ⟨kvs, e1, _⟩
        · exact ⟨.base (.dK e1), .inr .n6⟩
        · exact ⟨.base (.dT e1), .inr .n6⟩
  | ref a => cases h
  | fn a => cases h
  | ty a => cases h
def oIsi (n : String) : OpN := fun C xs => match xs with
  | [x, .ty m] => if m = n then (tyN C x).map fun t => .bl (t == n || (t == "bool" && n == "int")) else none
  | _ => none
theorem c_isi {n : String} (hn : Kn n) : CallR X (.builtin "isinstance") (rDN X.K (oIsi n)) := callImp call_isi fun xs H Q ⟨α, C, ds, dz, c, r, h, ans⟩ => by
  unfold oIsi at h
  split at h
  · rename_i x m
    split at h
    · rename_i hm
      subst hm
      obtain ⟨t, h1, h2⟩ := Option.map_eq_some_iff.mp h
      subst h2
      obtain ⟨v, v', rfl, rv, rv'⟩ := vrs2 r
      obtain ⟨ty, ht⟩ := tyN_ok c rv h1
      cases rv'
      exact ⟨v, _, .type t, .type m, _, rfl, .ty m, ty, kit_ok X.K ht hn, ans.here c (.bl _)⟩
    · cases h
  · cases h

/-! ### is, in -/
def oIsN : Op2 := fun _ x y => match y with
  | .non => match x with
    | .non => some (.bl true)
    | _ => some (.bl false)
  | _ => none
def oNotN : Op2 := fun _ x y => match y with
  | .non => match x with
    | .non => some (.bl false)
    | _ => some (.bl true)
  | _ => none
theorem r_isN : OpR X (compareOp .Is) (rD2 X.K oIsN) := opImp op_isN fun x y H Q ⟨α, C, dx, dy, dz, c, rx, ry, h, ans⟩ => by
  cases dy with
  | non =>
    cases ry
    refine ⟨rfl, ans.here c ?_⟩
    cases rx <;> (cases h; exact .bl _)
  | _ => cases h
theorem r_notN : OpR X (compareOp .IsNot) (rD2 X.K oNotN) := opImp op_notN fun x y H Q ⟨α, C, dx, dy, dz, c, rx, ry, h, ans⟩ => by
  cases dy with
  | non =>
    cases ry
    refine ⟨rfl, ans.here c ?_⟩
    cases rx <;> (cases h; exact .bl _)
  | _ => cases h
def oIsB : Op2 := fun _ x y => match x, y with
  | .bl a, .bl b => some (.bl (decide (a = b)))
  | _, _ => none
def oNotB : Op2 := fun _ x y => match x, y with
  | .bl a, .bl b => some (.bl (!decide (a = b)))
  | _, _ => none
theorem r_isB : OpR X (compareOp .Is) (rD2 X.K oIsB) := opImp op_isBl fun x y H Q ⟨α, C, dx, dy, dz, c, rx, ry, h, ans⟩ => by
  unfold oIsB at h
  split at h
  · cases h; exact ⟨_, _, rx.blInv, ry.blInv, ans.here c (.bl _)⟩
  · cases h
theorem r_notB : OpR X (compareOp .IsNot) (rD2 X.K oNotB) := opImp op_notBl fun x y H Q ⟨α, C, dx, dy, dz, c, rx, ry, h, ans⟩ => by
  unfold oNotB at h
  split at h
  · cases h; exact ⟨_, _, rx.blInv, ry.blInv, ans.here c (.bl _)⟩
  · cases h
end
end DL

/-! DL6: in, append, o[i] = e, what is walked, comprehensions, keyword calls. -/
namespace DL
open PySem L2
section
variable {X : Cx} {W : WX} {a b c e : Expr} {es : List Expr} {f g : EX} {fa : AX} {pos : Pos} {σ : St} {H : Hp} {Q : VK}
/-! ### in -/
def flatD : D → Bool
  | .non => true | .bl _ => true | .int _ => true | .str _ => true | _ => false
theorem flat_ok {K : PySem.W.Frag} {α : Al} {v : V} {d : D} (r : VR K α H v d) (h : flatD d = true) : flatV v = true := by
  cases r <;> first | rfl | cases h
theorem flat_eq {K : PySem.W.Frag} {α : Al} {v v' : V} {d d' : D} (r : VR K α H v d) (r' : VR K α H v' d') (h : flatD d = true) (h' : flatD d' = true) : eqV v v' = eqD d d' := by
  cases r <;> first | (cases r' <;> first | rfl | cases h') | cases h
theorem flats_ok {K : PySem.W.Frag} {α : Al} : ∀ {vs : List V} {ds : List D}, VRs K α H vs ds → ds.all flatD = true → vs.all flatV = true
  | _, _, .nil, _ => rfl
  | _, _, .cons h t, q => by
    simp only [List.all_cons, Bool.and_eq_true] at q ⊢
    exact ⟨flat_ok h q.1, flats_ok t q.2⟩
theorem flats_in {K : PySem.W.Frag} {α : Al} {x : V} {dx : D} (rx : VR K α H x dx) (hx : flatD dx = true) : ∀ {vs : List V} {ds : List D}, VRs K α H vs ds → ds.all flatD = true → inV x vs = ds.any fun d => eqD d dx
  | _, _, .nil, _ => rfl
  | _, _, .cons h t, q => by
    simp only [List.all_cons, Bool.and_eq_true] at q
    have ih := flats_in rx hx t q.2
    unfold inV at ih ⊢
    rw [List.any_cons, List.any_cons, ih, flat_eq h rx q.1 hx]
theorem any_py (dx : D) : ∀ ds : List D, ((toPys ds).any fun z => PyData.eqv z (toPy dx)) = ds.any fun d => eqD d dx
  | [] => rfl
  | d :: ds => by
    show (PyData.eqv (toPy d) (toPy dx) || (toPys ds).any fun z => PyData.eqv z (toPy dx)) = _
    rw [any_py dx ds]
    rfl
def isLst : D → Bool
  | .lst _ => true
  | _ => false
def inD (neg : Bool) : Op2 := fun C x y => match seqOf (look C y) with
  | some ds => if flatD x && ds.all flatD || (isLst (look C y) && okQ (look C x) && okQ (look C y)) then some (.bl (if neg then !(ds.any fun d => eqD d (look C x)) else ds.any fun d => eqD d (look C x))) else none
  | none => none
theorem look_flat {C : Cells} {x : D} (h : flatD x = true) : look C x = x := by cases x <;> first | rfl | cases h
theorem in_ok {neg : Bool} {α : Al} {C : Cells} {x y : V} {dx dy dz : D} (c : CR X.K α H C) (rx : VR X.K α H x dx) (ry : VR X.K α H y dy) (h : inD neg C dx dy = some dz) (ans : Ans X.K α H C Q dz) :
    rIn X.K neg x y H Q ∨ ∃ d ds, Dp X.K H x d ∧ Dp X.K H y (.list ds) ∧ SeqAt.shaped d = true ∧ SeqAt.shaped (.list ds) = true ∧ Q (.bl (if neg then !(ds.any fun z => PyData.eqv z d) else ds.any fun z => PyData.eqv z d)) H := by
  unfold inD at h
  split at h
  · rename_i ds hs
    split at h
    · rename_i hc
      cases h
      rcases Bool.or_eq_true_iff.mp hc with hc | hc
      · obtain ⟨h1, h2⟩ := Bool.and_eq_true_iff.mp hc
        obtain ⟨a, xs, rfl, ha, z, ra⟩ := ry.asSeq c hs
        rw [look_flat h1] at ans
        refine .inl ⟨a, xs, rfl, ?_, flat_ok rx h1, flats_ok ra h2, ?_⟩
        · rcases ha with ha | ha
          · exact .inl ha.1
          · exact .inr (SqT.of ha.1)
        · rw [flats_in rx h1 ra h2]
          exact ans.here c (.bl _)
      · obtain ⟨h1, h2⟩ := Bool.and_eq_true_iff.mp hc
        obtain ⟨h0, h1⟩ := Bool.and_eq_true_iff.mp h1
        have d1 := rx.asDp c h1
        have d2 := ry.asDp c h2
        cases hl : look C dy with
        | lst es =>
          rw [hl] at hs h2 d2
          cases hs
          refine .inr ⟨_, toPys _, d1, d2, shaped_of h1, shaped_of h2, ?_⟩
          rw [any_py]
          exact ans.here c (.bl _)
        | _ => rw [hl] at h0; cases h0
    · cases h
  · cases h
theorem r_in (hu : X.A.units + 65 < cLine) : OpR X (compareOp .In) (rD2 X.K (inD false)) := opImp (op_in_seq.or (op_inD hu)) fun x y H Q ⟨α, C, dx, dy, dz, c, rx, ry, h, ans⟩ => in_ok c rx ry h ans
theorem r_notIn (hu : X.A.units + 65 < cLine) : OpR X (compareOp .NotIn) (rD2 X.K (inD true)) := opImp (op_notIn_seq.or (op_notInD hu)) fun x y H Q ⟨α, C, dx, dy, dz, c, rx, ry, h, ans⟩ => in_ok c rx ry h ans

/-! ### append -/
def chkL (o : D) : Mo Unit := fun C => match o with
  | .hnd k => match C[k]? with
    | some (.lst _) => .ok ((), C)
    | _ => .bad
  | _ => .bad
def appD (o y : D) : Mo D := fun C => match o with
  | .hnd k => match C[k]? with
    | some (.lst ds) => if ds.length < sizeLine then .ok (.non, C.set k (.lst (ds ++ [y]))) else .bad
    | _ => .bad
  | _ => .bad
def app1 (o : D) : List D → Mo D
  | [y] => appD o y
  | _ => bad
def xApp (f : EX) (fa : AX) : EX := fun ρ => bnd (f ρ) fun o => bnd (chkL o) fun _ => bnd (fa ρ) (app1 o)
theorem hnd_lst {K : PySem.W.Frag} {α : Al} {C : Cells} {v : V} {k : Nat} {ds : List D} (c : CR K α H C) (r : VR K α H v (.hnd k)) (hc : C[k]? = some (.lst ds)) : ∃ p xs, v = .ref p ∧ α.cs[k]? = some p ∧ H p = some (.lst xs) ∧ xs.length ≤ sizeLine ∧ VRs K α H xs ds := by
  cases r with
  | @hnd k p hk =>
    obtain ⟨xs, e1, z, r⟩ := c.at_ k _ _ hk hc
    exact ⟨p, xs, rfl, hk, e1, z, r⟩
theorem de_app {apos cpos : Pos} (ho : DE X W a f) (hy : DA X W [e] fa) (hbase : attributeBase a "append" X.env (eval a X.env) = eval a X.env := by rfl)
    (hfew : ((backTo cpos (starEach [e] X.env)).all (fun x => !x.1) && (backToKw cpos (keywordEach [] X.env)).all (fun x => x.1.isSome)
      && decide ([e].length + ([] : List Keyword).length + (if ([] : List Keyword).isEmpty then 0 else 1) < 30)) = true := by rfl)
    (hline : (apos.endLine == cpos.line) = true := by rfl) (hs : starEach [e] X.env = (false, eval e X.env) :: starEach [] X.env := by rfl) (hplain : (backTo cpos (starEach [] X.env)).any (·.1) = false := by rfl) :
    DE X W (.Call (.Attribute a "append" apos) [e] [] cpos) (xApp f fa) :=
  peImp (pe_bm PySem.F.plainAttrs_list PySem.F.slot_list_append PySem.F.type_list_append mt_append ho hy hbase hfew hline hs hplain) fun σ H Q ⟨α, C, ρ, c, r, h⟩ => by
  refine ⟨α, C, ρ, c, r, (WpO.bnd c h).mono fun α1 H1 C1 o e1 c1 h1 v rv => ?_⟩
  have h1' := WpO.bnd c1 h1
  cases o with
  | hnd k =>
    cases hc : C1[k]? with
    | none => simp only [chkL, hc] at h1'; exact h1'.elim
    | some cl =>
      cases cl with
      | dct _ _ => simp only [chkL, hc] at h1'; exact h1'.elim
      | lst ds =>
        simp only [chkL, hc] at h1'
        obtain ⟨p, xs, rfl, hp, hx, hz, rx⟩ := hnd_lst c1 rv hc
        refine ⟨.inl ⟨rfl, _, SqL.of hx⟩, ?_⟩
        have h2 := h1' α1 H1 (Ext.refl _ _) c1
        refine ⟨α1, C1, ρ, c1, r.ext c e1, (WpO.bnd c1 h2).mono fun α2 H2 C2 ys e2 c2 h4 vs rvs => ?_⟩
        cases rvs with
        | nil => exact h4.elim
        | @cons w ws y ys rw' rt =>
          cases rt with
          | cons _ _ => exact h4.elim
          | nil =>
            have h4 : WpO X.K X.mg α2 H2 _ _ (appD (.hnd k) y C2) := h4
            unfold appD at h4
            dsimp only at h4
            cases hc2 : C2[k]? with
            | none => simp only [hc2] at h4; exact h4.elim
            | some cl =>
              cases cl with
              | dct _ _ => simp only [hc2] at h4; exact h4.elim
              | lst ds2 =>
                simp only [hc2] at h4
                by_cases hlen : ds2.length < sizeLine
                · rw [if_pos hlen] at h4
                  obtain ⟨p2, xs2, ep, hp2, hx2, hz2, rx2⟩ := hnd_lst c2 (rv.ext c1 e2) hc2
                  cases ep
                  have l2 := rx2.length
                  have hl' : (xs2 ++ [w]).length ≤ sizeLine := by rw [List.length_append, l2]; exact hlen
                  have ex := Ext.write (o := .lst (xs2 ++ [w])) c2 hp2
                  have rall := (rx2.append (.cons rw' .nil)).ext c2 ex
                  refine ⟨p, xs2, w, rfl, rfl, hx2, by rw [l2]; exact hlen, ?_⟩
                  exact h4 α2 _ ex (c2.write hp2 ⟨_, upd_same, hl', rall⟩) .non .non
                · rw [if_neg hlen] at h4
                  exact h4.elim
  | _ => exact h1'.elim

/-! ### o[i] = e -/
/-- no error -/
def nb {α : Type} (m : Mo α) : Mo α := fun C => match m C with
  | .err _ _ => .bad
  | o => o
theorem WpO.nb {K : PySem.W.Frag} {mg : Str → Option Value} {α : Al} {C : Cells} {β : Type} {m : Mo β} {Q : Al → Hp → Cells → β → Prop} {E E' : XK} (h : WpO K mg α H Q E (nb m C)) : WpO K mg α H Q E' (m C) := by
  unfold DL.nb at h
  cases hm : m C with
  | ok p => rw [hm] at h; exact h
  | err er C' => rw [hm] at h; exact h.elim
  | bad => rw [hm] at h; exact h.elim
def setD (o i y : D) : Mo Unit := fun C => match o, i with
  | .hnd k, .int j => match C[k]? with
    | some (.lst ds) => match ixN ds.length j with
      | some m => .ok ((), C.set k (.lst (ds.set m y)))
      | none => .bad
    | _ => .bad
  | _, _ => .bad
def gSubD (fo fi : EX) : TX := fun d ρ => bnd (nb (fo ρ)) fun o => bnd (nb (fi ρ)) fun i => bnd (setD o i d) fun _ => ret ρ
theorem nb_ne {α : Type} {m : Mo α} {C C' : Cells} {er : Er} : nb m C ≠ .err er C' := by
  unfold nb
  cases m C <;> simp
theorem bnd_ne {β γ : Type} {m : Mo β} {k : β → Mo γ} (a : ∀ C er C', m C ≠ .err er C') (b : ∀ x C er C', k x C ≠ .err er C') : ∀ C er C', bnd m k C ≠ .err er C' := fun C er C' h => by
  unfold bnd at h
  cases hm : m C with
  | ok p => rw [hm] at h; exact b _ _ _ _ h
  | err e1 C1 => exact a _ _ _ hm
  | bad => rw [hm] at h; cases h
theorem ne_sub {fo fi : EX} : NoErr (gSubD fo fi) := fun d ρ C er C' => bnd_ne (fun _ _ _ => nb_ne) (fun o C er C' => bnd_ne (fun _ _ _ => nb_ne) (fun i C er C' => bnd_ne (fun C er C' h => by
    unfold setD at h
    split at h
    · split at h
      · split at h <;> cases h
      · cases h
    · cases h) (fun _ _ _ _ h => by cases h) C er C') C er C') C er C'
theorem dg_sub {fo fi : EX} (ho : DE X W0 a fo) (hi : DE X W0 b fi)
    (ha : ∀ v, assign (.Subscript a b pos) X.env v = (do
      let ov ← holding [v] (eval a X.env)
      let iv ← holding [v, ov] (eval b X.env)
      standAt pos
      holding [v, ov, iv] (setItem ov iv v)
      release [v, ov, iv] []) := by intro _; rfl) : DG X (.Subscript a b pos) [] (gSubD fo fi) := pgImp (pg_sub ho hi set_list ha) fun v σ H Q ⟨α, C, ρ, d, c, r, rv, h⟩ => by
  refine ⟨α, C, ρ, c, r, (WpO.nb (WpO.bnd c h)).mono fun α1 H1 C1 o e1 c1 h1 vo ro => ?_⟩
  refine ⟨α1, C1, ρ, c1, r.ext c e1, (WpO.nb (WpO.bnd c1 h1)).mono fun α2 H2 C2 i e2 c2 h2 vi ri => ?_⟩
  have h3 := WpO.bnd c2 h2
  unfold setD at h3
  split at h3
  · rename_i k j
    split at h3
    · rename_i ds hc
      split at h3
      · rename_i m hm
        obtain ⟨p, xs, rfl, hp, hx, hz, rx⟩ := hnd_lst c2 (ro.ext c1 e2) hc
        have l := rx.length
        have ex := Ext.write (o := .lst (xs.set m v)) c2 hp
        have rall := (rx.set ((rv.ext c e1).ext c1 e2) m).ext c2 ex
        refine ⟨p, xs, j, m, rfl, ri.intInv, hx, by rw [l]; exact hm, ?_⟩
        have cw := c2.write (cl := .lst (ds.set m d)) hp ⟨xs.set m v, upd_same, by rw [List.length_set]; exact hz, rall⟩
        have h4 := h3 α2 _ ex cw
        exact WpO.ret cw h4 σ (((r.ext c e1).ext c1 e2).ext c2 ex) (Agr.refl _ _)
      · exact h3.elim
    · exact h3.elim
  · exact h3.elim

/-! ### what is walked -/
def srcSeq : D → Mo Src := fun x => lft fun C => match x with
  | .hnd k => match C[k]? with
    | some (.lst ds) => some ⟨ds, some (k, ds)⟩
    | _ => none
  | .tup ds => some ⟨ds, none⟩
  | .lst ds => some ⟨ds, none⟩
  | .scr ds => some ⟨ds, none⟩
  | .ktp ds => some ⟨ds, none⟩
  | _ => none
def iSeq (f : EX) : IX := fun ρ => bnd (f ρ) srcSeq
theorem pi_seq {tg l : Expr} {tl : TE} (hl : PE X l tl) : PI X tg l (fun σ H R => tl σ H fun x H1 => (∃ a, x = .ref a ∧ (∃ xs, SqL X.K H1 a xs) ∧ R (Itl X.K a) H1) ∨ (∃ a, x = .ref a ∧ (∃ xs, SqT X.K H1 a xs) ∧ R (Itt X.K a) H1)) := by
  refine ⟨fun pins s σ H R I h => ?_⟩
  refine thn (hl.run pins s σ H _ I h) fun v s1 ⟨x, H1, I1, r1, q1⟩ => ?_
  rcases q1 with ⟨a, e, ⟨xs, hq⟩, q⟩ | ⟨a, e, ⟨xs, hq⟩, q⟩
  · subst e
    cases r1
    obtain ⟨its, rv, p, hz⟩ := I1.list hq
    refine wpAny_pyIter_list p.isList ?_
    refine ⟨s1.heap.objs.size, [s1.heap.objs.size], _, _, H1, rfl, I1.kept (t' := s1.toks) fun b o e => Heap.get?_push_of_some _ e, turn_list a _, ⟨_, Heap.get?_push_size _ rfl, rfl, rfl⟩, fun b hb => ?_, q⟩
    have e : b = s1.heap.objs.size := by simpa using hb
    subst e
    exact I1.fpOk (Nat.le_refl _) (I1.hok.fresh (Nat.le_refl _))
  · subst e
    cases r1
    obtain ⟨its, rv, p, hz⟩ := I1.tuple hq
    refine wpAny_pyIter_tuple (show s1.heap.IsTuple a its.toArray from p) ?_
    refine ⟨s1.heap.objs.size, [s1.heap.objs.size], _, _, H1, rfl, I1.kept (t' := s1.toks) fun b o e => Heap.get?_push_of_some _ e, turn_tuple a _, ⟨_, Heap.get?_push_size _ rfl, rfl, rfl⟩, fun b hb => ?_, q⟩
    have e : b = s1.heap.objs.size := by simpa using hb
    subst e
    exact I1.fpOk (Nat.le_refl _) (I1.hok.fresh (Nat.le_refl _))
theorem sqL_ext {K : PySem.W.Frag} {α α' : Al} {H' : Hp} {C : Cells} {a : Addr} {xs : List V} (c : CR K α H C) (e : ExtW α H α' H') (h : H a = some (.lst xs)) (n : a ∉ α.all) : SqL K H' a xs := SqL.of (e.keep _ _ h n)
theorem dw_list {K : PySem.W.Frag} {α : Al} {C : Cells} {a : Addr} {xs : List V} {ds : List D} (c : CR K α H C) (h : H a = some (.lst xs)) (n : a ∉ α.all) (z : xs.length ≤ sizeLine) (r : VRs K α H xs ds) : DWalk K α H (Itl K a) ⟨ds, none⟩ (fun H => SqL K H a xs) (YAt xs) where
  walk := by have w := walk_list (K := K) (a := a) (xs := xs); rw [r.length] at w; exact w
  len := by rw [← r.length]; exact z
  good := fun α' H' C' e c' _ => sqL_ext c e h n
  gives := fun i x H1 H2 α' C' d e c' _ y hd => by
    obtain ⟨rfl, hx⟩ := y
    obtain ⟨d', h1, h2⟩ := r.get hx
    rw [hd] at h1; cases h1
    exact ⟨Ext.refl _ _, c', h2.extW c e⟩
theorem dw_scr {K : PySem.W.Frag} {α : Al} {C : Cells} {a : Addr} {xs : List V} {ds : List D} (c : CR K α H C) (h : SqF K H a xs) (z : xs.length ≤ sizeLine) (r : VRs K α H xs ds) : DWalk K α H (Itl K a) ⟨ds, none⟩ (fun H => SqL K H a xs) (YAt xs) where
  walk := by have w := walk_list (K := K) (a := a) (xs := xs); rw [r.length] at w; exact w
  len := by rw [← r.length]; exact z
  good := fun α' H' C' e c' _ => (sqF_ext c e h).sq
  gives := fun i x H1 H2 α' C' d e c' _ y hd => by
    obtain ⟨rfl, hx⟩ := y
    obtain ⟨d', h1, h2⟩ := r.get hx
    rw [hd] at h1; cases h1
    exact ⟨Ext.refl _ _, c', h2.extW c e⟩
theorem dw_tup {K : PySem.W.Frag} {α : Al} {C : Cells} {a : Addr} {xs : List V} {ds : List D} (c : CR K α H C) (h : SqT K H a xs) (z : xs.length ≤ sizeLine) (r : VRs K α H xs ds) : DWalk K α H (Itt K a) ⟨ds, none⟩ (fun H => SqT K H a xs) (YAt xs) where
  walk := by have w := walk_tup (K := K) (a := a) (xs := xs); rw [r.length] at w; exact w
  len := by rw [← r.length]; exact z
  good := fun α' H' C' e c' _ => sqT_ext c e h
  gives := fun i x H1 H2 α' C' d e c' _ y hd => by
    obtain ⟨rfl, hx⟩ := y
    obtain ⟨d', h1, h2⟩ := r.get hx
    rw [hd] at h1; cases h1
    exact ⟨Ext.refl _ _, c', h2.extW c e⟩
/-- a cell: it must hold the same items (as data) at each turn; the values may be others, so it is walked by what it holds -/
theorem dw_cell {K : PySem.W.Frag} {α : Al} {k : Nat} {a : Addr} {ds : List D} (hk : α.cs[k]? = some a) (z : ds.length ≤ sizeLine) : DWalk K α H (Itl K a) ⟨ds, some (k, ds)⟩ (fun H => ∃ xs, SqL K H a xs ∧ xs.length = ds.length) (fun i H x H' => H' = H ∧ ∀ xs, SqL K H a xs → xs[i]? = some x) where
  walk := ⟨fun i H hi ⟨xs, q, l⟩ => ⟨xs, xs[i]'(by rw [l]; exact hi), q, by simp [show i < xs.length by rw [l]; exact hi]⟩, fun H ⟨xs, q, l⟩ => ⟨xs, q, by rw [l]; exact Nat.le_refl _⟩, fun _ _ _ _ _ _ y => y⟩
  len := z
  good := fun α' H' C' e c' ok => by
    obtain ⟨β, eq, _⟩ := e.pre
    have hk' : α'.cs[k]? = some a := by rw [eq, List.getElem?_append_left (List.getElem?_eq_some_iff.mp hk).1]; exact hk
    obtain ⟨xs, e1, z, r⟩ := c'.at_ k _ _ hk' ok
    exact ⟨xs, SqL.of e1, r.length⟩
  gives := fun i x H1 H2 α' C' d e c' ok y hd => by
    obtain ⟨rfl, hx⟩ := y
    obtain ⟨β, eq, _⟩ := e.pre
    have hk' : α'.cs[k]? = some a := by rw [eq, List.getElem?_append_left (List.getElem?_eq_some_iff.mp hk).1]; exact hk
    obtain ⟨xs, e1, z, r⟩ := c'.at_ k _ _ hk' ok
    obtain ⟨d', h1, h2⟩ := r.get (hx xs (SqL.of e1))
    have hd' : ds[i]? = some d := hd
    rw [hd'] at h1; cases h1
    exact ⟨Ext.refl _ _, c', h2⟩
theorem di_seq {tg : Expr} (hl : DE X W e f) : DI X W tg e (iSeq f) := piImp (pi_seq hl) fun σ H R ⟨α, C, ρ, c, r, h⟩ => by
  refine ⟨α, C, ρ, c, r, (WpO.bnd c h).mono fun α1 H1 C1 x e1 c1 h1 v rv => ?_⟩
  obtain ⟨s, hs, q⟩ := h1.lft
  have q := q α1 H1 (Ext.refl _ _) c1
  cases rv with
  | tup h2 z r2 => cases hs; exact .inr ⟨_, rfl, ⟨_, SqT.of h2⟩, q _ _ _ (dw_tup c1 (SqT.of h2) z r2)⟩
  | ktp h2 z r2 => cases hs; exact .inr ⟨_, rfl, ⟨_, h2⟩, q _ _ _ (dw_tup c1 h2 z r2)⟩
  | lst h2 n z r2 => cases hs; exact .inl ⟨_, rfl, ⟨_, SqL.of h2⟩, q _ _ _ (dw_list c1 h2 n z r2)⟩
  | scr h2 z r2 => cases hs; exact .inl ⟨_, rfl, ⟨_, h2.sq⟩, q _ _ _ (dw_scr c1 h2 z r2)⟩
  | @hnd k a hk =>
    dsimp only at hs
    cases hc : C1[k]? with
    | none => simp only [hc] at hs; cases hs
    | some cl =>
      cases cl with
      | dct _ _ => simp only [hc] at hs; cases hs
      | lst ds =>
        simp only [hc] at hs
        cases hs
        obtain ⟨xs, e1, z, r⟩ := c1.at_ k _ _ hk hc
        exact .inl ⟨_, rfl, ⟨_, SqL.of e1⟩, q _ _ _ (dw_cell hk (by rw [← r.length]; exact z))⟩
  | _ => cases hs
/-- range -/
def rgD (i j : Int) : List D := (List.range (j - i).toNat).map fun (k : Nat) => D.int (i + (k : Int))
theorem rgD_get {i j : Int} {k : Nat} {d : D} (h : (rgD i j)[k]? = some d) : d = .int (i + k) ∧ k < (j - i).toNat := by
  unfold rgD at h
  rw [List.getElem?_map] at h
  cases h1 : (List.range (j - i).toNat)[k]? with
  | none => rw [h1] at h; cases h
  | some m =>
    rw [h1] at h
    obtain ⟨h2, h3⟩ := List.getElem?_eq_some_iff.mp h1
    rw [List.getElem_range] at h3
    subst h3
    rw [List.length_range] at h2
    exact ⟨(Option.some.inj h).symm, h2⟩
theorem dw_range {K : PySem.W.Frag} {α : Al} {i j : Int} (hz : (j - i).toNat ≤ 1000000) : DWalk K α H (Itr i (j - i).toNat) ⟨rgD i j, none⟩ (fun _ => True) (YFn fun k => .int (i + k)) where
  walk := by have w := walk_range (lo := i) (n := (j - i).toNat); have l : (rgD i j).length = (j - i).toNat := by simp [rgD]
             rw [← l] at w; rw [l] at w ⊢; exact w
  len := by have l : (rgD i j).length = (j - i).toNat := by simp [rgD]
            show (rgD i j).length ≤ sizeLine
            rw [l]; exact Nat.le_trans hz (by decide)
  good := fun _ _ _ _ _ _ => trivial
  gives := fun k x H1 H2 α' C' d e c' _ y hd => by
    obtain ⟨rfl, rfl⟩ := y
    obtain ⟨rfl, _⟩ := rgD_get hd
    exact ⟨Ext.refl _ _, c', .int _⟩
def iR1 (fa : AX) : IX := fun ρ => bnd (fa ρ) fun xs => lft fun _ => match xs with
  | [.int j] => if -1000000 ≤ j ∧ j ≤ 1000000 then some ⟨rgD 0 j, none⟩ else none
  | _ => none
def iR2 (fa : AX) : IX := fun ρ => bnd (fa ρ) fun xs => lft fun _ => match xs with
  | [.int i, .int j] => if -1000000000 ≤ i ∧ j ≤ 1000000000 ∧ -1000000000 ≤ j ∧ i ≤ 1000000000 ∧ j - i ≤ 1000000 then some ⟨rgD i j, none⟩ else none
  | _ => none
theorem di_r1 {tg : Expr} {p : Pos} (hm : X.mg "range" = none) (ha : DA X W [e] fa) (hg : Gl X "range" := by rfl) (hs : starEach [e] X.env = [(false, eval e X.env)] := by rfl) : DI X W tg (.Call (.Name "range" p) [e] [] pos) (iR1 fa) :=
  piImp (pi_range1 hg hm ha hs) fun σ H R ⟨α, C, ρ, c, r, h⟩ => by
  refine ⟨α, C, ρ, c, r, (WpO.bnd c h).mono fun α1 H1 C1 xs e1 c1 h1 vs rvs => ?_⟩
  obtain ⟨s, hs, q⟩ := h1.lft
  split at hs
  · rename_i j
    split at hs
    · rename_i hj
      cases hs
      obtain ⟨v, rfl, rv⟩ := vrs1 rvs
      refine ⟨j, by rw [rv.intInv], by omega, by omega, ?_⟩
      have w := q α1 H1 (Ext.refl _ _) c1 _ _ _ (dw_range (i := 0) (j := j) (by omega))
      rw [Int.sub_zero] at w
      exact w
    · cases hs
  · cases hs
theorem di_r2 {tg : Expr} {p : Pos} (hm : X.mg "range" = none) (ha : DA X W [e, b] fa) (hg : Gl X "range" := by rfl) (hs : starEach [e, b] X.env = [(false, eval e X.env), (false, eval b X.env)] := by rfl) (hs2 : starEach [b] X.env = [(false, eval b X.env)] := by rfl) :
    DI X W tg (.Call (.Name "range" p) [e, b] [] pos) (iR2 fa) :=
  piImp (pi_range2 hg hm ha hs hs2) fun σ H R ⟨α, C, ρ, c, r, h⟩ => by
  refine ⟨α, C, ρ, c, r, (WpO.bnd c h).mono fun α1 H1 C1 xs e1 c1 h1 vs rvs => ?_⟩
  obtain ⟨s, hs, q⟩ := h1.lft
  split at hs
  · rename_i i j
    split at hs
    · rename_i hj
      cases hs
      obtain ⟨v, v', rfl, rv, rv'⟩ := vrs2 rvs
      exact ⟨i, j, by rw [rv.intInv, rv'.intInv], ⟨by omega, by omega, by omega, by omega⟩, q α1 H1 (Ext.refl _ _) c1 _ _ _ (dw_range (i := i) (j := j) (by omega))⟩
    · cases hs
  · cases hs
end
end DL

/-! DL7: list comprehensions (one clause, two clauses), keyword calls. -/
namespace DL
open PySem L2
section
variable {X : Cx} {W : WX}
def wipeD (ρ : Ro) : List Nat → Ro
  | [] => ρ
  | v :: vs => (wipeD ρ vs).set v none
theorem SR.wipe {K : PySem.W.Frag} {α : Al} {σ : St} {H : Hp} {ρ : Ro} (r : SR K α σ H ρ) : ∀ vs : List Nat, SR K α (wipe σ vs) H (wipeD ρ vs)
  | [] => r
  | v :: vs => (SR.wipe r vs).unset v none
theorem wipe_get {σ : St} {j : Nat} : ∀ {vs : List Nat}, (wipe σ vs)[j]? = if j ∈ vs then (if j < σ.length then some none else none) else σ[j]?
  | [] => by simp [wipe]
  | v :: vs => by
    unfold wipe
    by_cases h : j = v
    · subst h
      simp only [List.mem_cons, true_or, if_true]
      by_cases hl : j < σ.length
      · rw [List.getElem?_set_self (by rw [wipe_length]; exact hl), if_pos hl]
      · rw [List.getElem?_eq_none (by simpa [wipe_length] using hl), if_neg hl]
    · rw [List.getElem?_set_ne (Ne.symm h), wipe_get]
      simp only [List.mem_cons, h, false_or]
theorem agr_wipe {σ σ' : St} {ix vs : List Nat} (a : Agr ix σ σ') (h : ∀ i ∈ ix, i ∈ vs) : wipe σ' vs = wipe σ vs := by
  refine List.ext_getElem? fun j => ?_
  rw [wipe_get, wipe_get, a.len]
  by_cases hj : j ∈ vs
  · rw [if_pos hj, if_pos hj]
  · rw [if_neg hj, if_neg hj]
    exact a.at_ j fun z => hj (h j z)
theorem wipe_wipe {σ : St} {vs : List Nat} : wipe (wipe σ vs) vs = wipe σ vs := by
  refine List.ext_getElem? fun j => ?_
  rw [wipe_get, wipe_get, wipe_length]
  by_cases hj : j ∈ vs <;> simp [hj]

/-! ### tests of a clause -/
abbrev DTs (X : Cx) (W : WX) (ifs : List Expr) (p : BX) : Prop := PTs X ifs (tDT X W p)
def bYes : BX := fun _ => ret true
theorem dts_nil : DTs X W [] bYes := ⟨fun pins s σ H Q I ⟨α, C, ρ, c, r, h⟩ => pts_nil.run pins s σ H Q I (WpO.ret c h)⟩
theorem dts_one {c : Expr} {p : BX} (h : DT X W c p) : DTs X W [c] p := pts_one h

/-! ### one clause -/
noncomputable def lcD (s : Src) (t : TX) (p : BX) (f : EX) (ρw : Ro) : List D → List D → Mo (List D)
  | [], acc, C => s.chk C (.ok (acc, C)) .bad
  | x :: xs, acc, C => s.chk C (bnd (t x ρw) (fun ρ1 => bnd (p ρ1) fun b => if b = true then bnd (f ρ1) fun y => lcD s t p f ρw xs (acc ++ [y]) else lcD s t p f ρw xs acc) C) .bad
noncomputable def xLc (fi : IX) (vs : List Nat) (t : TX) (p : BX) (f : EX) : EX := fun ρ => bnd (fi ρ) fun s => bnd (nb (lcD s t p f (wipeD ρ vs) s.items [])) fun ds => ret (.lst ds)
theorem chk_eq {β : Type} {s : Src} {C : Cells} {o b v : β} (h : s.chk C o b = v) (hb : b ≠ v) : s.ok C ∧ o = v := by
  have := Src.chk_ok (s := s) (C := C) (o := o) (b := b) (fun z => z = v) h hb
  exact this
theorem bnd_ok {β γ : Type} {m : Mo β} {k : β → Mo γ} {C C' : Cells} {z : γ} (h : bnd m k C = .ok (z, C')) : ∃ x C1, m C = .ok (x, C1) ∧ k x C1 = .ok (z, C') := by
  unfold bnd at h
  cases hm : m C with
  | ok p => obtain ⟨x, C1⟩ := p; rw [hm] at h; exact ⟨x, C1, rfl, h⟩
  | err _ _ => rw [hm] at h; cases h
  | bad => rw [hm] at h; cases h
theorem wpO_of {K : PySem.W.Frag} {mg : Str → Option Value} {α : Al} {H : Hp} {β : Type} {Q : Al → Hp → Cells → β → Prop} {E : XK} {o : Out (β × Cells)} {x : β} {C' : Cells} (h : o = .ok (x, C')) (q : ∀ α' H', Ext α H α' H' → CR K α' H' C' → Q α' H' C' x) : WpO K mg α H Q E o := by
  rw [h]; exact q
/-- behind nb: the outcome -/
theorem wpNbok {K : PySem.W.Frag} {mg : Str → Option Value} {α : Al} {H : Hp} {C : Cells} {β γ : Type} {m : Mo γ} {k : γ → Mo β} {Q : Al → Hp → Cells → β → Prop} {E : XK} (h : WpO K mg α H Q E (bnd (nb m) k C)) : ∃ z C', m C = .ok (z, C') ∧ WpO K mg α H Q E (k z C') := by
  unfold DL.bnd DL.nb at h
  cases hm : m C with
  | ok p => obtain ⟨z, C'⟩ := p; rw [hm] at h; exact ⟨z, C', rfl, h⟩
  | err _ _ => rw [hm] at h; exact h.elim
  | bad => rw [hm] at h; exact h.elim
/-- the state of a comprehension between two turns: D the new list, what it holds -/
structure LcSt (K : PySem.W.Frag) (α1 : Al) (H1 : Hp) (D : Addr) (α : Al) (H : Hp) (C : Cells) (acc : List V) (dacc : List DL.D) : Prop where
  hs : α.hs = D :: α1.hs
  cr : CR K α H C
  ex : ExtW α1 H1 α H
  hk : ∀ b ∈ α1.hs, H b = H1 b
  at_ : H D = some (.lst acc)
  rs : VRs K α H acc dacc
theorem LcSt.start {K : PySem.W.Frag} {α1 : Al} {H1 : Hp} {C1 : Cells} {D : Addr} (c : CR K α1 H1 C1) (h : H1 D = none) : LcSt K α1 H1 D (α1.hide D) (upd H1 D (.lst [])) C1 [] [] :=
  ⟨rfl, c.hidden h (.inl ⟨_, rfl⟩), ExtW.hide h, fun b hb => by obtain ⟨o', e, _⟩ := c.hid b hb; exact upd_ne (ne_of_none e h), upd_same, .nil⟩
theorem LcSt.go {K : PySem.W.Frag} {α1 α α' : Al} {H1 H H' : Hp} {C C' C1 : Cells} {D : Addr} {acc : List V} {dacc : List DL.D} (c1 : CR K α1 H1 C1) (l : LcSt K α1 H1 D α H C acc dacc) (e : Ext α H α' H') (c' : CR K α' H' C') : LcSt K α1 H1 D α' H' C' acc dacc := by
  refine ⟨by rw [e.hs]; exact l.hs, c', l.ex.trans (fun a ha => l.cr.has a (l.ex.sub ha)) e.toExtW, fun b hb => ?_, ?_, l.rs.ext l.cr e⟩
  · rw [e.hid b (by rw [l.hs]; exact List.mem_cons_of_mem _ hb)]
    exact l.hk b hb
  · rw [e.hid D (by rw [l.hs]; exact List.mem_cons_self)]
    exact l.at_
theorem LcSt.grow {K : PySem.W.Frag} {α1 α : Al} {H1 H : Hp} {C C1 : Cells} {D : Addr} {acc : List V} {dacc : List DL.D} {y : V} {dy : DL.D} (c1 : CR K α1 H1 C1) (h0 : H1 D = none) (l : LcSt K α1 H1 D α H C acc dacc) (r : VR K α H y dy) : LcSt K α1 H1 D α (upd H D (.lst (acc ++ [y]))) C (acc ++ [y]) (dacc ++ [dy]) := by
  have hp : D ∈ α.hs := by rw [l.hs]; exact List.mem_cons_self
  refine ⟨l.hs, l.cr.grow hp (.inl ⟨_, rfl⟩), l.ex.mut h0, fun b hb => ?_, upd_same, (l.rs.append (.cons r .nil)).extW l.cr (ExtW.grow hp)⟩
  obtain ⟨o', e, _⟩ := c1.hid b hb
  rw [upd_ne (ne_of_none e h0)]
  exact l.hk b hb
theorem LcSt.done {K : PySem.W.Frag} {α1 α : Al} {H1 H : Hp} {C : Cells} {D : Addr} {acc : List V} {dacc : List DL.D} (l : LcSt K α1 H1 D α H C acc dacc) (hl : acc.length ≤ sizeLine) : Ext α1 H1 ⟨α.cs, α1.hs⟩ H ∧ CR K ⟨α.cs, α1.hs⟩ H C ∧ VR K ⟨α.cs, α1.hs⟩ H (.ref D) (.lst dacc) := by
  obtain ⟨hs, cr, ex, hk, at_, rs⟩ := l
  obtain ⟨cs, hs'⟩ := α
  simp only at hs
  subst hs
  have z : CR K ((⟨cs, α1.hs⟩ : Al).hide D) H C := cr
  exact ⟨⟨⟨ex.pre, noMore, ex.keep⟩, rfl, hk⟩, z.shown, .lst at_ z.shown_not hl (VRs.sub (α := (⟨cs, α1.hs⟩ : Al).hide D) (αs := ⟨cs, α1.hs⟩) rfl (fun a h => List.mem_cons_of_mem D h) rs)⟩
/-- the items of a source that a comprehension or a loop walks are at most so many -/
theorem lc_main {t : TX} {p : BX} {f : EX} {ρw : Ro} {g : TG} {tt : TT} {te : TE} {vs ix : List Nat} {σ : St} {H1 : Hp} {α1 : Al} {C1 : Cells} {J : It} {s : Src} {G : Hp → Prop} {Y : Nat → Hp → V → Hp → Prop} {D : Addr} {Qd : Hp → Prop} {ds : List DL.D} {C2 : Cells}
    (c1 : CR X.K α1 H1 C1) (r1 : SR X.K α1 (wipe σ vs) H1 ρw) (hD : H1 D = none) (hix : ∀ i ∈ ix, i ∈ vs) (dw : DWalk X.K α1 H1 J s G Y) (hcomp : lcD s t p f ρw s.items [] C1 = .ok (ds, C2))
    (hg : ∀ x σ H Q, gD X ix t x σ H Q → g x σ H Q) (ht : ∀ σ H Q, tDT X W0 p σ H Q → tt σ H Q) (he : ∀ σ H Q, tD X W0 f σ H Q → te σ H Q)
    (hd : ∀ α H acc, LcSt X.K α1 H1 D α H C2 acc ds → acc.length ≤ sizeLine → Qd H) :
    ∃ W : Nat → Nat → Hp → Prop, (∃ m, W 0 m (upd H1 D (.lst []))) ∧ ∀ i m H, W i m H →
      (J.stop i H ∧ Qd H) ∨ (J.go i H ∧ ∃ Nx : Hp → Prop, (∀ H', Nx H' → ∃ m', m' < m ∧ W (i + 1) m' H') ∧ ∀ x H', J.yld i H x H' → g x (wipe σ vs) H' fun σ2 H2 => wipe σ2 vs = wipe σ vs ∧ tt σ2 H2 fun b H3 =>
        if b = true then te σ2 H3 fun y H4 => ∃ acc, H4 D = some (.lst acc) ∧ acc.length < sizeLine ∧ Nx (upd H4 D (.lst (acc ++ [y]))) else Nx H3) := by
  have hlen := dw.len
  refine lc_it dw.walk (fun i H => ∃ α C acc dacc, LcSt X.K α1 H1 D α H C acc dacc ∧ acc.length ≤ i ∧ lcD s t p f ρw (s.items.drop i) dacc C = .ok (ds, C2)) ?_ ?_ ?_ ?_
  · exact ⟨_, _, [], [], LcSt.start c1 hD, Nat.le_refl _, by rw [List.drop_zero]; exact hcomp⟩
  · rintro i H hi ⟨α, C, acc, dacc, l, _, w⟩
    refine dw.good α H C l.ex l.cr ?_
    cases hd : s.items.drop i with
    | nil => rw [hd] at w; exact (chk_eq w (by simp)).1
    | cons x xs => rw [hd] at w; exact (chk_eq w (by simp)).1
  · rintro i x H H' hi ⟨α, C, acc, dacc, l, hl, w⟩ y
    have hdr : s.items.drop i = s.items[i] :: s.items.drop (i + 1) := List.drop_eq_getElem_cons hi
    rw [hdr] at w
    obtain ⟨ok2, w⟩ := chk_eq w (by simp)
    obtain ⟨ρ1, C3, w1, w⟩ := bnd_ok w
    obtain ⟨b, C4, w2, w⟩ := bnd_ok w
    obtain ⟨e2, c2, rx⟩ := dw.gives i x H H' α C s.items[i] l.ex l.cr ok2 y (by simp [hi])
    have l2 := l.go c1 e2 c2
    have r2 : SR X.K α (wipe σ vs) H' ρw := ⟨r1.len, fun j z h => by
      obtain ⟨v, h1, h2⟩ := r1.at_ j z h
      exact ⟨v, h1, h2.extW c1 l2.ex⟩⟩
    refine hg _ _ _ _ ⟨α, C, ρw, _, c2, r2, rx, wpO_of w1 fun α3 H3 e3 c3 σ3 r3 a3 => ⟨?_, ?_⟩⟩
    · rw [agr_wipe a3 hix, wipe_wipe]
    · refine ht _ _ _ ⟨α3, C3, ρ1, c3, r3, wpO_of w2 fun α4 H4 e4 c4 => ?_⟩
      have l4 := (l2.go c1 e3 c3).go c1 e4 c4
      cases b with
      | false =>
        rw [if_neg Bool.false_ne_true] at w
        dsimp only
        rw [if_neg Bool.false_ne_true]
        exact ⟨α4, C4, acc, dacc, l4, Nat.le_succ_of_le hl, w⟩
      | true =>
        rw [if_pos rfl] at w
        dsimp only
        rw [if_pos rfl]
        obtain ⟨yd, C5, w3, w⟩ := bnd_ok w
        refine he _ _ _ ⟨α4, C4, ρ1, c4, r3.ext c3 e4, wpO_of w3 fun α5 H5 e5 c5 v rv => ?_⟩
        have l5 := l4.go c1 e5 c5
        exact ⟨acc, l5.at_, Nat.lt_of_le_of_lt hl (Nat.lt_of_lt_of_le hi hlen), α5, C5, _, _, l5.grow c1 hD rv, by rw [List.length_append]; exact Nat.succ_le_succ hl, w⟩
  · rintro H ⟨α, C, acc, dacc, l, hl, w⟩
    rw [List.drop_length] at w
    obtain ⟨_, w⟩ := chk_eq w (by simp)
    cases w
    exact hd α H acc l (Nat.le_trans hl hlen)
/-- what a block's parts are shown in -/
abbrev Blk (X : Cx) (scope : Scope) (P : Cx → Prop) : Prop := ∀ (s : Shared) (H : Hp) (C : Addr) (cl : List (Str × Addr)) (fp : List Addr), P (X.blk s H scope (compEnvC scope cl C X.env) fp)
theorem tLc_of {fi : IX} {t : TX} {p : BX} {f : EX} {vs ix : List Nat} {g : TG} {tt : TT} {te : TE} {σ : St} {H : Hp} {Q : VK} (hix : ∀ i ∈ ix, i ∈ vs) (h : tD X W (xLc fi vs t p f) σ H Q) : tLc (iD X W fi) (gD X ix t) (tDT X W0 p) (tD X W0 f) vs σ H Q := by
  obtain ⟨α, C, ρ, c, r, h⟩ := h
  refine ⟨α, C, ρ, c, r, (WpO.bnd c h).mono fun α1 H1 C1 s e1 c1 h1 J G Y dw D hD => ?_⟩
  obtain ⟨ds, C2, hcomp, h2⟩ := wpNbok h1
  refine lc_main c1 ((r.ext c e1).wipe vs) hD hix dw hcomp (fun _ _ _ _ h => h) (fun _ _ _ h => h) (fun _ _ _ h => h) fun α3 H3 acc l hl => ?_
  obtain ⟨e3, c3, v3⟩ := l.done hl
  exact h2 _ H3 e3 c3 (.ref D) v3
theorem de_lc {elt tg iter : Expr} {ifs : List Expr} {scope : Scope} {pos : Pos} {fi : IX} {t : TX} {p : BX} {f : EX} (own : List (Str × Nat)) {ix : List Nat} (hc : X.calm = true) (hN : X.N.Nodup) (hi : DI X W tg iter fi)
    (hg : Blk X scope fun Y => DG Y tg ix t) (ht : Blk X scope fun Y => DTs Y W0 ifs p) (he : Blk X scope fun Y => DE Y W0 elt f) (ok : blkC X.N X.env.scope scope own = true := by decide +kernel) (hix : ∀ i ∈ ix, i ∈ own.map (·.2) := by decide)
    (hs : ∀ x, foldedSetIterable iter X.env x = pure x := by intro _; rfl) : DE X W (.ListComp elt [⟨tg, iter, ifs, 0⟩] scope pos) (xLc fi (own.map (·.2)) t p f) :=
  peImp (pe_lc (g := gD X ix t) (tt := tDT X W0 p) (te := tD X W0 f) hc hN hi (blkOk_by ok) hg ht he hs) fun σ H Q h => tLc_of (g := gD X ix t) (tt := tDT X W0 p) (te := tD X W0 f) hix h
/-- x = [..] on one line -/
theorem ds_setLc {i : Nat} {y : Str} {py : Pos} {elt tg iter : Expr} {ifs : List Expr} {scope : Scope} {pos spos : Pos} {fi : IX} {t : TX} {p : BX} {f : EX} (own : List (Str × Nat)) {ix : List Nat} (hc : X.calm = true) (hN : X.N.Nodup) (hi : DI X W tg iter fi)
    (hg : Blk X scope fun Y => DG Y tg ix t) (ht : Blk X scope fun Y => DTs Y W0 ifs p) (he : Blk X scope fun Y => DE Y W0 elt f) (hy : X.N[i]? = some y := by rfl) (hyl : X.env.scope.names.lookup y = some .local := by rfl)
    (hsw : swapsWith (.ListComp elt [⟨tg, iter, ifs, 0⟩] scope pos) (some (.Name y py)) spos.line X.env = pure true := by exact sw_true rfl rfl rfl (by decide +kernel)) (ok : blkC X.N X.env.scope scope own = true := by decide +kernel) (hix : ∀ i ∈ ix, i ∈ own.map (·.2) := by decide)
    (hs : ∀ x, foldedSetIterable iter X.env x = pure x := by intro _; rfl) : DS X W (.Assign [.Name y py] (.ListComp elt [⟨tg, iter, ifs, 0⟩] scope pos) spos) (sSet i (xLc fi (own.map (·.2)) t p f)) :=
  psImp (ps_setLc (g := gD X ix t) (tt := tDT X W0 p) (te := tD X W0 f) hc hN hy hyl hsw hi (blkOk_by ok) hg ht he hs) fun E σ H ⟨α, C, ρ, c, r, h⟩ =>
    tLc_of (g := gD X ix t) (tt := tDT X W0 p) (te := tD X W0 f) hix ⟨α, C, ρ, c, r, (WpS.sE c r h).mono fun α1 H1 C1 x e1 c1 h1 v rv => h1.nx c1 ((r.ext c e1).set rv)⟩
end
end DL

/-! DL8: defs as they stand behind the top, calls of them by place and by name, the law's end. -/
namespace DL
open PySem L2
open PyProof.Rows (envOfC)
/-- how its arguments bind: n by place, ks by name; perm tells for each parameter which of all these it is -/
def KB (K : PySem.W.Frag) (fd : FuncData) (ps : List Str) (n : Nat) (ks : List Str) (perm : List Nat) : Prop :=
  ∀ (s : Shared) (us ws : List Value), us.length = n → ws.length = ks.length → BindsTo s fd ⟨us, ks.zip ws⟩ (ps.zip (perm.map fun i => (us ++ ws).getD i .none))
theorem kb_of {K : PySem.W.Frag} {x qual : Str} {st : Stmt} {f : Addr} {fd : FuncData} {ps ks : List Str} {n : Nat} {perm : List Nat} (F : Fun K x qual st f fd)
    (h : ∀ (kV doc pm : Value) (an : Option Addr) (cdv ct : Value) (us ws : List Value), us.length = n → ws.length = ks.length →
      bindArgs (PySem.W.fnOf x qual (defArgs st) (defBody st) (defScope st) .none kV doc pm an cdv ct) ⟨us, ks.zip ws⟩ = pure (ps.zip (perm.map fun i => (us ++ ws).getD i .none))) : KB K fd ps n ks perm := by
  obtain ⟨oc, od, kV, doc, pm, an, cdv, ct, osl, rfl, lk, hcd⟩ := F.ex
  exact fun s us ws h1 h2 => .of_eq (h kV doc pm an cdv ct us ws h1 h2)
section
variable {X : Cx} {W : WX} {k n m : Nat} {f : Addr} {fd : FuncData} {ps ks : List Str} {g : List D → Mo D} {x : Str} {p pos : Pos} {e : Expr} {es : List Expr} {fa fk : AX} {σ : St} {H : Hp} {Q : VK} {kws : List Keyword} {perm : List Nat} {nm : Option Str} {kpos : Pos} {fe : EX}
abbrev DK (X : Cx) (W : WX) (kws : List Keyword) (f : AX) : Prop := PK X kws (tDA X W f)
theorem pkImp {kws : List Keyword} {t t' : TA} (h : PK X kws t) (i : ∀ σ H Q, t' σ H Q → t σ H Q) : PK X kws t' := ⟨fun pos pins s σ H Q I q => h.run pos pins s σ H Q I (i σ H Q q)⟩
theorem dk_nil : DK X W [] aNil := pkImp pk_nil fun σ H Q ⟨α, C, ρ, c, r, h⟩ => WpO.ret c h [] .nil
theorem dk_cons (ha : DE X W e fe) (hr : DK X W kws fk) : DK X W (⟨nm, e, kpos⟩ :: kws) (aCons fe fk) := pkImp (pk_cons ha hr) fun σ H Q ⟨α, C, ρ, c, r, h⟩ => by
  refine ⟨α, C, ρ, c, r, (WpO.bnd c h).mono fun α1 H1 C1 x e1 c1 h1 v rv => ?_⟩
  refine ⟨α1, C1, ρ, c1, r.ext c e1, (WpO.bnd c1 h1).mono fun α2 H2 C2 xs e2 c2 h2 vs rvs => ?_⟩
  exact WpO.ret c2 h2 (v :: vs) (.cons (rv.ext c1 e2) rvs)
def xCallK (n nu nk : Nat) (perm : List Nat) (g : List D → Mo D) (fa fk : AX) : EX := fun ρ => bnd (fa ρ) fun us => if us.length = nu then bnd (fk ρ) fun ws => if ws.length = nk ∧ perm.length = n then g (perm.map fun i => (us ++ ws).getD i .non) else bad else bad
theorem VRs.pmu {K : PySem.W.Frag} {α : Al} {H : Hp} {xs : List V} {ds : List D} (r : VRs K α H xs ds) : ∀ perm : List Nat, VRs K α H (perm.map fun i => xs.getD i .non) (perm.map fun i => ds.getD i .non)
  | [] => .nil
  | i :: is => by
    refine .cons ?_ (VRs.pmu r is)
    dsimp only
    rw [List.getD_eq_getElem?_getD, List.getD_eq_getElem?_getD]
    cases h : xs[i]? with
    | none =>
      have hl : ds[i]? = none := by
        rw [List.getElem?_eq_none_iff] at h ⊢
        rw [← r.length]; exact h
      rw [hl]
      exact .non
    | some v =>
      obtain ⟨d, h1, h2⟩ := r.get h
      rw [h1]
      exact h2
theorem vals_pmu {xs : List V} {us : List Value} (r : Vals xs us) : ∀ perm : List Nat, Vals (perm.map fun i => xs.getD i .non) (perm.map fun i => us.getD i .none)
  | [] => .nil
  | i :: is => by
    refine .cons ?_ (vals_pmu r is)
    dsimp only
    rw [List.getD_eq_getElem?_getD, List.getD_eq_getElem?_getD]
    cases h : xs[i]? with
    | none =>
      rw [r.none_of h]
      rfl
    | some v =>
      obtain ⟨d, h1, h2⟩ := r.get h
      rw [h1]
      exact h2
theorem run_fnkS {pins : List (Addr × Obj)} {s : Shared} {us ws : List Value} {vs zs : List V} {nu : Nat} (F : FnOk X.prog X.w X.K X.mg X.base (L2.CX X.prog X.w) k f fd ps (spD X.K X.mg n g)) (hr : Room k X.A) (hb : KB X.K fd ps nu ks perm) (tk : Tk X W)
    (I : Inv X pins σ H s) (r : Vals vs us) (rz : Vals zs ws) (h1 : us.length = nu) (h2 : ws.length = ks.length) (h : spD X.K X.mg n g (perm.map fun i => (vs ++ zs).getD i .non) H Q (WE W σ)) : wpAny (model X.prog X.w) X.A (call (.ref f) us (ks.zip ws)) (EP X pins σ Q) X.xe s := by
  have r2 := vals_pmu (r.append rz) perm
  refine wpAny_call (codeAny_mono (F.run X.A X.stack s H ⟨us, ks.zip ws⟩ _ _ Q _ hr I.env0 (hb s us ws h1 h2) r2 h) fun r s' hq => ?_)
  cases r with
  | error e => exact tk σ pins H s e s' I hq
  | ok fl =>
    cases fl with
    | ret u => exact I.after hq
    | next => exact False.elim hq
    | brk => exact False.elim hq
    | cont => exact False.elim hq
theorem wl_len {K : PySem.W.Frag} {vs : List V} {us : List Value} (r : Vals vs us) : us.length = vs.length := r.length.symm
/-- f(k = v, ..) -/
theorem de_callK0 (F : FnOk X.prog X.w X.K X.mg X.base (L2.CX X.prog X.w) k f fd ps (spD X.K X.mg n g)) (hr : Room k X.A) (hm : X.mg x = some (.ref f)) (hk : PySem.W.keepIn X.K (.ref f) = true) (hb : KB X.K fd ps 0 ks perm) (tk : Tk X W)
    (hkw : DK X W kws fk) (hg : Gl X x := by rfl) (hall : (backToKw pos (keywordEach kws X.env)).all (·.1.isSome) = true := by rfl) (hks : (backToKw pos (keywordEach kws X.env)).filterMap (·.1) = ks := by rfl)
    (hdb : (x == ("__debug__" : Str)) = false := by decide) (hpl : ((backTo pos (starEach [] X.env)).any (·.1) || (backToKw pos (keywordEach kws X.env)).any (·.1.isNone)) = false := by rfl) :
    DE X W (.Call (.Name x p) [] kws pos) (xCallK n 0 ks.length perm g aNil fk) := by
  refine ⟨fun pins s σ H Q I ⟨α, C, ρ, c, r, h⟩ => ?_⟩
  refine wpAny_Call_Name_kw (ld_glob I hg hm ?_ hdb)
  refine PySem.W.callWith_KW0 (h₀ := X.base) I.ok.mod.kin hk hall ?_ hpl
  have h1 := WpO.bnd c h
  have h1 := WpO.ret c h1
  rw [if_pos (show ([] : List D).length = 0 from rfl)] at h1
  refine thn (hkw.run pos pins s σ H (fun zs H2 => zs.length = ks.length ∧ spD X.K X.mg n g (perm.map fun i => (([] : List V) ++ zs).getD i .non) H2 Q (WE W σ)) I ⟨α, C, ρ, c, r, (WpO.bnd c h1).mono fun α2 H2 C2 ws e2 c2 h2 zs rz => ?_⟩) fun ws s2 ⟨zs, H2, I2, rz, l2, q2⟩ => ⟨I2.kIn, ?_⟩
  · split at h2
    · rename_i hc
      exact ⟨by rw [rz.length]; exact hc.1, α2, C2, _, c2, VRs.pmu (VRs.append .nil rz) perm, by rw [List.length_map]; exact hc.2, h2⟩
    · exact h2.elim
  · rw [hks]
    exact run_fnkS (vs := []) (us := []) F hr hb tk I2 .nil rz rfl (by rw [← rz.length]; exact l2) q2
/-- f(e, .., k = v, ..) -/
theorem de_callK {nu : Nat} (F : FnOk X.prog X.w X.K X.mg X.base (L2.CX X.prog X.w) k f fd ps (spD X.K X.mg n g)) (hr : Room k X.A) (hm : X.mg x = some (.ref f)) (hk : PySem.W.keepIn X.K (.ref f) = true) (hb : KB X.K fd ps nu ks perm) (tk : Tk X W)
    (ha : DA X W (e :: es) fa) (hkw : DK X W kws fk) (hg : Gl X x := by rfl) (hall : (backToKw pos (keywordEach kws X.env)).all (·.1.isSome) = true := by rfl) (hks : (backToKw pos (keywordEach kws X.env)).filterMap (·.1) = ks := by rfl)
    (hdb : (x == ("__debug__" : Str)) = false := by decide) (he : starEach (e :: es) X.env = (false, eval e X.env) :: starEach es X.env := by rfl)
    (hpl : ((backTo pos (starEach (e :: es) X.env)).any (·.1) || (backToKw pos (keywordEach kws X.env)).any (·.1.isNone)) = false := by rfl) :
    DE X W (.Call (.Name x p) (e :: es) kws pos) (xCallK n nu ks.length perm g fa fk) := by
  refine ⟨fun pins s σ H Q I ⟨α, C, ρ, c, r, h⟩ => ?_⟩
  refine wpAny_Call_Name_kw (ld_glob I hg hm ?_ hdb)
  refine PySem.W.callWith_KW (h₀ := X.base) I.ok.mod.kin hk hall (thn (ha.run pos pins s σ H (fun vs H1 => vs.length = nu ∧ tDA X W fk σ H1 fun zs H2 => zs.length = ks.length ∧ spD X.K X.mg n g (perm.map fun i => (vs ++ zs).getD i .non) H2 Q (WE W σ)) I ⟨α, C, ρ, c, r, (WpO.bnd c h).mono fun α1 H1 C1 us e1 c1 h1 vs rv => ?_⟩) fun us s1 ⟨vs, H1, I1, r1, l1, q⟩ => ?_) hpl he
  · by_cases hc : us.length = nu
    · rw [if_pos hc] at h1
      refine ⟨rv.length.trans hc, α1, C1, ρ, c1, r.ext c e1, (WpO.bnd c1 h1).mono fun α2 H2 C2 ws e2 c2 h2 zs rz => ?_⟩
      split at h2
      · rename_i hc2
        exact ⟨by rw [rz.length]; exact hc2.1, α2, C2, _, c2, VRs.pmu (VRs.append (rv.ext c1 e2) rz) perm, by rw [List.length_map]; exact hc2.2, h2⟩
      · exact h2.elim
    · rw [if_neg hc] at h1
      exact h1.elim
  · refine thn (hkw.run pos pins s1 σ H1 _ I1 q) fun ws s2 ⟨zs, H2, I2, rz, l2, q2⟩ => ⟨I2.kIn, ?_⟩
    rw [hks]
    exact run_fnkS (us := us) F hr hb tk I2 r1 rz (by rw [← r1.length]; exact l1) (by rw [← rz.length]; exact l2) q2
end

/-! ### defs as they stand behind the top -/
/-- the def st stands under the name x -/
def Def (K : PySem.W.Frag) (mg : Str → Option Value) (x : Str) (st : Stmt) (ps : List Str) (f : Addr) (fd : FuncData) : Prop := Fun K x x st f fd ∧ mg x = some (.ref f) ∧ Binds K fd ps []
structure Cal (P : Program) (w : World) (K : PySem.W.Frag) (mg : Str → Option Value) (base : Heap) (x : Str) (st : Stmt) (ps : List Str) (k n : Nat) (g : List D → Mo D) : Prop where
  ex : ∃ f fd, FnOk P w K mg base (L2.CX P w) k f fd ps (spD K mg n g) ∧ Def K mg x st ps f fd
section
variable {P : Program} {w : World} {K : PySem.W.Frag} {mg : Str → Option Value} {base : Heap}
theorem cal_of {x : Str} {st : Stmt} {f : Addr} {fd : FuncData} {N ps : List Str} {k n m : Nat} {b : SX} (d : Def K mg x st ps f fd) (S : FnScope N ps (defScope st)) (hn : ps.length = n) (hm : N.length = m)
    (hb : ∀ (cdv : Value) (A : Around) (outer : List Env) (s : Shared) (H : Hp) (E : XK), Room k (A.deeper (envOfC x (defScope st) s.heap.objs.size f cdv)) →
      DSs (cxOf (L2.CX P w) P w K mg base N x (defScope st) f cdv A outer s H E) (fun c d _ H => E c d H) (defBody st) b) : Cal P w K mg base x st ps (k + 1) n (fnD m b) := by
  subst hm
  exact ⟨f, fd, fn_ok b d.1 S hn hb, d⟩
theorem Cal.imp {x : Str} {st : Stmt} {ps : List Str} {k n : Nat} {g g' : List D → Mo D} (c : Cal P w K mg base x st ps k n g) (h : ∀ ds C, ds.length = n → g' ds C ≠ .bad → g ds C = g' ds C) : Cal P w K mg base x st ps k n g' := by
  obtain ⟨f, fd, F, d⟩ := c.ex
  exact ⟨f, fd, fn_imp F h, d⟩
end
/-- in a def's body: what leaves a callee leaves it too -/
theorem tk_fn {X : Cx} {E₁ : XK} (hs : X.stack = X.env :: X.outer) (hf : X.env.frame = some X.env.locals) (hex : X.ex = []) (hx : X.xe = fun e s' => wpAny (model X.prog X.w) X.A (leaving X.env e) (fun _ s'' => L2.CX X.prog X.w X.outer X.H_0 X.s_0 E₁ e s'') (fun _ _ => False) s') :
    Tk X (fun c d _ H => E₁ c d H) := tk_of (takes_of hs hf hex hx)
section
variable {X : Cx} {W : WX} {k j n : Nat} {ps ks : List Str} {g : List D → Mo D} {x : Str} {st : Stmt} {p pos : Pos} {e : Expr} {es : List Expr} {fa fk : AX} {kws : List Keyword}
theorem cc (c : Cal X.prog X.w X.K X.mg X.base x st ps k n g) (hr : Room j X.A) (tk : Tk X W) (ha : DA X W (e :: es) fa) (hj : k ≤ j := by decide) (hg : Gl X x := by rfl) (hdb : (x == ("__debug__" : Str)) = false := by decide)
    (he : starEach (e :: es) X.env = (false, eval e X.env) :: starEach es X.env := by rfl) (hpl : (backTo pos (starEach es X.env)).any (·.1) = false := by rfl) : DE X W (.Call (.Name x p) (e :: es) [] pos) (xCall n g fa) := by
  obtain ⟨f, fd, F, d⟩ := c.ex
  exact de_call F (hr.mono hj) d.2.1 d.1.kp d.2.2 tk ha hg hdb he hpl
theorem cc0 (perm : List Nat) (c : Cal X.prog X.w X.K X.mg X.base x st ps k n g) (hr : Room j X.A) (tk : Tk X W) (hkw : DK X W kws fk)
    (h : ∀ (kV doc pm : Value) (an : Option Addr) (cdv ct : Value) (us ws : List Value), us.length = 0 → ws.length = ks.length →
      bindArgs (PySem.W.fnOf x x (defArgs st) (defBody st) (defScope st) .none kV doc pm an cdv ct) ⟨us, ks.zip ws⟩ = pure (ps.zip (perm.map fun i => (us ++ ws).getD i .none)))
    (hj : k ≤ j := by decide) (hg : Gl X x := by rfl) (hall : (backToKw pos (keywordEach kws X.env)).all (·.1.isSome) = true := by rfl) (hks : (backToKw pos (keywordEach kws X.env)).filterMap (·.1) = ks := by rfl)
    (hdb : (x == ("__debug__" : Str)) = false := by decide) (hpl : ((backTo pos (starEach [] X.env)).any (·.1) || (backToKw pos (keywordEach kws X.env)).any (·.1.isNone)) = false := by rfl) : DE X W (.Call (.Name x p) [] kws pos) (xCallK n 0 ks.length perm g aNil fk) := by
  obtain ⟨f, fd, F, d⟩ := c.ex
  exact de_callK0 F (hr.mono hj) d.2.1 d.1.kp (kb_of d.1 h) tk hkw hg hall hks hdb hpl
theorem cck (perm : List Nat) {nu : Nat} (c : Cal X.prog X.w X.K X.mg X.base x st ps k n g) (hr : Room j X.A) (tk : Tk X W) (ha : DA X W (e :: es) fa) (hkw : DK X W kws fk)
    (h : ∀ (kV doc pm : Value) (an : Option Addr) (cdv ct : Value) (us ws : List Value), us.length = nu → ws.length = ks.length →
      bindArgs (PySem.W.fnOf x x (defArgs st) (defBody st) (defScope st) .none kV doc pm an cdv ct) ⟨us, ks.zip ws⟩ = pure (ps.zip (perm.map fun i => (us ++ ws).getD i .none)))
    (hj : k ≤ j := by decide) (hg : Gl X x := by rfl) (hall : (backToKw pos (keywordEach kws X.env)).all (·.1.isSome) = true := by rfl) (hks : (backToKw pos (keywordEach kws X.env)).filterMap (·.1) = ks := by rfl)
    (hdb : (x == ("__debug__" : Str)) = false := by decide) (he : starEach (e :: es) X.env = (false, eval e X.env) :: starEach es X.env := by rfl)
    (hpl : ((backTo pos (starEach (e :: es) X.env)).any (·.1) || (backToKw pos (keywordEach kws X.env)).any (·.1.isNone)) = false := by rfl) : DE X W (.Call (.Name x p) (e :: es) kws pos) (xCallK n nu ks.length perm g fa fk) := by
  obtain ⟨f, fd, F, d⟩ := c.ex
  exact de_callK F (hr.mono hj) d.2.1 d.1.kp (kb_of d.1 h) tk ha hkw hg hall hks hdb he hpl
end

/-! ### the law -/
def spLaw (K : PySem.W.Frag) : Sp := fun vs H Q _ => ∃ (a : Addr) (ns : List Int), vs = [.ref a] ∧ SqF K H a (ns.map V.int) ∧ ns.length ≤ 63 ∧ ∀ H', Q (.bl true) H'
theorem law_ok {P : Program} {w : World} {K : PySem.W.Frag} {mg : Str → Option Value} {base : Heap} {x : Str} {st : Stmt} {ps : List Str} {k : Nat} {g : List D → Mo D} (c : Cal P w K mg base x st ps k 1 g)
    (h : ∀ ns : List Int, ns.length ≤ 63 → ∃ C, g [.scr (ns.map D.int)] [] = .ok (.bl true, C)) : ∃ f fd, FnOk P w K mg base (L2.CX P w) k f fd ps (spLaw K) ∧ Def K mg x st ps f fd := by
  obtain ⟨f, fd, F, d⟩ := c.ex
  refine ⟨f, fd, F.imp fun vs H Q E ⟨a, ns, e, hs, hl, q⟩ => ?_, d⟩
  subst e
  obtain ⟨C, hC⟩ := h ns hl
  refine ⟨⟨[], []⟩, [], [.scr (ns.map D.int)], ⟨rfl, List.nodup_nil, fun k a cl h => by simp at h, fun _ h => nomatch h⟩, .cons (.scr hs (by rw [List.length_map]; exact Nat.le_trans hl (by decide)) (VRs.ints ns)) .nil, rfl, ?_⟩
  rw [hC]
  intro α' H' _ _ v rv
  rw [rv.blInv]
  exact q H'
end DL

/-! DL9: t[::-1], {}. -/
namespace DLR
open PySem PySem.Spec PyProof.Rows HT
section
variable {prog : Program} {w : World} {A : Around} {E : Value → Shared → Prop} {s : Shared}
theorem adjust_rev (n : Nat) : Builtin.Slice.sliceAdjust none none (-1) (n : Int) = ((n : Int) - 1, -1) := by
  have h1 : ((-1 : Int) < 0) := by omega
  unfold Builtin.Slice.sliceAdjust
  simp only [h1, if_true]
theorem places_rev (n : Nat) : Builtin.Slice.slicePlaces ((n : Int) - 1) (-1) (-1) = n := by
  unfold Builtin.Slice.slicePlaces
  have h1 : ¬ ((-1 : Int) > 0) := by omega
  simp only [h1, if_false, Int.neg_neg, Int.ediv_one]
  split <;> omega
theorem filterMap_all {β γ : Type} {f : β → Option γ} {g : β → γ} : ∀ {l : List β}, (∀ m ∈ l, f m = some (g m)) → l.filterMap f = l.map g
  | [], _ => rfl
  | a :: l, h => by
    rw [List.filterMap_cons, h a List.mem_cons_self, List.map_cons]
    dsimp only
    rw [filterMap_all fun m hm => h m (List.mem_cons_of_mem _ hm)]
theorem pick_rev (xs : Array Value) : ((List.range xs.size).filterMap fun (m : Nat) => xs[(((xs.size : Int) - 1) + (m : Int) * (-1)).toNat]?).toArray = xs.toList.reverse.toArray := by
  congr 1
  have e : ∀ m ∈ List.range xs.size, xs[(((xs.size : Int) - 1) + (m : Int) * (-1)).toNat]? = some (xs.toList.reverse.getD m .none) := fun m hm => by
    have hm' := List.mem_range.mp hm
    have e1 : (((xs.size : Int) - 1) + (m : Int) * (-1)).toNat = xs.size - 1 - m := by omega
    rw [e1, List.getD_eq_getElem?_getD, List.getElem?_reverse (by simpa using hm')]
    rw [Array.getElem?_toList] 
    simp only [Array.length_toList]
    rw [Array.getElem?_eq_getElem (by omega)]
    rfl
  have e2 : (List.range xs.size).filterMap (fun (m : Nat) => xs[(((xs.size : Int) - 1) + (m : Int) * (-1)).toNat]?) = (List.range xs.size).map fun m => xs.toList.reverse.getD m .none := filterMap_all e
  rw [e2]
  refine List.ext_getElem (by simp) fun i h1 h2 => ?_
  simp only [List.getElem_map, List.getElem_range]
  rw [List.getD_eq_getElem?_getD, List.getElem?_eq_getElem h2]
  rfl
theorem sliceApplied_rev {sl : Addr} {vs : Value} {n : Nat} {Q : Int × Int × Nat → Shared → Prop} (hs : s.heap.IsSliceOf sl .none .none vs) (ps : IsPart vs (some (-1)))
    (h : Q ((n : Int) - 1, -1, n) s) : wpAny (model prog w) A (Builtin.Slice.sliceApplied (.ref sl) (pure (n : Int))) Q E s := by
  obtain ⟨os, hos, hcs, hds⟩ := id hs
  unfold Builtin.Slice.sliceApplied Builtin.Slice.sliceFields
  refine wpAny_bind (wpAny_bind (wpAny_field hos hds (x := .none) rfl (wpAny_bind (wpAny_field hos hds (x := .none) rfl (wpAny_bind (wpAny_field hos hds (x := vs) rfl (wpAny_pure ?_)))))))
  refine wpAny_bind (slicePart_ ps ?_)
  show wpAny _ _ (if ((-1 : Int) == 0) = true then _ else _) _ _ s
  rw [if_neg (by decide)]
  refine wpAny_bind (slicePart_ .none (wpAny_bind (slicePart_ .none (wpAny_bind (wpAny_pure ?_)))))
  show wpAny _ _ (match Builtin.Slice.sliceAdjust none none (-1) (n : Int) with | (lo, hi) => pure (lo, (-1 : Int), Builtin.Slice.slicePlaces lo hi (-1))) _ _ s
  rw [adjust_rev n]
  show wpAny _ _ (pure ((n : Int) - 1, (-1 : Int), Builtin.Slice.slicePlaces ((n : Int) - 1) (-1) (-1))) _ _ s
  rw [places_rev]
  exact wpAny_pure h
theorem getItem_tuple_rev {t sl : Addr} {items : Array Value} {vs : Value} {Q : Value → Shared → Prop} (ht : IsTup s.heap t items) (hs : s.heap.IsSliceOf sl .none .none vs) (ps : IsPart vs (some (-1)))
    (h : Q (.ref s.heap.objs.size) { s with heap := s.heap.push { cls := .type "tuple", data := .seq items.toList.reverse.toArray } })
    (hsz : items.size ≤ sizeLine) : wpAny (model prog w) A (getItem (.ref t) (.ref sl)) Q E s := by
  have htake : sizeOk (.seq items.toList.reverse.toArray) := by
    show items.toList.reverse.toArray.size ≤ sizeLine
    rw [List.size_toArray, List.length_reverse, Array.length_toList]
    exact hsz
  obtain ⟨os, hos, hcs, hds⟩ := id hs
  have hTs : s.TypeIs (.ref sl) "slice" := ⟨os, hos, hcs⟩
  unfold getItem
  try with_reducible refine wpAny_holding ?_
  first | refine wpAny_bind (wpAny_pure ?_) | skip
  refine wpAny_bind (wpAny_sequenceKey ht.typeIs (by decide) ?_)
  refine wpAny_bind (wpAny_callSpecial?_slot (name := Str.ofString "__getitem__") ht.typeIs PyProof.Rows.slot_tuple_getitem
    (wpAny_call_entry PyProof.Rows.slot_tuple_getitem ht.typeIs entry_tuple_getitem ?_ (args_tuple_getitem _ _)))
  show wpAny _ _ (Builtin.Tuple.tupleItemsOf (.ref t) >>= _) _ _ s
  refine wpAny_bind (tupleItemsOf_ ht ?_)
  refine wpAny_bind (wpAny_typeOf hTs ?_)
  rw [if_pos (by decide)]
  refine wpAny_bind (sliceApplied_rev (n := items.size) hs ps ?_)
  have hno : ¬ (((((items.size : Int) - 1) == 0 && (-1 : Int) == 1) && items.size == items.size) = true) := by
    intro q
    rw [Bool.and_eq_true, Bool.and_eq_true] at q
    exact absurd q.1.2 (by decide)
  show wpAny _ _ (if (((((items.size : Int) - 1) == 0 && (-1 : Int) == 1) && items.size == items.size) = true) then _ else _) _ _ s
  rw [if_neg hno, pick_rev]
  first
    | exact wpAny_bind (m := Builtin.Tuple.tupleExact _) (wpAny_newObj_type (wpAny_pure ⟨_, rfl, wpAny_pure h⟩) htake)
    | exact wpAny_bind (m := Builtin.Tuple.tupleExact _) (wpAny_newObj_type (wpAny_bind (wpAny_pure (wpAny_pure ⟨_, rfl, wpAny_pure h⟩))) htake)
    | exact wpAny_bind (wpAny_bind (m := Builtin.Tuple.tupleExact _) (wpAny_newObj_type (wpAny_pure (wpAny_pure ⟨_, rfl, wpAny_pure h⟩)) htake))
    | exact wpAny_bind (wpAny_bind (m := Builtin.Tuple.tupleExact _) (wpAny_newObj_type (wpAny_pure ⟨_, rfl, wpAny_pure h⟩) htake))
end
end DLR
namespace DL
open PySem L2
section
variable {X : Cx} {W : WX} {e : Expr} {f : EX} {pos : Pos}
def tRevT (K : PySem.W.Frag) (te : TE) : TE := fun σ H Q => te σ H fun x H1 => ∃ a xs, x = .ref a ∧ xs.length ≤ sizeLine ∧ SqT K H1 a xs ∧ ∀ p, H1 p = none → Q (.ref p) (upd H1 p (.tup xs.reverse))
theorem pe_revT {e : Expr} {te : TE} {k : Nat} {p1 p2 p3 pos : Pos} (he : PE X e te) : PE X (.Subscript e (.Slice none none (some (.UnaryOp .USub (.Constant (.int 1) k p1) p2)) p3) pos) (tRevT X.K te) := by
  refine ⟨fun pins s σ H Q I h => ?_⟩
  refine PyProof.Rows.Subscript_ (thn (he.run pins s σ H _ I h) fun v s1 ⟨x, H1, I1, r1, q1⟩ => ?_)
  obtain ⟨a, xs, ex, hz0, hx, q⟩ := q1
  subst ex
  cases r1
  have hst : PO X (some (.UnaryOp .USub (.Constant (.int 1) k p1) p2)) (tPart (tUn (rU fun i => .int (-i)) (tC (.int 1)))) := po_some (pe_un un_neg pe_int)
  refine wpAny_Slice (thn (po_none.run pins s1 σ H1 (fun o H2 => o = none ∧ H2 = H1) I1 ⟨rfl, rfl⟩) fun vl s2 ⟨l, H2, I2, pl, el, e2⟩ => ?_)
  subst el e2
  refine thn (po_none.run pins s2 σ H2 (fun o H3 => o = none ∧ H3 = H2) I2 ⟨rfl, rfl⟩) fun vu s3 ⟨u, H3, I3, pu, eu, e3⟩ => ?_
  subst eu e3
  refine thn (hst.run pins s3 σ H3 (fun o H4 => o = some (-1) ∧ H4 = H3) I3 ⟨1, rfl, -1, rfl, rfl, rfl⟩) fun vs s4 ⟨o, H4, I4, ps, eo, e4⟩ => ?_
  subst eo e4
  have I5 : Inv X pins σ H4 { s4 with heap := s4.heap.push { cls := .type "slice", data := .fields #[vl, vu, vs] } } := I4.kept (t' := s4.toks) fun b ob q => Heap.get?_push_of_some _ q
  obtain ⟨its, r, ht, hz⟩ := I5.tuple hx
  have hlen := r.length
  show wpAny (model X.prog X.w) X.A (PyProof.Rows.subscriptTail e (.Slice none none (some (.UnaryOp .USub (.Constant (.int 1) k p1) p2)) p3) (.ref a) (.ref s4.heap.objs.size)) (EP X pins σ Q) X.xe { s4 with heap := s4.heap.push { cls := .type "slice", data := .fields #[vl, vu, vs] } }
  refine PyProof.Rows.tail_any (ops := [.ref a, .ref s4.heap.objs.size]) ht.typeIs (PyProof.Rows.slot_tuple_getitem.lookup) ?_ (by with_unfolding_all rfl)
  cases pl
  cases pu
  refine DLR.getItem_tuple_rev ht (Heap.IsSliceOf.new _ _ _ vs) ps ?_ (by rw [List.size_toArray]; omega)
  refine ⟨.ref _, _, I5.laid (t' := s4.toks) (o := .tup xs.reverse) (fun b ob q => Heap.get?_push_of_some _ q) (Nat.le_refl _) ?_, rfl, q _ (I5.hok.fresh (Nat.le_refl _))⟩
  exact ⟨by rw [List.length_reverse]; exact hz, _, r.reverse, ⟨_, Heap.get?_push_size _ rfl, rfl, _, rfl⟩⟩
/-- o[::-1], o a tuple -/
def xRevT (f : EX) : EX := x1 (fun C x => match look C x with
  | .tup ds => some (.tup ds.reverse)
  | _ => none) f
theorem de_revT {k : Nat} {p1 p2 p3 : Pos} (he : DE X W e f) : DE X W (.Subscript e (.Slice none none (some (.UnaryOp .USub (.Constant (.int 1) k p1) p2)) p3) pos) (xRevT f) := peImp (pe_revT he) fun σ H Q h => by
  obtain ⟨α, C, ρ, c, r, h⟩ := tD_x1 h
  refine ⟨α, C, ρ, c, r, h.mono fun α1 H1 C1 x e1 c1 h1 v rv => ?_⟩
  obtain ⟨α2, C2, dx, dz, c2, rx, hz, ans⟩ := h1 v rv
  dsimp only at hz
  split at hz
  · rename_i ds hl
    cases hz
    obtain ⟨a, xs, rfl, ha, za, ra⟩ := rx.asT c2 hl
    exact ⟨a, xs, rfl, za, SqT.of ha, fun p hp => ans.new c2 hp (vrNewT c2 hp (by rw [List.length_reverse]; exact za) ra.reverse)⟩
  · cases hz
/-- {} -/
theorem de_dnew : DE X W (.Dict [] [] pos) (xC (.dct [] [])) := peImp pe_dnewK fun σ H Q ⟨α, C, ρ, c, r, h⟩ p hp =>
  h α (upd H p (.dK [])) (Ext.new c hp) (c.new hp) (.ref p) (.dctK upd_same (c.notin_of_none hp) rfl .nil)
/-! ### and, or, not as values -/
variable {a b : Expr} {rest : List Expr} {g : EX}
def xOr (f g : EX) : EX := fun ρ => bnd (f ρ) fun x => bnd (lft fun C => truth C x) fun t => if t = true then ret x else g ρ
def xAnd (f g : EX) : EX := fun ρ => bnd (f ρ) fun x => bnd (lft fun C => truth C x) fun t => if t = true then g ρ else ret x
def xNot (f : EX) : EX := fun ρ => bnd (f ρ) fun x => bnd (lft fun C => truth C x) fun t => ret (.bl (!t))
theorem de_one {op : BoolOp} (h : DE X W a f) : DE X W (.BoolOp op [a] pos) f := pe_one h
theorem de_or (ha : DE X W a f) (hb : DE X W (.BoolOp .Or (b :: rest) pos) g) : DE X W (.BoolOp .Or (a :: b :: rest) pos) (xOr f g) := peImp (pe_orT ha hb) fun σ H Q ⟨α, C, ρ, c, r, h⟩ => by
  refine ⟨α, C, ρ, c, r, (WpO.bnd c h).mono fun α1 H1 C1 x e1 c1 h1 v rv => ?_⟩
  obtain ⟨t, ht, q⟩ := (WpO.bnd c1 h1).lft
  have q := q α1 H1 (Ext.refl _ _) c1
  refine ⟨t, truth_ok c1 rv ht, ?_⟩
  cases t with
  | true =>
    rw [if_pos rfl] at q ⊢
    exact WpO.ret c1 q v rv
  | false =>
    rw [if_neg Bool.false_ne_true] at q ⊢
    exact ⟨α1, C1, ρ, c1, r.ext c e1, q⟩
theorem de_and (ha : DE X W a f) (hb : DE X W (.BoolOp .And (b :: rest) pos) g) : DE X W (.BoolOp .And (a :: b :: rest) pos) (xAnd f g) := peImp (pe_andT ha hb) fun σ H Q ⟨α, C, ρ, c, r, h⟩ => by
  refine ⟨α, C, ρ, c, r, (WpO.bnd c h).mono fun α1 H1 C1 x e1 c1 h1 v rv => ?_⟩
  obtain ⟨t, ht, q⟩ := (WpO.bnd c1 h1).lft
  have q := q α1 H1 (Ext.refl _ _) c1
  refine ⟨t, truth_ok c1 rv ht, ?_⟩
  cases t with
  | true =>
    rw [if_pos rfl] at q ⊢
    exact ⟨α1, C1, ρ, c1, r.ext c e1, q⟩
  | false =>
    rw [if_neg Bool.false_ne_true] at q ⊢
    exact WpO.ret c1 q v rv
theorem de_not (ha : DE X W a f) : DE X W (.UnaryOp .Not a pos) (xNot f) := peImp (pe_notT ha) fun σ H Q ⟨α, C, ρ, c, r, h⟩ => by
  refine ⟨α, C, ρ, c, r, (WpO.bnd c h).mono fun α1 H1 C1 x e1 c1 h1 v rv => ?_⟩
  obtain ⟨t, ht, q⟩ := (WpO.bnd c1 h1).lft
  exact ⟨t, truth_ok c1 rv ht, WpO.ret c1 (q α1 H1 (Ext.refl _ _) c1) _ (.bl _)⟩
/-! ### displays, by their length -/
def LenA (fa : AX) (n : Nat) : Prop := ∀ ρ C xs C', fa ρ C = .ok (xs, C') → xs.length = n
theorem lenNil : LenA aNil 0 := fun _ _ _ _ h => aNil_len h
theorem lenCons {f : EX} {fa : AX} {n : Nat} (h : LenA fa n) : LenA (aCons f fa) (n + 1) := fun _ _ _ _ e => aCons_len h e
variable {es : List Expr} {fa : AX} {n : Nat}
def xTup (fa : AX) : EX := xN (fun _ xs => some (.tup xs)) fa
def xLst (fa : AX) : EX := xN (fun _ xs => some (.lst xs)) fa
theorem de_tupN {x1 : Nat} (h : DA X W es fa) (l : LenA fa n) (hn : n ≤ sizeLine := by decide) : DE X W (.Tuple es x1 pos) (xTup fa) := de_tup h fun ρ C xs C' e => by rw [l ρ C xs C' e]; exact hn
theorem de_lstN (h : DA X W es fa) (l : LenA fa n) (hn : n ≤ sizeLine := by decide) : DE X W (.List es pos) (xLst fa) := de_lst h fun ρ C xs C' e => by rw [l ρ C xs C' e]; exact hn
theorem de_cellN (h : DA X W es fa) (l : LenA fa n) (hn : n ≤ sizeLine := by decide) : DE X W (.List es pos) (xCell fa) := de_cell h fun ρ C xs C' e => by rw [l ρ C xs C' e]; exact hn
theorem room65 {k : Nat} {A : Around} (hr : Room k A) : A.units + 65 < cLine := by have := hr.un; omega
end
theorem law_fn {P : Program} {w : World} {K : PySem.W.Frag} {mg : Str → Option Value} {base : Heap} {f : Addr} {fd : FuncData} {ps : List Str} {k : Nat} {g : List D → Mo D} (F : FnOk P w K mg base (L2.CX P w) k f fd ps (spD K mg 1 g))
    (h : ∀ ns : List Int, ns.length ≤ 63 → ∃ C, g [.scr (ns.map D.int)] [] = .ok (.bl true, C)) : FnOk P w K mg base (L2.CX P w) k f fd ps (spLaw K) := by
  refine F.imp fun vs H Q E ⟨a, ns, e, hs, hl, q⟩ => ?_
  subst e
  obtain ⟨C, hC⟩ := h ns hl
  refine ⟨⟨[], []⟩, [], [.scr (ns.map D.int)], ⟨rfl, List.nodup_nil, fun k a cl h => by simp at h, fun _ h => nomatch h⟩, .cons (.scr hs (by rw [List.length_map]; exact Nat.le_trans hl (by decide)) (VRs.ints ns)) .nil, rfl, ?_⟩
  rw [hC]
  intro α' H' _ _ v rv
  rw [rv.blInv]
  exact q H'
theorem sqF_of {K : PySem.W.Frag} {H : Hp} {a : Addr} {xs : List V} (o : Only H) (h : SqL K H a xs) : SqF K H a xs := by
  rcases h with (h | ⟨ob, h⟩) | h
  · rcases o a with z | ⟨ob, ys, z⟩
    · rw [h] at z; cases z
    · rw [h] at z; cases z
  · exact .inl ⟨ob, h⟩
  · exact .inr h
/-- the walk that the head leaves -/
theorem walkD {l : PySem.W.OpenLaw} {k : Nat} {q : Program} {loose : List Str} {XP : (Str → Option Value) → Heap → Prop} {YP : World → Heap → Prop} {d : DefRec} {K : Params → PySem.W.Frag} (hn : l.most = some 63) (hdf : d.params.defaults = []) (hr : Room k callerA)
    (hY : ∀ (w : World) (h : Heap), YP w h → (K w.params).In h)
    (F : ∀ (w : World) (mg : Str → Option Value) (fa : Addr) (h : Heap), (K w.params).In h → h.Ns mainGlobals mg → mg d.name = some (.ref fa) →
      ∃ fd : FuncData, (∀ (s : Shared) (u : Value), BindsTo s fd ⟨[u], []⟩ [("script", u)]) ∧ ∀ base : Heap, (K w.params).In base → base.Ns mainGlobals mg → FnOk l.prog w (K w.params) mg base (L2.CX l.prog w) k fa fd ["script"] (spLaw (K w.params))) :
    PySem.W.WalkO q loose XP YP l.row.toRowW d [] (fun f vs => PySem.call f vs) :=
  L2.walk_of (n := 63) (k := k) (x := "script") (CX := fun w => L2.CX l.prog w) (sp := fun w => spLaw (K w.params)) hn (by decide) hdf hr hY F (fun _ _ a ns hl o hS => ⟨a, ns, rfl, sqF_of o hS, hl, fun _ => rfl⟩) fun w H s e s' z => by
    obtain ⟨_, _, _, _, _, _, _, _, _, _, _, _, z⟩ := z
    exact z.elim
end DL

/-! DL10: new lists as cells. -/
namespace DL
open PySem L2
section
variable {X : Cx} {W : WX} {a b e : Expr} {f g : EX} {pos : Pos} {σ : St} {H : Hp} {Q : VK}
/-- a new list's data becomes a cell -/
def mkC (ds : List D) : Mo D := fun C => .ok (.hnd C.length, C ++ [.lst ds])
theorem mkC_ok {α : Al} {C : Cells} {ds : List D} {xs : List V} {E : XK} (c : CR X.K α H C) (h : WpO X.K X.mg α H (fun α' H' _ x => ∀ v, VR X.K α' H' v x → Q v H') E (mkC ds C)) (hl : xs.length ≤ sizeLine) (r : VRs X.K α H xs ds) {p : Addr} (hp : H p = none) : Q (.ref p) (upd H p (.lst xs)) := by
  have ex := Ext.newCell (o := .lst xs) c hp
  have cn : CR X.K (α.push p) (upd H p (.lst xs)) (C ++ [.lst ds]) := c.newCell hp ⟨xs, upd_same, hl, r.ext c ex⟩
  exact h (α.push p) _ ex cn (.ref p) (.hnd (by rw [← c.len]; simp))
def catL (x y : D) : Mo D := fun C => match look C x, look C y with
  | .lst a, .lst b => if a.length + b.length ≤ sizeLine then mkC (a ++ b) C else .bad
  | _, _ => .bad
def xCat (f g : EX) : EX := fun ρ => bnd (f ρ) fun x => bnd (g ρ) fun y => catL x y
theorem de_catC (ha : DE X W a f) (hb : DE X W b g) : DE X W (.BinOp a .Add b pos) (xCat f g) := peImp (pe_op op_cat ha hb) fun σ H Q ⟨α, C, ρ, c, r, h⟩ => by
  refine ⟨α, C, ρ, c, r, (WpO.bnd c h).mono fun α1 H1 C1 x e1 c1 h1 v rv => ?_⟩
  refine ⟨α1, C1, ρ, c1, r.ext c e1, (WpO.bnd c1 h1).mono fun α2 H2 C2 y e2 c2 h2 w rw => ?_⟩
  unfold catL at h2
  split at h2
  · rename_i as bs l1 l2
    split at h2
    · rename_i hl
      obtain ⟨a, xs, rfl, ha, za, ra⟩ := (rv.ext c1 e2).asL c2 l1
      obtain ⟨b, ys, rfl, hb, zb, rb⟩ := rw.asL c2 l2
      have q1 := ra.length
      have q2 := rb.length
      exact ⟨_, _, xs, ys, rfl, rfl, ha, hb, by omega, fun p hp => mkC_ok c2 h2 (by rw [List.length_append]; omega) (ra.append rb) hp⟩
    · exact h2.elim
  · exact h2.elim
end
end DL

/-! DL11: list(range(..)), gcd, sum, max, min, any, all, sorted. -/
namespace DL
open PySem L2
section
variable {X : Cx} {W : WX} {a b e : Expr} {es : List Expr} {f g : EX} {fa : AX} {pos : Pos} {σ : St} {H : Hp} {Q : VK}
def rgO1 : D → Option (List D)
  | .int j => if -1000000 ≤ j ∧ j ≤ 1000000 then some (rgD 0 j) else none
  | _ => none
def rgO2 (x y : D) : Option (List D) := match x, y with
  | .int i, .int j => if -1000000 ≤ i ∧ i ≤ 1000000 ∧ -1000000 ≤ j ∧ j ≤ 1000000 then some (rgD i j) else none
  | _, _ => none
theorem rgV_ok {K : PySem.W.Frag} {α : Al} {H : Hp} {i j : Int} : VRs K α H (rgV i j) (rgD i j) := by
  have e : rgV i j = (List.range (j - i).toNat).map fun (k : Nat) => V.int (i + (k : Int)) := by
    unfold rgV
    try rfl
    try (refine List.map_congr_left fun k _ => ?_; congr 1; omega)
  rw [e]
  unfold rgD
  generalize List.range (j - i).toNat = l
  induction l with
  | nil => exact .nil
  | cons k l ih => exact .cons (.int _) ih
theorem rgV_len {i j : Int} : (rgV i j).length = (j - i).toNat := by simp [rgV]
/-- list(range(n)) -/
def xLr1 (f : EX) : EX := x1 (fun _ x => (rgO1 x).map .lst) f
def xLr2 (f g : EX) : EX := x2 (fun _ x y => (rgO2 x y).map .lst) f g
theorem de_lr1 {p p2 pos2 : Pos} (hc : X.calm = true) (hm : X.mg "list" = none) (hm2 : X.mg "range" = none) (ha : DE X W e f) (hg : Gl X "list" := by rfl) (hg2 : Gl X "range" := by rfl) (na : starEach [.Call (.Name "range" p2) [e] [] pos2] X.env = (false, eval (.Call (.Name "range" p2) [e] [] pos2) X.env) :: starEach [] X.env := by rfl)
    (nb : starEach [e] X.env = (false, eval e X.env) :: starEach [] X.env := by rfl) : DE X W (.Call (.Name "list" p) [.Call (.Name "range" p2) [e] [] pos2] [] pos) (xLr1 f) :=
  peImp (pe_listRg hc hg hm (prg_1 hg2 hm2 ha nb) na) fun σ H Q h => by
  obtain ⟨α, C, ρ, c, r, h⟩ := tD_x1 h
  refine ⟨α, C, ρ, c, r, h.mono fun α1 H1 C1 x e1 c1 h1 v rv => ?_⟩
  obtain ⟨α2, C2, dx, dz, c2, rx, hz, ans⟩ := h1 v rv
  obtain ⟨ds, h1, h2⟩ := Option.map_eq_some_iff.mp hz
  subst h2
  cases dx with
  | int j =>
    unfold rgO1 at h1
    dsimp only at h1
    split at h1
    · rename_i hj
      cases h1
      refine ⟨j, rx.intInv, ⟨by omega, by omega, by omega, by omega, by omega⟩, fun q hq => ans.new c2 hq (vrNew c2 hq ?_ rgV_ok)⟩
      rw [rgV_len]
      exact Nat.le_trans (show (j - 0).toNat ≤ 1000000 by omega) (by decide)
    · cases h1
  | _ => cases h1
theorem de_lr2 {p p2 pos2 : Pos} (hc : X.calm = true) (hm : X.mg "list" = none) (hm2 : X.mg "range" = none) (ha : DE X W e f) (hb : DE X W b g) (hg : Gl X "list" := by rfl) (hg2 : Gl X "range" := by rfl) (na : starEach [.Call (.Name "range" p2) [e, b] [] pos2] X.env = (false, eval (.Call (.Name "range" p2) [e, b] [] pos2) X.env) :: starEach [] X.env := by rfl)
    (nb : starEach [e, b] X.env = (false, eval e X.env) :: starEach [b] X.env := by rfl) (nc : starEach [b] X.env = (false, eval b X.env) :: starEach [] X.env := by rfl) (hp : (backTo pos2 (starEach [b] X.env)).any (·.1) = false := by rfl) : DE X W (.Call (.Name "list" p) [.Call (.Name "range" p2) [e, b] [] pos2] [] pos) (xLr2 f g) :=
  peImp (pe_listRg hc hg hm (prg_2 hg2 hm2 ha hb nb nc hp) na) fun σ H Q h => by
  obtain ⟨α, C, ρ, c, r, h⟩ := tD_x2 h
  refine ⟨α, C, ρ, c, r, h.mono fun α1 H1 C1 x e1 c1 h1 v rv => ?_⟩
  obtain ⟨α2, C2, ρ2, c2, r2, h2⟩ := h1 v rv
  refine ⟨α2, C2, ρ2, c2, r2, h2.mono fun α3 H3 C3 y e3 c3 h3 w rw => ?_⟩
  obtain ⟨α4, C4, dx, dy, dz, c4, rx, ry, hz, ans⟩ := h3 w rw
  obtain ⟨ds, h1, h2⟩ := Option.map_eq_some_iff.mp hz
  subst h2
  cases dx with
  | int i =>
    cases dy with
    | int j =>
      unfold rgO2 at h1
      dsimp only at h1
      split at h1
      · rename_i hj
        cases h1
        refine ⟨i, j, rx.intInv, ry.intInv, ⟨by omega, by omega, by omega, by omega, by omega⟩, fun q hq => ans.new c4 hq (vrNew c4 hq ?_ rgV_ok)⟩
        rw [rgV_len]
        exact Nat.le_trans (show (j - i).toNat ≤ 2000000 by omega) (by decide)
      · cases h1
    | _ => cases h1
  | _ => cases h1
/-- gcd -/
def oGcd : OpN := fun _ xs => match xs with
  | [.int i, .int j] => some (.int ((Nat.gcd i.natAbs j.natAbs : Nat) : Int))
  | _ => none
theorem c_gcd : CallR X (.builtin "math.gcd") (rDN X.K oGcd) := callImp cr_gcd fun xs H Q ⟨α, C, ds, dz, c, r, h, ans⟩ => by
  unfold oGcd at h
  split at h
  · rename_i i j
    cases h
    obtain ⟨v, v', rfl, rv, rv'⟩ := vrs2 r
    exact ⟨i, j, by rw [rv.intInv, rv'.intInv], ans.here c (.int _)⟩
  · cases h
theorem de_bfun {x : Str} {id : String} {o : OpN} {p : Pos} (hc : CallR X (.builtin id) (rDN X.K o)) (hg : Gl X x) (hm : X.mg x = some (.builtin id)) (ha : DA X W (e :: es) fa)
    (hdb : (x == ("__debug__" : Str)) = false := by decide) (he : starEach (e :: es) X.env = (false, eval e X.env) :: starEach es X.env := by rfl) (hpl : (backTo pos (starEach es X.env)).any (·.1) = false := by rfl) : DE X W (.Call (.Name x p) (e :: es) [] pos) (xN o fa) :=
  peImp (pe_callBfun hc hg hm ha hdb he hpl) fun σ H Q h => tD_xN h

/-! ### lists of ints, of truths -/
def intsO : List D → Option (List Int)
  | [] => some []
  | .int i :: r => (intsO r).map (i :: ·)
  | _ :: _ => none
def blsO : List D → Option (List Bool)
  | [] => some []
  | .bl i :: r => (blsO r).map (i :: ·)
  | _ :: _ => none
theorem intsO_eq : ∀ {ds : List D} {ns : List Int}, intsO ds = some ns → ds = ns.map D.int
  | [], ns, h => by cases h; rfl
  | .int i :: r, ns, h => by
    obtain ⟨m, h1, h2⟩ := Option.map_eq_some_iff.mp (show (intsO r).map (i :: ·) = some ns from h)
    subst h2
    rw [intsO_eq h1]
    rfl
  | .non :: _, _, h => nomatch h
  | .bl _ :: _, _, h => nomatch h
  | .str _ :: _, _, h => nomatch h
  | .tup _ :: _, _, h => nomatch h
  | .lst _ :: _, _, h => nomatch h
  | .dct _ _ :: _, _, h => nomatch h
  | .hnd _ :: _, _, h => nomatch h
  | .ref _ :: _, _, h => nomatch h
  | .ty _ :: _, _, h => nomatch h
  | .scr _ :: _, _, h => nomatch h
theorem blsO_eq : ∀ {ds : List D} {ns : List Bool}, blsO ds = some ns → ds = ns.map D.bl
  | [], ns, h => by cases h; rfl
  | .bl i :: r, ns, h => by
    obtain ⟨m, h1, h2⟩ := Option.map_eq_some_iff.mp (show (blsO r).map (i :: ·) = some ns from h)
    subst h2
    rw [blsO_eq h1]
    rfl
  | .non :: _, _, h => nomatch h
  | .int _ :: _, _, h => nomatch h
  | .str _ :: _, _, h => nomatch h
  | .tup _ :: _, _, h => nomatch h
  | .lst _ :: _, _, h => nomatch h
  | .dct _ _ :: _, _, h => nomatch h
  | .hnd _ :: _, _, h => nomatch h
  | .ref _ :: _, _, h => nomatch h
  | .ty _ :: _, _, h => nomatch h
  | .scr _ :: _, _, h => nomatch h
theorem vrs_ints {K : PySem.W.Frag} {α : Al} {H : Hp} : ∀ {xs : List V} {ns : List Int}, VRs K α H xs (ns.map D.int) → xs = ns.map V.int
  | _, [], .nil => rfl
  | _, n :: ns, .cons h t => by rw [h.intInv, vrs_ints t]; rfl
theorem vrs_bls {K : PySem.W.Frag} {α : Al} {H : Hp} : ∀ {xs : List V} {ns : List Bool}, VRs K α H xs (ns.map D.bl) → xs = ns.map V.bl
  | _, [], .nil => rfl
  | _, n :: ns, .cons h t => by rw [h.blInv, vrs_bls t]; rfl
/-- the items of a list, no tuple -/
def lstOf : D → Option (List D)
  | .lst ds => some ds
  | .scr ds => some ds
  | _ => none
theorem VR.asLst {K : PySem.W.Frag} {α : Al} {C : Cells} {v : V} {d : D} {ds : List D} (c : CR K α H C) (r : VR K α H v d) (h : lstOf (look C d) = some ds) : ∃ a xs, v = .ref a ∧ SqL K H a xs ∧ xs.length ≤ sizeLine ∧ VRs K α H xs ds := by
  cases hl : look C d with
  | lst es =>
    rw [hl] at h
    cases h
    obtain ⟨a, xs, e, ha, z, ra⟩ := r.asL c hl
    exact ⟨a, xs, e, SqL.of ha, z, ra⟩
  | scr es =>
    rw [hl] at h
    cases h
    obtain ⟨a, xs, e, ha, z, ra⟩ := r.asScr hl
    exact ⟨a, xs, e, ha, z, ra⟩
  | _ => rw [hl] at h; cases h
def oInts (p : List Int → Option D) : OpN := fun C xs => match xs with
  | [x] => ((lstOf (look C x)).bind intsO).bind p
  | _ => none
def oBls (p : List Bool → Option D) : OpN := fun C xs => match xs with
  | [x] => ((lstOf (look C x)).bind blsO).bind p
  | _ => none
theorem oInts_some {K : PySem.W.Frag} {α : Al} {C : Cells} {p : List Int → Option D} {xs : List V} {ds : List D} {dz : D} (c : CR K α H C) (r : VRs K α H xs ds) (h : oInts p C ds = some dz) : ∃ a ns, xs = [.ref a] ∧ SqL K H a (ns.map V.int) ∧ (ns.map V.int).length ≤ sizeLine ∧ p ns = some dz := by
  unfold oInts at h
  split at h
  · rename_i x
    obtain ⟨v, rfl, rv⟩ := vrs1 r
    obtain ⟨ns, h1, h2⟩ := Option.bind_eq_some_iff.mp h
    obtain ⟨es, h3, h4⟩ := Option.bind_eq_some_iff.mp h1
    obtain ⟨a, xs, rfl, ha, z, ra⟩ := rv.asLst c h3
    rw [intsO_eq h4] at ra
    rw [vrs_ints ra] at ha z
    exact ⟨a, ns, rfl, ha, z, h2⟩
  · cases h
theorem oBls_some {K : PySem.W.Frag} {α : Al} {C : Cells} {p : List Bool → Option D} {xs : List V} {ds : List D} {dz : D} (c : CR K α H C) (r : VRs K α H xs ds) (h : oBls p C ds = some dz) : ∃ a ns, xs = [.ref a] ∧ SqL K H a (ns.map V.bl) ∧ p ns = some dz := by
  unfold oBls at h
  split at h
  · rename_i x
    obtain ⟨v, rfl, rv⟩ := vrs1 r
    obtain ⟨ns, h1, h2⟩ := Option.bind_eq_some_iff.mp h
    obtain ⟨es, h3, h4⟩ := Option.bind_eq_some_iff.mp h1
    obtain ⟨a, xs, rfl, ha, z, ra⟩ := rv.asLst c h3
    rw [blsO_eq h4] at ra
    rw [vrs_bls ra] at ha
    exact ⟨a, ns, rfl, ha, h2⟩
  · cases h
def oSum : OpN := oInts fun ns => some (.int ns.sum)
theorem c_sum (hc : X.calm = true) : CallR X (.builtin "sum") (rDN X.K oSum) := callImp (cr_sum hc) fun xs H Q ⟨α, C, ds, dz, c, r, h, ans⟩ => by
  obtain ⟨a, ns, rfl, ha, _, hp⟩ := oInts_some c r h
  cases hp
  exact ⟨a, ns, rfl, ha, ans.here c (.int _)⟩
def maxI (ns : List Int) : Option Int := ns.max?
def minI (ns : List Int) : Option Int := ns.min?
def oMax : OpN := oInts fun ns => ns.max?.map .int
def oMin : OpN := oInts fun ns => ns.min?.map .int
theorem c_max (hc : X.calm = true) : CallR X (.builtin "max") (rDN X.K oMax) := callImp (cr_max hc) fun xs H Q ⟨α, C, ds, dz, c, r, h, ans⟩ => by
  obtain ⟨a, ns, rfl, ha, _, hp⟩ := oInts_some c r h
  obtain ⟨m, h1, h2⟩ := Option.map_eq_some_iff.mp hp
  subst h2
  refine ⟨a, ns, rfl, ha, ?_, fun k hk hl => ?_⟩
  · cases ns with
    | nil => cases h1
    | cons _ _ => simp
  · obtain ⟨h3, h4⟩ := List.max?_eq_some_iff.mp h1
    have e : k = m := Int.le_antisymm (h4 k hk) (hl m h3)
    subst e
    exact ans.here c (.int _)
theorem c_min (hc : X.calm = true) : CallR X (.builtin "min") (rDN X.K oMin) := callImp (cr_min hc) fun xs H Q ⟨α, C, ds, dz, c, r, h, ans⟩ => by
  obtain ⟨a, ns, rfl, ha, _, hp⟩ := oInts_some c r h
  obtain ⟨m, h1, h2⟩ := Option.map_eq_some_iff.mp hp
  subst h2
  refine ⟨a, ns, rfl, ha, ?_, fun k hk hl => ?_⟩
  · cases ns with
    | nil => cases h1
    | cons _ _ => simp
  · obtain ⟨h3, h4⟩ := List.min?_eq_some_iff.mp h1
    have e : k = m := Int.le_antisymm (hl m h3) (h4 k hk)
    subst e
    exact ans.here c (.int _)
def oAny : OpN := oBls fun ns => some (.bl (ns.any id))
theorem c_any (hc : X.calm = true) : CallR X (.builtin "any") (rDN X.K oAny) := callImp (cr_any hc) fun xs H Q ⟨α, C, ds, dz, c, r, h, ans⟩ => by
  obtain ⟨a, ns, rfl, ha, hp⟩ := oBls_some c r h
  cases hp
  exact ⟨a, ns, rfl, ha, ans.here c (.bl _)⟩
def oAll : OpN := oBls fun ns => some (.bl (ns.all id))
theorem c_all (hc : X.calm = true) : CallR X (.builtin "all") (rDN X.K oAll) := callImp (cr_all hc) fun xs H Q ⟨α, C, ds, dz, c, r, h, ans⟩ => by
  obtain ⟨a, ns, rfl, ha, hp⟩ := oBls_some c r h
  cases hp
  exact ⟨a, ns, rfl, ha, ans.here c (.bl _)⟩
def sortI (ns : List Int) : List Int := ns.mergeSort (· ≤ ·)
theorem sortI_eq {ns ms : List Int} (hp : ms.Perm ns) (hs : ms.Pairwise (· ≤ ·)) : ms = sortI ns := by
  refine List.Perm.eq_of_pairwise (le := (· ≤ ·)) (fun a b _ _ h1 h2 => Int.le_antisymm h1 h2) hs ?_ (hp.trans (List.mergeSort_perm ns _).symm)
  have := List.pairwise_mergeSort (le := fun a b : Int => decide (a ≤ b)) (fun a b c h1 h2 => by simp at *; omega) (fun a b => by simp; omega) ns
  exact this.imp fun h => by simpa using h
def oSorted : OpN := oInts fun ns => some (.lst ((sortI ns).map D.int))
theorem c_sorted : CallR X (.builtin "sorted") (rDN X.K oSorted) := callImp cr_sortedI fun xs H Q ⟨α, C, ds, dz, c, r, h, ans⟩ => by
  obtain ⟨a, ns, rfl, ha, z, hp⟩ := oInts_some c r h
  cases hp
  refine ⟨a, ns, rfl, ha, fun ms p h1 h2 hp => ?_⟩
  rw [sortI_eq h1 h2]
  refine ans.new c hp (vrNew c hp ?_ (VRs.ints _))
  rw [List.length_map] at z ⊢
  unfold sortI
  rw [List.length_mergeSort]
  exact z
end
end DL

/-! DL12: sets of ints made of a list or a tuple: sorted(set(xs)). -/
namespace DLS
open PySem PySem.Spec PyProof.Rows L2
abbrev ob0 (w : World) : Obj := { cls := .type "set", dict := none, data := .set #[] 0 (.fresh 0 0 (!w.params.followText "set-order")) }
section
variable {P : Program} {w : World} {A : Around} {E : Value → Shared → Prop} {s : Shared}
def Fit (w : World) (s : Shared) (ns : List Int) (h' : Heap) (c : Nat) : Prop := SetR w h' s.heap.objs.size (fun j => decide (j ∈ ns)) c ∧ c ≤ ns.length ∧ ∀ b o, s.heap.get? b = some o → h'.get? b = some o
set_option maxRecDepth 100000 in
set_option maxHeartbeats 3200000 in
theorem call_setL {l : Addr} {its : Array Value} (ns : List Int) {Q : Value → Shared → Prop} (hh : A.handled = none) (hl : s.heap.IsList l its) (hit : IntsAre its.toList ns) (hb : ns.length + 1 < scanBound)
    (h : ∀ (h' : Heap) (tk c : Nat), Fit w s ns h' c → Q (.ref s.heap.objs.size) { s with heap := h', toks := tk }) : wpAny (model P w) A (call (.type "set") [.ref l]) Q E s := by
  have isz : its.size = ns.length := (Array.length_toList (xs := its)).symm.trans (IntsAre.length hit)
  have ⟨c, tl, mro⟩ := F.called_set.mro; have mk := F.called_set.made; have sb := F.called_set.sub
  refine wpAny_call (codeAny_of_tree (show wpAny _ _ (callAny (.type "set") _) _ _ _ from wpAny_pure ⟨Code.quiet_builtin _ (by decide +kernel), codeAny_builtin F.entry_type_call ?_⟩))
  rw [Around.under_plain (weight_type_call_type "set" [.ref l] []) rfl]
  have q1 := F.called_set.notType; have q2 := F.called_set.canCreate; have q3 := F.typeCall_set_1 (.ref l)
  repeat (any_goals (first | assumption | wp_step))
  let s0 : Shared := { s with heap := s.heap.push (ob0 w) }
  refine codeAny_mono (code_set_led1 (.ref l) (E := E) (Q₁ := fun ob s₁ => ob = .ref s.heap.objs.size ∧ s₁ = { s with heap := s.heap.push (ob0 w) }) ⟨rfl, rfl⟩) fun r s₁ hr => ?_
  match r, hr with
  | .ok (.ret ob), ⟨e1, e2⟩ =>
    subst e1 e2
    have hS : (s.heap.push (ob0 w)).get? s.heap.objs.size = some (ob0 w) := Heap.get?_push_size _ rfl
    have hT : Shared.TypeIs { s with heap := s.heap.push (ob0 w) } (.ref s.heap.objs.size) "set" := ⟨_, hS, rfl⟩
    have i1 := F.called_set.init.lookup; have i2 := F.called_set.init.bind (.ref s.heap.objs.size)
    repeat (any_goals (first | assumption | wp_step))
    refine codeAny_mono (codeAny_call_builtin (R := wants (fun r s₂ => r = .none ∧ ∃ h' tk c, s₂ = { s with heap := h', toks := tk } ∧ Fit w s ns h' c) E) F.called_set.init.plain F.entry_set_init (check_set_init_1 hT ?_)) fun r₂ s₂ z => ?_
    · have ⟨ol, hol, hcl, nl, hdl⟩ := hl
      obtain ⟨ocls, odict, odata, oslots⟩ := ol
      simp only at hcl hdl
      subst hcl hdl
      have hol' : (s.heap.push (ob0 w)).get? l = some { cls := .type "list", dict := odict, data := .seq its nl, slots := oslots } := Heap.get?_push_of_some _ hol
      have n1 := F.sub_list_set; have n2 := F.sub_list_frozenset; have n3 : (Value.type "list" == Value.type "dict") = false := by decide
      have l1 : (s.heap.push (ob0 w)).IsList l its := ⟨_, hol', rfl, nl, rfl⟩
      unfold Builtin.«set.__init__» noKeywords Builtin.Frozenset.updateFrom
      generalize hPI : pyIter = PI
      wp_walk
      subst hPI
      refine wpAny_pyIter_list l1 (wpAny_bind (wpAny_runValue ?_))
      have lS : l < s.heap.objs.size := Heap.lt_size hol
      have hh3 : A.in1.in1.in1.handled = none := by simp [hh]
      have sz : (s.heap.push (ob0 w)).objs.size = s.heap.objs.size + 1 := Heap.size_push ..
      have lI : l ≠ (s.heap.push (ob0 w)).objs.size := Nat.ne_of_lt (by rw [sz]; exact Nat.lt_succ_of_lt lS)
      have sI : s.heap.objs.size ∉ [(s.heap.push (ob0 w)).objs.size, l] := fun z => by
        rcases List.mem_cons.mp z with z | z
        · exact absurd z (Nat.ne_of_lt (by rw [sz]; exact Nat.lt_succ_self _))
        · exact absurd (List.mem_singleton.mp z) (Nat.ne_of_gt lS)
      have val : ∀ (i : Nat) (v : Value), its[i]? = some v → ∃ k t, ns[i]? = some k ∧ v = .int k t := fun i v hv => by
        have hi : i < ns.length := isz ▸ (Array.getElem?_eq_some_iff.mp hv).1
        obtain ⟨t, e⟩ := hit.int_at i v (by rw [Array.getElem?_toList]; exact hv)
        exact ⟨ns[i], t, List.getElem?_eq_getElem hi, by rw [e, List.getD_eq_getElem?_getD, List.getElem?_eq_getElem hi]; rfl⟩
      refine set_update_ints ((Walks.list hh3 _ l lI its).toS) s.heap.objs.size sI ns isz hb val (its.size - 0) 0 _ (by omega) (Nat.zero_le _) ⟨⟨_, Heap.get?_push_size _ rfl, rfl, rfl⟩, l1.push _⟩ ⟨0, Nat.le_refl 0, setR_new_at (Heap.get?_push_of_some _ hS)⟩ fun s' c' hm hc' hS' => ?_
      obtain ⟨h', g2, d', tk', os'⟩ := s'
      have eg : g2 = s.gens := hm.gens; have ed : d' = s.drawn := hm.drawn; have eo : os' = s.os := hm.os
      subst eg ed eo
      refine wpAny_pure (show wpAny _ _ (ret Value.none) _ _ _ from wpAny_pure ⟨rfl, h', tk', c', rfl, hS', isz ▸ hc', fun b o e => ?_⟩)
      have lt := Heap.lt_size e
      refine hm.heap b o (fun z => ?_) (Heap.get?_push_of_some _ (Heap.get?_push_of_some _ e))
      rcases List.mem_cons.mp z with z | z
      · exact absurd z (Nat.ne_of_lt lt)
      · exact absurd (List.mem_singleton.mp z) (Nat.ne_of_lt (by rw [sz]; exact Nat.lt_succ_of_lt lt))
    · match r₂, z with
      | .ok (.ret _), ⟨e1, h', tk, c', e2, ft⟩ =>
        subst e1 e2
        repeat (any_goals (first | assumption | wp_step))
        exact h _ _ _ ft
      | .ok .next, z => exact z.elim
      | .ok .brk, z => exact z.elim
      | .ok .cont, z => exact z.elim
      | .error _, z => exact z
  | .ok .next, z => exact z.elim
  | .ok .brk, z => exact z.elim
  | .ok .cont, z => exact z.elim
  | .error _, z => exact z
end
end DLS
namespace DL
open PySem L2
section
variable {X : Cx} {W : WX} {a b e : Expr} {es : List Expr} {f g : EX} {fa : AX} {pos : Pos} {σ : St} {H : Hp} {Q : VK}
/-- set(xs) of ints: a set -/
def rSetI (K : PySem.W.Frag) (w : World) : List V → Hp → VK → Prop := fun xs H Q => ∃ (l : Addr) (ns : List Int), xs = [V.ref l] ∧ (SqL K H l (ns.map V.int) ∨ SqT K H l (ns.map V.int)) ∧ ns.length ≤ 1000 ∧
  ∀ p c, H p = none → c ≤ ns.length → Q (.ref p) (upd H p (SetO w p (fun j => decide (j ∈ ns)) c))
theorem cr_setI (hc : X.calm = true) : CallR X (.type "set") (rSetI X.K X.w) := by
  intro pins s σ H xs us Q I r h
  obtain ⟨l, ns, rfl, hq, hl, q⟩ := h
  rw [Vals.ref1 r]
  have fin : ∀ (h' : Heap) (tk c : Nat), SetR X.w h' s.heap.objs.size (fun j => decide (j ∈ ns)) c → c ≤ ns.length → (∀ b o, s.heap.get? b = some o → h'.get? b = some o) → EP X pins σ Q (.ref s.heap.objs.size) { s with heap := h', toks := tk } := fun h' tk c R hcl k => by
    have np : H s.heap.objs.size = none := I.hok.fresh (Nat.le_refl _)
    refine ⟨.ref s.heap.objs.size, _, I.call (ch := []) (Un.laid k (Nat.le_refl _) np) (I.hok.laid k (Nat.le_refl _) (setO_new R)) (by exact I.bare) (fun _ z => nomatch z), rfl, q _ _ np hcl⟩
  rcases hq with hq | hq
  · obtain ⟨its, rv, pl, hz⟩ := I.list hq
    exact DLS.call_setL ns (I.ok.hd hc) pl.isList (by simpa using rv.ints) (by unfold scanBound; omega) fun h' tk c ft => fin h' tk c ft.1 ft.2.1 ft.2.2
  · obtain ⟨its, rv, pl, hz⟩ := I.tuple hq
    exact call_set_tupI ns (I.ok.hd hc) pl (by simpa using rv.ints) (by unfold scanBound; omega) fun h' tk c R hcl k => fin h' tk c R hcl k
end
end DL

/-! DL13: sorted(set(xs)), zip, enumerate, tuple(range(..)), a module's tuples. -/
namespace DL
open PySem L2
/-! ### the sorted set -/
def insI (a : Int) : List Int → List Int
  | [] => [a]
  | b :: r => if a < b then a :: b :: r else if a = b then b :: r else b :: insI a r
def dsort (ns : List Int) : List Int := ns.foldr insI []
theorem mem_insI {a k : Int} : ∀ {l : List Int}, k ∈ insI a l ↔ k = a ∨ k ∈ l
  | [] => by simp [insI]
  | b :: r => by
    unfold insI
    split
    · simp
    · split
      · rename_i h1 h2
        subst h2
        simp only [List.mem_cons]
        constructor
        · exact .inr
        · rintro (h | h)
          · exact .inl h
          · exact h
      · rw [List.mem_cons, mem_insI, List.mem_cons]
        constructor
        · rintro (h | h | h)
          · exact .inr (.inl h)
          · exact .inl h
          · exact .inr (.inr h)
        · rintro (h | h | h)
          · exact .inr (.inl h)
          · exact .inl h
          · exact .inr (.inr h)
theorem mem_dsort {k : Int} : ∀ {ns : List Int}, k ∈ dsort ns ↔ k ∈ ns
  | [] => by simp [dsort]
  | a :: r => by
    show k ∈ insI a (dsort r) ↔ _
    rw [mem_insI, mem_dsort, List.mem_cons]
theorem pw_insI {a : Int} : ∀ {l : List Int}, l.Pairwise (· < ·) → (insI a l).Pairwise (· < ·)
  | [], _ => by simp [insI]
  | b :: r, h => by
    obtain ⟨h1, h2⟩ := List.pairwise_cons.mp h
    unfold insI
    split
    · rename_i q
      refine List.pairwise_cons.mpr ⟨fun k hk => ?_, h⟩
      rcases List.mem_cons.mp hk with rfl | hk
      · exact q
      · exact Int.lt_trans q (h1 k hk)
    · split
      · exact h
      · rename_i q1 q2
        refine List.pairwise_cons.mpr ⟨fun k hk => ?_, pw_insI h2⟩
        rcases mem_insI.mp hk with rfl | hk
        · omega
        · exact h1 k hk
theorem pw_dsort : ∀ ns : List Int, (dsort ns).Pairwise (· < ·)
  | [] => List.Pairwise.nil
  | a :: r => pw_insI (pw_dsort r)
/-- rows that rise, with the same numbers, are one row -/
theorem rise_eq : ∀ {l m : List Int}, l.Pairwise (· < ·) → m.Pairwise (· < ·) → (∀ k, k ∈ l ↔ k ∈ m) → l = m
  | [], [], _, _, _ => rfl
  | [], b :: m, _, _, h => by have := (h b).mpr List.mem_cons_self; simp at this
  | a :: l, [], _, _, h => by have := (h a).mp List.mem_cons_self; simp at this
  | a :: l, b :: m, p, q, h => by
    obtain ⟨p1, p2⟩ := List.pairwise_cons.mp p
    obtain ⟨q1, q2⟩ := List.pairwise_cons.mp q
    have e : a = b := by
      rcases List.mem_cons.mp ((h a).mp List.mem_cons_self) with z | z
      · exact z
      · rcases List.mem_cons.mp ((h b).mpr List.mem_cons_self) with y | y
        · exact y.symm
        · have := q1 a z
          have := p1 b y
          omega
    subst e
    rw [rise_eq p2 q2 fun k => ?_]
    constructor
    · intro hk
      rcases List.mem_cons.mp ((h k).mp (List.mem_cons_of_mem _ hk)) with z | z
      · have := p1 k hk; omega
      · exact z
    · intro hk
      rcases List.mem_cons.mp ((h k).mpr (List.mem_cons_of_mem _ hk)) with z | z
      · have := q1 k hk; omega
      · exact z
theorem dsort_le (ns : List Int) : (dsort ns).length ≤ ns.length := by
  have h : ∀ (a : Int) (l : List Int), (insI a l).length ≤ l.length + 1 := fun a l => by
    induction l with
    | nil => exact Nat.le_refl _
    | cons b r ih =>
      unfold insI
      split
      · simp
      · split
        · simp
        · simp; exact ih
  induction ns with
  | nil => exact Nat.le_refl _
  | cons a r ih => exact Nat.le_trans (h a _) (by simp; exact ih)
section
variable {X : Cx} {W : WX} {a b e : Expr} {es : List Expr} {f g : EX} {fa : AX} {pos : Pos} {σ : St} {H : Hp} {Q : VK}
def seqInts (C : Cells) (x : D) : Option (List Int) := (seqOf (look C x)).bind intsO
theorem VR.asInts {K : PySem.W.Frag} {α : Al} {C : Cells} {v : V} {d : D} {ns : List Int} (c : CR K α H C) (r : VR K α H v d) (h : seqInts C d = some ns) : ∃ l, v = .ref l ∧ (SqL K H l (ns.map V.int) ∨ SqT K H l (ns.map V.int)) := by
  obtain ⟨ds, h1, h2⟩ := Option.bind_eq_some_iff.mp h
  obtain ⟨l, xs, e, ha, z, ra⟩ := r.asSeq c h1
  rw [intsO_eq h2] at ra
  rw [vrs_ints ra] at ha
  refine ⟨l, e, ?_⟩
  rcases ha with ha | ha
  · exact .inl ha.1
  · exact .inr (SqT.of ha.1)
/-- sorted(set(xs)) -/
def oSset : Op1 := fun C x => (seqInts C x).bind fun ns => if ns.length < 64 then some (.lst ((dsort ns).map D.int)) else none
theorem de_sset {p p2 pos2 : Pos} (hc : X.calm = true) (hm : X.mg "sorted" = none) (hm2 : X.mg "set" = none) (ha : DE X W e f) (hg : Gl X "sorted" := by rfl) (hg2 : Gl X "set" := by rfl)
    (n1 : starEach [.Call (.Name "set" p2) [e] [] pos2] X.env = (false, eval (.Call (.Name "set" p2) [e] [] pos2) X.env) :: starEach [] X.env := by rfl) (n2 : starEach [e] X.env = (false, eval e X.env) :: starEach [] X.env := by rfl) : DE X W (.Call (.Name "sorted" p) [.Call (.Name "set" p2) [e] [] pos2] [] pos) (x1 oSset f) :=
  peImp (pe_callB (cr_sortedSet hc) hg hm (by rfl) (pa_cons (pe_callTy (cr_setI hc) hg2 hm2 (by rfl) (pa_cons ha pa_nil n2) (by decide) (by decide) n2 (by rfl)) pa_nil n1) (by decide) (by decide) n1 (by rfl)) fun σ H Q h => by
  obtain ⟨α, C, ρ, c, r, h⟩ := tD_x1 h
  refine ⟨α, C, ρ, c, r, h.mono fun α1 H1 C1 x e1 c1 h1 v rv => ?_⟩
  obtain ⟨α2, C2, dx, dz, c2, rx, hz, ans⟩ := h1 v rv
  obtain ⟨ns, hn, hz⟩ := Option.bind_eq_some_iff.mp hz
  split at hz
  · rename_i hl
    cases hz
    obtain ⟨l, rfl, hq⟩ := rx.asInts c2 hn
    refine ⟨l, ns, rfl, hq, by omega, fun p c' hp hcl => ?_⟩
    refine ⟨p, _, c', rfl, upd_same, by omega, fun ms q h1 h2 _ hq => ?_⟩
    have e : ms = dsort ns := rise_eq h1 (pw_dsort ns) fun k => (h2 k).trans (by rw [decide_eq_true_eq]; exact mem_dsort.symm)
    subst e
    have c3 := c2.new (o := SetO X.w p (fun j => decide (j ∈ ns)) c') hp
    have e3 := Ext.new (o := SetO X.w p (fun j => decide (j ∈ ns)) c') c2 hp
    have ans3 : Ans X.K α2 (upd H1 p (SetO X.w p (fun j => decide (j ∈ ns)) c')) C2 Q (.lst ((dsort ns).map D.int)) := fun α4 H4 e4 c4 v rv => ans α4 H4 (e3.trans' c2 c3 e4) c4 v rv
    refine ans3.new c3 hq (vrNew c3 hq ?_ (VRs.ints _))
    rw [List.length_map]
    exact Nat.le_trans (dsort_le ns) (Nat.le_trans (Nat.le_of_lt hl) (by decide))
  · cases hz

/-! ### zip, enumerate -/
/-- a list that stands, no cell -/
theorem stL {K : PySem.W.Frag} {α : Al} {C : Cells} {v : V} {d : D} {ds : List D} (c : CR K α H C) (r : VR K α H v d) (h : lstOf d = some ds) : ∃ l xs, v = .ref l ∧ SqL K H l xs ∧ (∀ α' H', ExtW α H α' H' → SqL K H' l xs) ∧ xs.length ≤ sizeLine ∧ VRs K α H xs ds := by
  cases r with
  | lst h1 n z r => cases h; exact ⟨_, _, rfl, SqL.of h1, fun α' H' e => sqL_ext c e h1 n, z, r⟩
  | scr h1 z r => cases h; exact ⟨_, _, rfl, h1.sq, fun α' H' e => (sqF_ext c e h1).sq, z, r⟩
  | _ => cases h
theorem stT {K : PySem.W.Frag} {α : Al} {C : Cells} {v : V} {ds : List D} (c : CR K α H C) (r : VR K α H v (.tup ds)) : ∃ l xs, v = .ref l ∧ SqT K H l xs ∧ (∀ α' H', ExtW α H α' H' → SqT K H' l xs) ∧ xs.length ≤ sizeLine ∧ VRs K α H xs ds := by
  cases r with
  | tup h1 z r => exact ⟨_, _, rfl, SqT.of h1, fun α' H' e => sqT_ext c e (SqT.of h1), z, r⟩
def zpD (ds es : List D) : List D := List.zipWith (fun x y => .tup [x, y]) ds es
theorem zpD_get {ds es : List D} {i : Nat} {d : D} (h : (zpD ds es)[i]? = some d) : ∃ x y, ds[i]? = some x ∧ es[i]? = some y ∧ d = .tup [x, y] := by
  unfold zpD at h
  rw [List.getElem?_zipWith] at h
  cases h1 : ds[i]? with
  | none => rw [h1] at h; cases h
  | some x =>
    cases h2 : es[i]? with
    | none => rw [h1, h2] at h; cases h
    | some y => rw [h1, h2] at h; exact ⟨x, y, rfl, rfl, (Option.some.inj h).symm⟩
theorem dw_pair {K : PySem.W.Frag} {α : Al} {J : It} {n : Nat} {G : Hp → Prop} {xs ys : Nat → Option V} {ds es : List D} (w : Walk J n G (YPair xs ys)) (hn : n = (zpD ds es).length) (z : n ≤ sizeLine)
    (hg : ∀ α' H', ExtW α H α' H' → G H') (hx : ∀ i x d α' H' C', xs i = some x → ds[i]? = some d → ExtW α H α' H' → CR K α' H' C' → VR K α' H' x d) (hy : ∀ i x d α' H' C', ys i = some x → es[i]? = some d → ExtW α H α' H' → CR K α' H' C' → VR K α' H' x d) : DWalk K α H J ⟨zpD ds es, none⟩ G (YPair xs ys) where
  walk := hn ▸ w
  len := hn ▸ z
  good := fun α' H' C' e _ _ => hg α' H' e
  gives := fun i x H1 H2 α' C' d e c' _ y hd => by
    obtain ⟨T, u, v, rfl, hT, rfl, h1, h2⟩ := y
    obtain ⟨dx, dy, e1, e2, rfl⟩ := zpD_get hd
    exact ⟨Ext.new c' hT, c'.new hT, vrNewT c' hT (by show 2 ≤ sizeLine; decide) (.cons (hx i u dx α' H1 C' h1 e1 e c') (.cons (hy i v dy α' H1 C' h2 e2 e c') .nil))⟩
theorem walk_zT {K : PySem.W.Frag} {a b : Addr} {xs ys : List V} {n : Nat} (hn : n = min xs.length ys.length) : Walk (RZ.ItzT K a b) n (fun H => SqT K H a xs ∧ SqT K H b ys) (YPair (fun i => xs[i]?) (fun i => ys[i]?)) := by
  subst hn
  refine ⟨fun i _ hi q => ⟨xs, ys, xs[i]'(by omega), ys[i]'(by omega), q.1, q.2, List.getElem?_eq_getElem _, List.getElem?_eq_getElem _⟩, fun _ q => ⟨xs, ys, q.1, q.2, by omega⟩, fun i H v H' _ q y => ?_⟩
  obtain ⟨T, x, z, h1, h2, h3, h4, h5⟩ := y
  exact ⟨T, x, z, h1, h2, h3, h4 xs q.1, h5 ys q.2⟩
def zipO (x y : D) : Option Src := match x, y with
  | .tup ds, .tup es => some ⟨zpD ds es, none⟩
  | x, y => match lstOf x, lstOf y with
    | some ds, some es => some ⟨zpD ds es, none⟩
    | _, _ => none
def iZp (fa : AX) : IX := fun ρ => bnd (fa ρ) fun xs => lft fun _ => match xs with
  | [x, y] => zipO x y
  | _ => none
theorem di_zip {elts : List Expr} {kk : Nat} {tpos p : Pos} (hm : X.mg "zip" = none) (ha : DA X W [a, b] fa) (hg : Gl X "zip" := by rfl) (hs : starEach [a, b] X.env = (false, eval a X.env) :: starEach [b] X.env := by rfl) (hpl : (backTo pos (starEach [b] X.env)).any (·.1) = false := by rfl) :
    DI X W (.Tuple elts kk tpos) (.Call (.Name "zip" p) [a, b] [] pos) (iZp fa) := piImp (RZ.pi_zipA hg hm ha hs hpl) fun σ H R ⟨α, C, ρ, c, r, h⟩ => by
  refine ⟨α, C, ρ, c, r, (WpO.bnd c h).mono fun α1 H1 C1 xs e1 c1 h1 vs rvs => ?_⟩
  obtain ⟨s, hs, q⟩ := h1.lft
  have q := q α1 H1 (Ext.refl _ _) c1
  split at hs
  · rename_i x y
    obtain ⟨v, v', rfl, rv, rv'⟩ := vrs2 rvs
    unfold zipO at hs
    split at hs
    · rename_i ds es
      cases hs
      obtain ⟨l, xs, rfl, s1, k1, z1, r1⟩ := stT c1 rv
      obtain ⟨m, ys, rfl, s2, k2, z2, r2⟩ := stT c1 rv'
      refine ⟨l, m, xs, ys, rfl, .inr ⟨s1, s2, q _ _ _ (dw_pair (K := X.K) (n := min xs.length ys.length) (walk_zT rfl) ?_ ?_ (fun α' H' e => ⟨k1 α' H' e, k2 α' H' e⟩) ?_ ?_)⟩⟩
      · unfold zpD; rw [List.length_zipWith, r1.length, r2.length]
      · omega
      · intro i x d α' H' C' h1 h2 e c'
        obtain ⟨d', h3, h4⟩ := r1.get h1
        rw [h2] at h3; cases h3
        exact h4.extW c1 e
      · intro i x d α' H' C' h1 h2 e c'
        obtain ⟨d', h3, h4⟩ := r2.get h1
        rw [h2] at h3; cases h3
        exact h4.extW c1 e
    · split at hs
      · rename_i ds es hx hy
        cases hs
        obtain ⟨l, xs, rfl, s1, k1, z1, r1⟩ := stL c1 rv hx
        obtain ⟨m, ys, rfl, s2, k2, z2, r2⟩ := stL c1 rv' hy
        refine ⟨l, m, xs, ys, rfl, .inl ⟨s1, s2, q _ _ _ (dw_pair (K := X.K) (n := min xs.length ys.length) (walk_zip rfl) ?_ ?_ (fun α' H' e => ⟨k1 α' H' e, k2 α' H' e⟩) ?_ ?_)⟩⟩
        · unfold zpD; rw [List.length_zipWith, r1.length, r2.length]
        · omega
        · intro i x d α' H' C' h1 h2 e c'
          obtain ⟨d', h3, h4⟩ := r1.get h1
          rw [h2] at h3; cases h3
          exact h4.extW c1 e
        · intro i x d α' H' C' h1 h2 e c'
          obtain ⟨d', h3, h4⟩ := r2.get h1
          rw [h2] at h3; cases h3
          exact h4.extW c1 e
      · cases hs
  · cases hs
def idD (ds : List D) : List D := (List.range ds.length).map fun (i : Nat) => .int i
def iEn (fa : AX) : IX := fun ρ => bnd (fa ρ) fun xs => lft fun _ => match xs with
  | [x] => (lstOf x).map fun ds => ⟨zpD (idD ds) ds, none⟩
  | _ => none
theorem di_enum {elts : List Expr} {kk : Nat} {tpos p : Pos} (hm : X.mg "enumerate" = none) (ha : DA X W [e] fa) (hg : Gl X "enumerate" := by rfl) (hs : starEach [e] X.env = (false, eval e X.env) :: starEach [] X.env := by rfl) :
    DI X W (.Tuple elts kk tpos) (.Call (.Name "enumerate" p) [e] [] pos) (iEn fa) := piImp (pi_enum hg hm ha hs) fun σ H R ⟨α, C, ρ, c, r, h⟩ => by
  refine ⟨α, C, ρ, c, r, (WpO.bnd c h).mono fun α1 H1 C1 xs e1 c1 h1 vs rvs => ?_⟩
  obtain ⟨s, hs, q⟩ := h1.lft
  have q := q α1 H1 (Ext.refl _ _) c1
  split at hs
  · rename_i x
    obtain ⟨ds, hd, hs⟩ := Option.map_eq_some_iff.mp hs
    subst hs
    obtain ⟨v, rfl, rv⟩ := vrs1 rvs
    obtain ⟨l, xs, rfl, s1, k1, z1, r1⟩ := stL c1 rv hd
    refine ⟨l, xs, rfl, s1, q _ _ _ (dw_pair (K := X.K) (n := xs.length) walk_enum ?_ z1 (fun α' H' e => k1 α' H' e) ?_ ?_)⟩
    · unfold zpD idD; rw [List.length_zipWith, r1.length]; simp
    · intro i x d α' H' C' h1 h2 e c'
      cases h1
      unfold idD at h2
      rw [List.getElem?_map] at h2
      obtain ⟨j, h3, h4⟩ := Option.map_eq_some_iff.mp h2
      obtain ⟨h5, h6⟩ := List.getElem?_eq_some_iff.mp h3
      rw [List.getElem_range] at h6
      subst h6 h4
      exact .int _
    · intro i x d α' H' C' h1 h2 e c'
      obtain ⟨d', h3, h4⟩ := r1.get h1
      rw [h2] at h3; cases h3
      exact h4.extW c1 e
  · cases hs
/-- tuple(range(a, b)) -/
def xTr1 (f : EX) : EX := x1 (fun _ x => (rgO1 x).map .tup) f
def xTr2 (f g : EX) : EX := x2 (fun _ x y => (rgO2 x y).map .tup) f g
theorem de_tr1 {p p2 pos2 : Pos} (hc : X.calm = true) (hm : X.mg "tuple" = none) (hm2 : X.mg "range" = none) (ha : DE X W e f) (hg : Gl X "tuple" := by rfl) (hg2 : Gl X "range" := by rfl) (na : starEach [.Call (.Name "range" p2) [e] [] pos2] X.env = (false, eval (.Call (.Name "range" p2) [e] [] pos2) X.env) :: starEach [] X.env := by rfl)
    (nb : starEach [e] X.env = (false, eval e X.env) :: starEach [] X.env := by rfl) : DE X W (.Call (.Name "tuple" p) [.Call (.Name "range" p2) [e] [] pos2] [] pos) (xTr1 f) :=
  peImp (pe_tupRg hc hg hm (prg_1 hg2 hm2 ha nb) na) fun σ H Q h => by
  obtain ⟨α, C, ρ, c, r, h⟩ := tD_x1 h
  refine ⟨α, C, ρ, c, r, h.mono fun α1 H1 C1 x e1 c1 h1 v rv => ?_⟩
  obtain ⟨α2, C2, dx, dz, c2, rx, hz, ans⟩ := h1 v rv
  obtain ⟨ds, h1, h2⟩ := Option.map_eq_some_iff.mp hz
  subst h2
  cases dx with
  | int j =>
    unfold rgO1 at h1
    dsimp only at h1
    split at h1
    · rename_i hj
      cases h1
      refine ⟨j, rx.intInv, ⟨by omega, by omega, by omega, by omega, by omega⟩, fun q hq => ans.new c2 hq (vrNewT c2 hq ?_ rgV_ok)⟩
      rw [DL.rgV_len]
      exact Nat.le_trans (show (j - 0).toNat ≤ 1000000 by omega) (by decide)
    · cases h1
  | _ => cases h1
theorem de_tr2 {p p2 pos2 : Pos} (hc : X.calm = true) (hm : X.mg "tuple" = none) (hm2 : X.mg "range" = none) (ha : DE X W e f) (hb : DE X W b g) (hg : Gl X "tuple" := by rfl) (hg2 : Gl X "range" := by rfl) (na : starEach [.Call (.Name "range" p2) [e, b] [] pos2] X.env = (false, eval (.Call (.Name "range" p2) [e, b] [] pos2) X.env) :: starEach [] X.env := by rfl)
    (nb : starEach [e, b] X.env = (false, eval e X.env) :: starEach [b] X.env := by rfl) (nc : starEach [b] X.env = (false, eval b X.env) :: starEach [] X.env := by rfl) (hp : (backTo pos2 (starEach [b] X.env)).any (·.1) = false := by rfl) : DE X W (.Call (.Name "tuple" p) [.Call (.Name "range" p2) [e, b] [] pos2] [] pos) (xTr2 f g) :=
  peImp (pe_tupRg hc hg hm (prg_2 hg2 hm2 ha hb nb nc hp) na) fun σ H Q h => by
  obtain ⟨α, C, ρ, c, r, h⟩ := tD_x2 h
  refine ⟨α, C, ρ, c, r, h.mono fun α1 H1 C1 x e1 c1 h1 v rv => ?_⟩
  obtain ⟨α2, C2, ρ2, c2, r2, h2⟩ := h1 v rv
  refine ⟨α2, C2, ρ2, c2, r2, h2.mono fun α3 H3 C3 y e3 c3 h3 w rw => ?_⟩
  obtain ⟨α4, C4, dx, dy, dz, c4, rx, ry, hz, ans⟩ := h3 w rw
  obtain ⟨ds, h1, h2⟩ := Option.map_eq_some_iff.mp hz
  subst h2
  cases dx with
  | int i =>
    cases dy with
    | int j =>
      unfold rgO2 at h1
      dsimp only at h1
      split at h1
      · rename_i hj
        cases h1
        refine ⟨i, j, rx.intInv, ry.intInv, ⟨by omega, by omega, by omega, by omega, by omega⟩, fun q hq => ans.new c4 hq (vrNewT c4 hq ?_ rgV_ok)⟩
        rw [DL.rgV_len]
        exact Nat.le_trans (show (j - i).toNat ≤ 2000000 by omega) (by decide)
      · cases h1
    | _ => cases h1
  | _ => cases h1
/-! ### a module's tuples -/
mutual
inductive KV (K : PySem.W.Frag) : Value → D → Prop where
  | non : KV K .none .non
  | bl (b : Bool) : KV K (.bool b) (.bl b)
  | int (i : Int) (t : Tok) : KV K (.int i t) (.int i)
  | str (x : Str) (t : Tok) : KV K (.str x t) (.str x)
  | tup {a : Addr} {dd : Option Addr} {vs : List Value} {n : Nat} {sl : Array (Option Value)} {ds : List D} : K.lookup a = some ⟨.type "tuple", dd, .seq vs.toArray n, sl⟩ → vs.length ≤ 100000 → KVs K vs ds → KV K (.ref a) (.ktp ds)
inductive KVs (K : PySem.W.Frag) : List Value → List D → Prop where
  | nil : KVs K [] []
  | cons {v : Value} {vs : List Value} {d : D} {ds : List D} : KV K v d → KVs K vs ds → KVs K (v :: vs) (d :: ds)
end
theorem KVs.length {K : PySem.W.Frag} : ∀ {vs : List Value} {ds : List D}, KVs K vs ds → vs.length = ds.length
  | _, _, .nil => rfl
  | _, _, .cons _ t => by simp [KVs.length t]
mutual
theorem KV.vr {K : PySem.W.Frag} : ∀ {u : Value} {d : D}, KV K u d → ∃ v, RelV v u ∧ ∀ α H, VR K α H v d
  | _, _, .non => ⟨.non, rfl, fun _ _ => .non⟩
  | _, _, .bl b => ⟨.bl b, rfl, fun _ _ => .bl b⟩
  | _, _, .int i t => ⟨.int i, ⟨t, rfl⟩, fun _ _ => .int i⟩
  | _, _, .str x t => ⟨.str x, ⟨t, rfl⟩, fun _ _ => .str x⟩
  | _, _, @KV.tup _ a dd vs n sl ds h z r => by
    obtain ⟨ws, h1, h2⟩ := KVs.vrs r
    have hl : vs.length = ds.length := r.length
    have hw : ws.length ≤ 100000 := by rw [h1.length]; exact z
    refine ⟨.ref a, rfl, fun α H => .ktp (.inr ⟨_, vs.toArray, n, h, rfl, rfl, by simp; exact Nat.le_trans z (by decide), by simpa using h1⟩) (Nat.le_trans hw (by decide)) (h2 α H)⟩
theorem KVs.vrs {K : PySem.W.Frag} : ∀ {us : List Value} {ds : List D}, KVs K us ds → ∃ vs, Vals vs us ∧ ∀ α H, VRs K α H vs ds
  | _, _, .nil => ⟨[], .nil, fun _ _ => .nil⟩
  | _, _, .cons h t => by
    obtain ⟨v, h1, h2⟩ := KV.vr h
    obtain ⟨vs, h3, h4⟩ := KVs.vrs t
    exact ⟨v :: vs, .cons h1 h3, fun α H => .cons (h2 α H) (h4 α H)⟩
end
theorem de_globK {x : Str} {d : D} (hm : ∃ u, X.mg x = some u ∧ KV X.K u d) (hg : Gl X x := by rfl) (hd : (x == ("__debug__" : Str)) = false := by decide) : DE X W (.Name x pos) (xC d) := by
  obtain ⟨u, h0, hk⟩ := hm
  obtain ⟨v, h1, h2⟩ := hk.vr
  exact de_glob h0 h1 h2 hg hd
end
end DL

/-! DL14: comprehensions whose new list is a cell. -/
namespace DL
open PySem L2
section
variable {K : PySem.W.Frag} {α β : Al} {H : Hp} {C : Cells}
mutual
theorem VR.move (hc : ∀ (k : Nat) (a : Addr), α.cs[k]? = some a → β.cs[k]? = some a) (hh : ∀ a, a ∈ β.all → a ∈ α.all) : ∀ {v : V} {d : D}, VR K α H v d → VR K β H v d
  | _, _, .non => .non
  | _, _, .bl b => .bl b
  | _, _, .int i => .int i
  | _, _, .str x => .str x
  | _, _, .tup h z r => .tup h z (VRs.move hc hh r)
  | _, _, .ktp h z r => .ktp h z (VRs.move hc hh r)
  | _, _, .lst h n z r => .lst h (fun m => n (hh _ m)) z (VRs.move hc hh r)
  | _, _, .dctK h n z r => .dctK h (fun m => n (hh _ m)) z (VRs.move hc hh r)
  | _, _, .dctT h n z r => .dctT h (fun m => n (hh _ m)) z (VRs.move hc hh r)
  | _, _, .hnd h => .hnd (hc _ _ h)
  | _, _, .ref a => .ref a
  | _, _, .fn h => .fn h
  | _, _, .ty n => .ty n
  | _, _, .scr h z r => .scr h z (VRs.move hc hh r)
theorem VRs.move (hc : ∀ (k : Nat) (a : Addr), α.cs[k]? = some a → β.cs[k]? = some a) (hh : ∀ a, a ∈ β.all → a ∈ α.all) : ∀ {vs : List V} {ds : List D}, VRs K α H vs ds → VRs K β H vs ds
  | _, _, .nil => .nil
  | _, _, .cons h t => .cons (VR.move hc hh h) (VRs.move hc hh t)
end
theorem CellR.move (hc : ∀ (k : Nat) (a : Addr), α.cs[k]? = some a → β.cs[k]? = some a) (hh : ∀ a, a ∈ β.all → a ∈ α.all) {a : Addr} {cl : Cell} (r : CellR K α H a cl) : CellR K β H a cl := by
  cases cl with
  | lst ds =>
    obtain ⟨xs, h1, z, r⟩ := r
    exact ⟨xs, h1, z, r.move hc hh⟩
  | dct ks vs =>
    rcases r with ⟨kvs, h1, z, r⟩ | ⟨kvs, h1, z, r⟩
    · exact .inl ⟨kvs, h1, z, r.move hc hh⟩
    · exact .inr ⟨kvs, h1, z, r.move hc hh⟩
theorem LcSt.doneC {α1 : Al} {H1 : Hp} {D : Addr} {acc : List V} {dacc : List DL.D} (h0 : H1 D = none) (l : LcSt K α1 H1 D α H C acc dacc) (hl : acc.length ≤ sizeLine) :
    Ext α1 H1 ⟨α.cs ++ [D], α1.hs⟩ H ∧ CR K ⟨α.cs ++ [D], α1.hs⟩ H (C ++ [.lst dacc]) ∧ VR K ⟨α.cs ++ [D], α1.hs⟩ H (.ref D) (.hnd C.length) := by
  obtain ⟨hs, cr, ex, hk, at_, rs⟩ := l
  obtain ⟨cs, hs'⟩ := α
  simp only at hs
  subst hs
  have hc : ∀ (k : Nat) (a : Addr), cs[k]? = some a → (cs ++ [D])[k]? = some a := fun k a h => by
    rw [List.getElem?_append_left (List.getElem?_eq_some_iff.mp h).1]; exact h
  have hh : ∀ a, a ∈ (⟨cs ++ [D], α1.hs⟩ : Al).all → a ∈ (⟨cs, D :: α1.hs⟩ : Al).all := fun a m => by
    simp only [Al.all, List.mem_append, List.mem_cons, List.mem_singleton, List.not_mem_nil, or_false] at m ⊢
    rcases m with (m | m) | m
    · exact .inl m
    · exact .inr (.inl m)
    · exact .inr (.inr m)
  have len : cs.length = C.length := cr.len
  have nd := List.nodup_append.mp cr.nd
  refine ⟨⟨⟨?_, noMore, ex.keep⟩, rfl, hk⟩, ⟨by simp [len], ?_, ?_, ?_⟩, .hnd (by show (cs ++ [D])[C.length]? = _; rw [← len]; simp)⟩
  · obtain ⟨γ, e, hn⟩ := ex.pre
    refine ⟨γ ++ [D], by show cs ++ [D] = _; rw [show cs = α1.cs ++ γ from e, List.append_assoc], fun a ha => ?_⟩
    rcases List.mem_append.mp ha with q | q
    · exact hn a q
    · rw [List.mem_singleton.mp q]; exact h0
  · have q : (⟨cs ++ [D], α1.hs⟩ : Al).all = cs ++ (D :: α1.hs) := List.append_assoc cs [D] α1.hs
    rw [q]
    exact cr.nd
  · intro k a cl ha hcl
    by_cases hk2 : k < cs.length
    · have ha' : cs[k]? = Option.some a := by rw [← ha]; exact (List.getElem?_append_left hk2).symm
      rw [List.getElem?_append_left (by rw [← len]; exact hk2)] at hcl
      exact CellR.move (α := ⟨cs, D :: α1.hs⟩) hc hh (cr.at_ k a cl ha' hcl)
    · have hk3 : k < (cs ++ [D]).length := (List.getElem?_eq_some_iff.mp ha).1
      have e : k = cs.length := by simp at hk3; omega
      subst e
      have e1 : a = D := by simpa using ha.symm
      have e2 : cl = .lst dacc := by
        have z : (C ++ [Cell.lst dacc])[C.length]? = Option.some (.lst dacc) := by simp
        rw [len] at hcl
        rw [hcl] at z
        exact Option.some.inj z
      subst e1 e2
      exact ⟨acc, at_, hl, VRs.move (α := ⟨cs, a :: α1.hs⟩) hc hh rs⟩
  · exact fun a ha => cr.hid a (List.mem_cons_of_mem _ ha)
end
section
variable {X : Cx} {W : WX}
noncomputable def xLcC (fi : IX) (vs : List Nat) (t : TX) (p : BX) (f : EX) : EX := fun ρ => bnd (fi ρ) fun s => bnd (nb (lcD s t p f (wipeD ρ vs) s.items [])) mkC
theorem tLc_ofC {fi : IX} {t : TX} {p : BX} {f : EX} {vs ix : List Nat} {g : TG} {tt : TT} {te : TE} {σ : St} {H : Hp} {Q : VK} (hix : ∀ i ∈ ix, i ∈ vs) (h : tD X W (xLcC fi vs t p f) σ H Q) : tLc (iD X W fi) (gD X ix t) (tDT X W0 p) (tD X W0 f) vs σ H Q := by
  obtain ⟨α, C, ρ, c, r, h⟩ := h
  refine ⟨α, C, ρ, c, r, (WpO.bnd c h).mono fun α1 H1 C1 s e1 c1 h1 J G Y dw D hD => ?_⟩
  obtain ⟨ds, C2, hcomp, h2⟩ := wpNbok h1
  refine lc_main c1 ((r.ext c e1).wipe vs) hD hix dw hcomp (fun _ _ _ _ h => h) (fun _ _ _ h => h) (fun _ _ _ h => h) fun α3 H3 acc l hl => ?_
  obtain ⟨e3, c3, v3⟩ := l.doneC hD hl
  exact h2 _ H3 e3 c3 (.ref D) v3
theorem de_lcC {elt tg iter : Expr} {ifs : List Expr} {scope : Scope} {pos : Pos} {fi : IX} {t : TX} {p : BX} {f : EX} (own : List (Str × Nat)) {ix : List Nat} (hc : X.calm = true) (hN : X.N.Nodup) (hi : DI X W tg iter fi)
    (hg : Blk X scope fun Y => DG Y tg ix t) (ht : Blk X scope fun Y => DTs Y W0 ifs p) (he : Blk X scope fun Y => DE Y W0 elt f) (ok : blkC X.N X.env.scope scope own = true := by decide +kernel) (hix : ∀ i ∈ ix, i ∈ own.map (·.2) := by decide)
    (hs : ∀ x, foldedSetIterable iter X.env x = pure x := by intro _; rfl) : DE X W (.ListComp elt [⟨tg, iter, ifs, 0⟩] scope pos) (xLcC fi (own.map (·.2)) t p f) :=
  peImp (pe_lc (g := gD X ix t) (tt := tDT X W0 p) (te := tD X W0 f) hc hN hi (blkOk_by ok) hg ht he hs) fun σ H Q h => tLc_ofC (g := gD X ix t) (tt := tDT X W0 p) (te := tD X W0 f) hix h
theorem ds_setLcC {i : Nat} {y : Str} {py : Pos} {elt tg iter : Expr} {ifs : List Expr} {scope : Scope} {pos spos : Pos} {fi : IX} {t : TX} {p : BX} {f : EX} (own : List (Str × Nat)) {ix : List Nat} (hc : X.calm = true) (hN : X.N.Nodup) (hi : DI X W tg iter fi)
    (hg : Blk X scope fun Y => DG Y tg ix t) (ht : Blk X scope fun Y => DTs Y W0 ifs p) (he : Blk X scope fun Y => DE Y W0 elt f) (hy : X.N[i]? = some y := by rfl) (hyl : X.env.scope.names.lookup y = some .local := by rfl)
    (hsw : swapsWith (.ListComp elt [⟨tg, iter, ifs, 0⟩] scope pos) (some (.Name y py)) spos.line X.env = pure true := by exact sw_true rfl rfl rfl (by decide +kernel)) (ok : blkC X.N X.env.scope scope own = true := by decide +kernel) (hix : ∀ i ∈ ix, i ∈ own.map (·.2) := by decide)
    (hs : ∀ x, foldedSetIterable iter X.env x = pure x := by intro _; rfl) : DS X W (.Assign [.Name y py] (.ListComp elt [⟨tg, iter, ifs, 0⟩] scope pos) spos) (sSet i (xLcC fi (own.map (·.2)) t p f)) :=
  psImp (ps_setLc (g := gD X ix t) (tt := tDT X W0 p) (te := tD X W0 f) hc hN hy hyl hsw hi (blkOk_by ok) hg ht he hs) fun E σ H ⟨α, C, ρ, c, r, h⟩ =>
    tLc_ofC (g := gD X ix t) (tt := tDT X W0 p) (te := tD X W0 f) hix ⟨α, C, ρ, c, r, (WpS.sE c r h).mono fun α1 H1 C1 x e1 c1 h1 v rv => h1.nx c1 ((r.ext c e1).set rv)⟩
end
end DL

/-! DL15: {k: v for .. for ..} with keys that are tuples. -/
namespace DC
open PySem PySem.Spec PyProof.Rows L2
/-- the tests of a clause -/
abbrev tsts (fs : List Expr) (env : Env) : Sem Bool := forIn fs true fun c r => if r = true then do let ok ← isTrue c env (eval c env); pure (ForInStep.yield ok) else pure (ForInStep.yield r)
/-- the comprehension -/
abbrev E2 (kx vx t0 i0 t1 i1 : Expr) (f0 f1 : List Expr) (sc : Scope) (p : Pos) : Expr := .DictComp kx vx [⟨t0, i0, f0, 0⟩, ⟨t1, i1, f1, 0⟩] sc p
section
variable {G : Program} {ww : World} {B : Around} {R : Result → Shared → Prop} {s : Shared} {kx vx t0 i0 t1 i1 : Expr} {f0 f1 : List Expr} {sc : Scope} {p : Pos} {it acc : Value} {D : Addr} {env : Env}
theorem turn0 : compTurn (E2 kx vx t0 i0 t1 i1 f0 f1 sc p) 0 it acc env = (do
      standAt i0.pos
      match ← pyNext it with
      | none => pure (.done .next)
      | some v =>
        letOwnedTupleGo t0 it v
        assign t0 env v
        let mut ok := true
        for c in f0 do
          if ok then ok ← isTrue c env (eval c env)
        if ok then
          let x ← eval i1 env
          standAt i1.pos
          let x ← foldedSetIterable i1 env x
          let j ← holding [x] (pyIter x)
          let _ ← runOwn (.compStart (E2 kx vx t0 i0 t1 i1 f0 f1 sc p) 1 j acc env) env
        again (.compLoop (E2 kx vx t0 i0 t1 i1 f0 f1 sc p) 0 it acc env)) := by rfl
theorem turn1 : compTurn (E2 kx vx t0 i0 t1 i1 f0 f1 sc p) 1 it (.ref D) env = (do
      standAt i1.pos
      match ← pyNext it with
      | none => pure (.done .next)
      | some v =>
        letOwnedTupleGo t1 it v
        assign t1 env v
        let mut ok := true
        for c in f1 do
          if ok then ok ← isTrue c env (eval c env)
        if ok then
          (do
            let a ← eval kx env
            let b ← holding [a] (eval vx env)
            standAt { kx.pos with endLine := vx.pos.endLine, endCol := vx.pos.endCol }
            holding [a, b] (dictSet D a b))
        again (.compLoop (E2 kx vx t0 i0 t1 i1 f0 f1 sc p) 1 it (.ref D) env)) := by rfl
/-- where an error of the block goes -/
abbrev Nt (G : Program) (ww : World) (B : Around) (env : Env) (R : Result → Shared → Prop) : Value → Shared → Prop := notedBy (model G ww) B env fun e s' => R (.error e) s'
theorem loop0 (hs : ∀ x, foldedSetIterable i1 env x = pure x) (I : Nat → Shared → Prop)
    (go : ∀ n s, I n s → wpAny (model G ww) B (pyNext it) (fun r u1 => match r with
      | none => R (.ok .next) u1
      | some v => wpAny (model G ww) B (letOwnedTupleGo t0 it v) (fun _ u2 => wpAny (model G ww) B (assign t0 env v) (fun _ u3 =>
          wpAny (model G ww) B (tsts f0 env) (fun ok u4 => if ok = true then wpAny (model G ww) B (eval i1 env) (fun x u5 => wpAny (model G ww) B (pyIter x) (fun j u6 =>
            codeAny (model G ww) B (.compStart (E2 kx vx t0 i0 t1 i1 f0 f1 sc p) 1 j acc env) (fun r s' => match r with
              | .ok _ => ∃ m, m < n ∧ I m s'
              | .error _ => False) u6) (Nt G ww B env R) u5) (Nt G ww B env R) u4
            else ∃ m, m < n ∧ I m u4) (Nt G ww B env R) u3) (Nt G ww B env R) u2) (Nt G ww B env R) u1) (Nt G ww B env R) s)
    (n : Nat) (h : I n s) : codeAny (model G ww) B (.compLoop (E2 kx vx t0 i0 t1 i1 f0 f1 sc p) 0 it acc env) R s := by
  have same : ∀ (a : Value) (b : Shared), Nt G ww B env R a b → Nt G ww B env R a b := fun _ _ z => z
  refine codeAny_loop rfl I (fun n s hI => ?_) n h
  show wpAny _ B ((compTurn (E2 kx vx t0 i0 t1 i1 f0 f1 sc p) 0 it acc env).onRaise (fun e => do noteFrame e env; theTreesLotGoes e)) _ _ s
  refine wpAny_noted ?_
  rw [turn0]
  refine wpAny_bind (wpAny_standAt ?_)
  refine wpAny_bind (wpAny_mono (go n s hI) (fun r u1 g1 => ?_) same)
  cases r with
  | none => exact wpAny_pure g1
  | some v =>
    refine wpAny_bind (wpAny_mono g1 (fun _ u2 g2 => ?_) same)
    refine wpAny_bind (wpAny_mono g2 (fun _ u3 g3 => ?_) same)
    refine wpAny_bind (wpAny_mono g3 (fun ok u4 g4 => ?_) same)
    cases ok with
    | false => exact wpAny_pure ⟨rfl, g4⟩
    | true =>
      refine wpAny_bind (wpAny_mono g4 (fun x u5 g5 => ?_) same)
      refine wpAny_bind (wpAny_standAt ?_)
      refine wpAny_bind (wpAny_of_eq (hs x) ?_)
      refine wpAny_bind (wpAny_holding (wpAny_mono g5 (fun j u6 g6 => ?_) same))
      refine wpAny_bind (wpAny_runOwn ?_)
      rw [Around.mark_none]
      refine codeAny_mono g6 fun r s' hr => ?_
      cases r with
      | error e => exact hr.elim
      | ok f => first | exact wpAny_pure ⟨rfl, hr⟩ | exact wpAny_bind (wpAny_pure (wpAny_pure ⟨rfl, hr⟩))
theorem loop1 (I : Nat → Shared → Prop)
    (go : ∀ n s, I n s → wpAny (model G ww) B (pyNext it) (fun r u1 => match r with
      | none => R (.ok .next) u1
      | some v => wpAny (model G ww) B (letOwnedTupleGo t1 it v) (fun _ u2 => wpAny (model G ww) B (assign t1 env v) (fun _ u3 =>
          wpAny (model G ww) B (tsts f1 env) (fun ok u4 => if ok = true then wpAny (model G ww) B (eval kx env) (fun a u5 => wpAny (model G ww) B (eval vx env) (fun b u6 =>
            wpAny (model G ww) B (dictSet D a b) (fun _ u7 => ∃ m, m < n ∧ I m u7) (Nt G ww B env R) u6) (Nt G ww B env R) u5) (Nt G ww B env R) u4
            else ∃ m, m < n ∧ I m u4) (Nt G ww B env R) u3) (Nt G ww B env R) u2) (Nt G ww B env R) u1) (Nt G ww B env R) s)
    (n : Nat) (h : I n s) : codeAny (model G ww) B (.compLoop (E2 kx vx t0 i0 t1 i1 f0 f1 sc p) 1 it (.ref D) env) R s := by
  have same : ∀ (a : Value) (b : Shared), Nt G ww B env R a b → Nt G ww B env R a b := fun _ _ z => z
  refine codeAny_loop rfl I (fun n s hI => ?_) n h
  show wpAny _ B ((compTurn (E2 kx vx t0 i0 t1 i1 f0 f1 sc p) 1 it (.ref D) env).onRaise (fun e => do noteFrame e env; theTreesLotGoes e)) _ _ s
  refine wpAny_noted ?_
  rw [turn1]
  refine wpAny_bind (wpAny_standAt ?_)
  refine wpAny_bind (wpAny_mono (go n s hI) (fun r u1 g1 => ?_) same)
  cases r with
  | none => exact wpAny_pure g1
  | some v =>
    refine wpAny_bind (wpAny_mono g1 (fun _ u2 g2 => ?_) same)
    refine wpAny_bind (wpAny_mono g2 (fun _ u3 g3 => ?_) same)
    refine wpAny_bind (wpAny_mono g3 (fun ok u4 g4 => ?_) same)
    cases ok with
    | false => exact wpAny_pure ⟨rfl, g4⟩
    | true =>
      refine wpAny_bind (wpAny_bind (wpAny_mono g4 (fun a u5 g5 => ?_) same))
      refine wpAny_bind (wpAny_holding (wpAny_mono g5 (fun b u6 g6 => ?_) same))
      refine wpAny_bind (wpAny_standAt ?_)
      exact wpAny_holding (wpAny_mono g6 (fun _ u7 g7 => wpAny_pure ⟨rfl, g7⟩) same)
theorem start1 (g0 : codeAny (model G ww) B (.compLoop (E2 kx vx t0 i0 t1 i1 f0 f1 sc p) 1 it acc env) R s)
    (g : wpAny (model G ww) B (pyIter it) (fun j s' => codeAny (model G ww) B (.compLoop (E2 kx vx t0 i0 t1 i1 f0 f1 sc p) 1 j acc env) R s') (Nt G ww B env R) s) :
    codeAny (model G ww) B (.compStart (E2 kx vx t0 i0 t1 i1 f0 f1 sc p) 1 it acc env) R s := by
  refine codeAny_of_tree ?_
  show wpAny _ B ((compStart (E2 kx vx t0 i0 t1 i1 f0 f1 sc p) 1 it acc env).onRaise (fun e => do noteFrame e env; standAt theWindowsPlace)) _ _ s
  refine wpAny_notedAt ?_
  unfold compStart
  show wpAny _ B (ask >>= _) _ _ s
  refine wpAny_bind (wpAny_askSetting (wpAny_ite ?_))
  split
  · first | exact wpAny_bind (wpAny_pure (wpAny_pure ⟨rfl, g0⟩)) | exact wpAny_pure ⟨rfl, g0⟩
  · refine wpAny_bind (wpAny_rule ?_)
    first
      | exact wpAny_bind (wpAny_standAt (wpAny_bind (wpAny_mono g (fun j s' g' => wpAny_pure ⟨rfl, g'⟩) fun _ _ z => z)))
      | (show wpAny _ _ (standAt i1.pos >>= _) _ _ s; exact wpAny_bind (wpAny_standAt (wpAny_bind (wpAny_mono g (fun j s' g' => wpAny_pure ⟨rfl, g'⟩) fun _ _ z => z))))
end
end DC
namespace DC
open PySem PySem.Spec PyProof.Rows L2
section
variable {X : Cx}
/-- d[k] = v by a comprehension, k a tuple -/
theorem putT {pins : List (Addr × Obj)} {σ : L2.St} {H : Hp} {s : Shared} {E : Value → Shared → Prop} {D b : Addr} {kvs : List (List Key × V)} {k : List Key} {v : V} {u r : Value} {Q : Unit → Shared → Prop} (hu : X.A.units < cLine) (I : Inv X pins σ H s) (hD : H D = some (.dT kvs)) (hb : H b = some (.tup (k.map kV))) (hz : kvs.length < sizeLine)
    (ru : RelV (.ref b) u) (rv : RelV v r) (h : ∀ s', Inv X pins σ (upd H D (.dT (putK kvs k v))) s' → Q () s') : wpAny (model X.prog X.w) X.A (dictSet D u r) Q E s := by
  cases ru
  obtain ⟨z, nd, xs, rel, dd⟩ := dt_of I.hok hD
  have z1 : xs.length ≤ sizeLine := Paired.length rel ▸ z
  have z2 : (putK kvs k v).length ≤ sizeLine := Nat.le_trans (length_putK kvs k v) hz
  refine wpAny_dictSet_heap (knd := tupleKind (mixKind X.prog X.w)) (hsz := z1) hu (key_of I.hok hb) dd fun h' d2 sb => h _ ?_
  obtain ⟨o, es, ep, g1, g2, g3, g4, _, g5⟩ := d2
  refine d_write I (by rw [hD]; exact True.intro) sb ⟨o, g1⟩ ⟨z2, nd, _, (rel.put k hb rv).keeps fun c ys ec => ?_, o, es, ep, g1, g2, g3, g4, g5⟩
  exact (upd_ne (ne_of ec hD fun z => nomatch z)).trans ec
/-- what {k: v for .. for ..} asks: as a list's two clauses, with a dict whose keys are tuples -/
def tDc2 (wi : TI) (g : TG) (tt : TT) (wi1 : TI) (g1 : TG) (tt1 : TT) (tk tv : TE) (vs ws : List Nat) : TE := fun σ H Q => wi σ H fun J H1 => ∀ D, H1 D = none → ∃ W : Nat → Nat → Hp → Prop, (∃ m, W 0 m (upd H1 D (.dT []))) ∧ ∀ i m H, W i m H →
  (J.stop i H ∧ Q (.ref D) H) ∨ (J.go i H ∧ ∃ Nx : Hp → Prop, (∀ H', Nx H' → ∃ m', m' < m ∧ W (i + 1) m' H') ∧ ∀ x H', J.yld i H x H' → g x (wipe σ vs) H' fun ς H2 => wipe ς vs = wipe σ vs ∧ tt ς H2 fun b H3 =>
    if b = true then wi1 ς H3 fun J1 H4 => ∃ V1 : Nat → Nat → Hp → Prop, (∃ m, V1 0 m H4) ∧ ∀ j k H, V1 j k H →
      (J1.stop j H ∧ Nx H) ∨ (J1.go j H ∧ ∃ N1 : Hp → Prop, (∀ H', N1 H' → ∃ k', k' < k ∧ V1 (j + 1) k' H') ∧ ∀ x H', J1.yld j H x H' → g1 x (wipe ς ws) H' fun τ H5 => wipe τ ws = wipe ς ws ∧ tt1 τ H5 fun b H6 =>
        if b = true then tk τ H6 fun y H7 => tv τ H7 fun z H8 => ∃ kvs k a, y = .ref a ∧ H8 a = some (.tup (k.map kV)) ∧ H8 D = some (.dT kvs) ∧ kvs.length < sizeLine ∧ N1 (upd H8 D (.dT (putK kvs k z))) else N1 H6)
    else Nx H3)
/-- a block's part holds in the block's context, wherever it lies -/
abbrev InB (X : Cx) (sc : Scope) (P : Cx → Prop) : Prop := ∀ (s : Shared) (H : Hp) (C : Addr) (cl : List (Str × Addr)) (fp : List Addr), P (X.blk s H sc (compEnvC sc cl C X.env) fp)
theorem core {pins : List (Addr × Obj)} {s : Shared} {σ : L2.St} {H : Hp} {Q : VK} {kx vx t0 i0 t1 i1 : Expr} {f0 f1 : List Expr} {sc : Scope} {own : List (Str × Nat)} {ws : List Nat} {p p' : Pos} {wi wi1 : TI} {g g1 : TG} {tt tt1 : TT} {tk tv : TE} {use : Option (Value → Sem Unit)} {Qf : Value → Shared → Prop}
    (hc : X.calm = true) (hu : X.A.units < cLine) (hN : X.N.Nodup) (I : Inv X pins σ H s) (hi : PI X t0 i0 wi) (ok : BlkOk X.N X.env.scope sc own) (hv : ∀ i ∈ ws, i ∈ own.map (·.2))
    (hg : InB X sc fun Y => PG Y t0 g) (ht : InB X sc fun Y => PTs Y f0 tt) (hi1 : InB X sc fun Y => PI Y t1 i1 wi1) (hg1 : InB X sc fun Y => PG Y t1 g1) (ht1 : InB X sc fun Y => PTs Y f1 tt1) (hk : InB X sc fun Y => PE Y kx tk) (he : InB X sc fun Y => PE Y vx tv)
    (hs : ∀ x, foldedSetIterable i0 X.env x = pure x) (hs1 : ∀ env x, foldedSetIterable i1 env x = pure x) (h : tDc2 wi g tt wi1 g1 tt1 tk tv (own.map (·.2)) ws σ H Q)
    (out : ∀ D C s' m H', Inv X pins σ H' s' → Q (.ref D) H' → s'.heap.Ns C m → FpOk X pins H' C → compPost (model X.prog X.w) X.A X.xe use Qf (.ref D) C (.ok .next) s') :
    wpAny (model X.prog X.w) X.A (comprehension (E2 kx vx t0 i0 t1 i1 f0 f1 sc p) sc X.env p' newDict false (eval i0 X.env) use) Qf X.xe s := by
  have frees : ∀ y ∈ sc.names, y.2 = .free → ∃ c, X.env.cells.lookup y.1 = some c := fun y my ey =>
    I.ok.has _ ((ok.free y my ey).imp id id)
  refine wpAny_comprehension_free (use := use) rfl hs (closure_ok frees) ok.kind (fun y my ey => ey ▸ ok.uniq y my) ?_
  refine thn (hi.run pins s σ H _ I h) fun xv a1 hx => thn hx fun itv a2 got => ?_
  obtain ⟨it, fp, tn, J, H2, rfl, J2, T, st2, f2, q⟩ := got
  refine wpAny_newObj_type (newEnv_comp ?_)
  generalize eD : a2.heap.objs.size = D
  have nD : H2 D = none := J2.hok.fresh (Nat.le_of_eq eD)
  obtain ⟨W, ⟨m0, w0⟩, turn⟩ := q D nD
  generalize e3 : ({ a2 with heap := a2.heap.push { cls := .type "dict", data := .dict #[] } } : Shared) = a3
  have hp3 : a3.heap = a2.heap.push { cls := .type "dict", data := .dict #[] } := by rw [← e3]
  have J3 : Inv X pins σ (upd H2 D (.dT [])) a3 := by
    rw [← e3]
    refine J2.laid (t' := a2.toks) (fun c o e => Heap.get?_push_of_some _ e) (Nat.le_of_eq eD) ?_
    exact eD ▸ dt_empty a2.heap J2.big
  have less : ∀ c ∈ fp, c < a2.heap.objs.size := fun c mc => by
    obtain ⟨o, e, _⟩ := T.obj _ _ st2 c mc
    exact Heap.lt_size e
  have f3 : ∀ c ∈ fp, FpOk X pins (upd H2 D (.dT [])) c ∧ c < a3.heap.objs.size := fun c mc => by
    have lt := less c mc
    refine ⟨⟨(upd_ne (eD ▸ Nat.ne_of_lt lt)).trans (f2 c mc).1, (f2 c mc).2⟩, ?_⟩
    rw [hp3, Heap.size_push]
    exact Nat.lt_succ_of_lt lt
  have st3 : tn 0 a3.heap := T.keep _ _ _ st2 fun c _ o e => hp3 ▸ Heap.get?_push_of_some _ e
  have J4 := block_start J3 ok hN f3
  have pg := hg a3 (upd H2 D (.dT [])) a3.heap.objs.size (cellsFrom (a3.heap.objs.size + 1) sc.names (cloFrom X.env.cells sc.names [])) fp
  have pt := ht a3 (upd H2 D (.dT [])) a3.heap.objs.size (cellsFrom (a3.heap.objs.size + 1) sc.names (cloFrom X.env.cells sc.names [])) fp
  have pi1 := hi1 a3 (upd H2 D (.dT [])) a3.heap.objs.size (cellsFrom (a3.heap.objs.size + 1) sc.names (cloFrom X.env.cells sc.names [])) fp
  have pg1 := hg1 a3 (upd H2 D (.dT [])) a3.heap.objs.size (cellsFrom (a3.heap.objs.size + 1) sc.names (cloFrom X.env.cells sc.names [])) fp
  have pt1 := ht1 a3 (upd H2 D (.dT [])) a3.heap.objs.size (cellsFrom (a3.heap.objs.size + 1) sc.names (cloFrom X.env.cells sc.names [])) fp
  have pk := hk a3 (upd H2 D (.dT [])) a3.heap.objs.size (cellsFrom (a3.heap.objs.size + 1) sc.names (cloFrom X.env.cells sc.names [])) fp
  have pv := he a3 (upd H2 D (.dT [])) a3.heap.objs.size (cellsFrom (a3.heap.objs.size + 1) sc.names (cloFrom X.env.cells sc.names [])) fp
  show codeAny _ _ (.compStart (E2 kx vx t0 i0 t1 i1 f0 f1 sc p) 0 (.ref it) (.ref D) (compEnvC sc (cellsFrom (a3.heap.objs.size + 1) sc.names (cloFrom X.env.cells sc.names [])) a3.heap.objs.size X.env)) (compPost (model X.prog X.w) X.A X.xe use Qf (.ref D) a3.heap.objs.size) { a3 with heap := pushCells (a3.heap.push { cls := .type "dict", data := .dict #[] }) sc.names }
  have nf : ∀ c ∈ fp, (upd H2 D (.dT [])) c = none := fun c mc => (f3 c mc).1.1
  generalize eC : compEnvC sc (cellsFrom (a3.heap.objs.size + 1) sc.names (cloFrom X.env.cells sc.names [])) a3.heap.objs.size X.env = ce at J4 pg pt pk pv pi1 pg1 pt1 ⊢
  have cL : ce.locals = a3.heap.objs.size := by subst eC; rfl
  generalize eH : upd H2 D (.dT []) = H3 at J3 J4 pg pt pk pv pi1 pg1 pt1 w0 nf f3
  generalize e4 : ({ a3 with heap := pushCells (a3.heap.push { cls := .type "dict", data := .dict #[] }) sc.names } : Shared) = a4 at J4 ⊢
  have st4 : tn 0 a4.heap := T.keep _ _ _ st3 fun c _ o e => by rw [← e4]; exact pushCells_keeps _ _ _ _ (Heap.get?_push_of_some _ e)
  have fpk : ∀ {ς : L2.St} {H' : Hp} {s' : Shared}, Inv (X.blk a3 H3 sc ce fp) [] ς H' s' → (∀ c ∈ fp, H' c = none) → ∀ c ∈ fp, FpOk (X.blk a3 H3 sc ce fp) [] H' c := fun {ς H' s'} K' n c mc =>
    ⟨n c mc, (K'.ok.exf c mc).1, K'.ok.exfs c mc, .inl mc, fun x d e => (K'.ok.exf c mc).2 x d e, fun q mq => absurd (show q ∈ ([] : List (Addr × Obj)) ++ [] from mq) (by simp)⟩
  have big : codeAny (model X.prog X.w) X.A (.compLoop (E2 kx vx t0 i0 t1 i1 f0 f1 sc p) 0 (.ref it) (.ref D) ce) (compPost (model X.prog X.w) X.A X.xe use Qf (.ref D) a3.heap.objs.size) a4 := by
    refine loop0 (hs1 ce) (fun n s' => ∃ i H', Inv (X.blk a3 H3 sc ce fp) [] (wipe σ (own.map (·.2))) H' s' ∧ tn i s'.heap ∧ (∀ c ∈ fp, H' c = none) ∧ W i n H') ?_ m0 ⟨0, H3, J4, st4, nf, w0⟩
    rintro n a5 ⟨i, H5, J5, st5, n5, w5⟩
    rcases turn i n H5 w5 with ⟨stop, qq⟩ | ⟨go, Nx, hNx, step⟩
    · refine thnF (T.done (X.blk a3 H3 sc ce fp) rfl rfl rfl hc i [] a5 _ H5 (fun _ _ => False) J5 (fpk J5 n5) st5 stop) fun r a6 ⟨er, J6⟩ => ?_
      subst er
      have J7 : Inv X pins σ H5 a6 := J3.call' (ch := fp) J6.os J6.base J6.hok J6.bare fun c mc =>
        let z := (f3 c mc).1.2
        ⟨z.2.2.1, z.1, z.2.2.2.1, z.2.2.2.2⟩
      have nC : H5 a3.heap.objs.size = none := cL ▸ (show H5 ce.locals = none from J6.free)
      obtain ⟨m, nm, _⟩ := J6.loc
      exact out D a3.heap.objs.size a6 m H5 J7 qq (cL ▸ (show a6.heap.Ns ce.locals m from nm)) (J3.fpOk (Nat.le_refl _) nC)
    · refine thnF (T.item (X.blk a3 H3 sc ce fp) rfl rfl rfl hc i [] a5 _ H5 (fun _ _ => False) J5 (fpk J5 n5) st5 go) fun r a6 ⟨u, er, got⟩ => ?_
      subst er
      refine thnF got fun _ a7 ⟨x, H7, J7, r7, y7, st7, n7⟩ => ?_
      refine thnF (pg.run _ a7 _ H7 x u _ (J7.pinned (fpk J7 n7) (T.obj _ _ st7)) r7 (step x H7 y7)) fun _ a8 ⟨ς, H8, J8, wς, q8⟩ => ?_
      refine thnF (pt.run _ a8 ς H8 _ J8 q8) fun b a9 ⟨H9, J9, q9⟩ => ?_
      have close : ∀ {τ : L2.St} {s' : Shared} {H' : Hp}, Inv (X.blk a3 H3 sc ce fp) ([] ++ pinsAt fp a7.heap) τ H' s' → (wipe σ (own.map (·.2))).length = τ.length → (∀ (j : Nat) v, (wipe σ (own.map (·.2)))[j]? = some (some v) → τ[j]? = some (some v)) → Nx H' →
          ∃ m, m < n ∧ ∃ i H', Inv (X.blk a3 H3 sc ce fp) [] (wipe σ (own.map (·.2))) H' s' ∧ tn i s'.heap ∧ (∀ c ∈ fp, H' c = none) ∧ W i m H' := fun {τ s' H'} K' el ek nx => by
        obtain ⟨m', lt, w'⟩ := hNx H' nx
        have still : ∀ c ∈ fp, ∀ o, a7.heap.get? c = some o → s'.heap.get? c = some o ∧ H' c = none := fun c mc o e =>
          have z := K'.pin (c, o) (List.mem_append_right _ (List.mem_append_right _ (mem_pinsAt mc e)))
          ⟨z.1, z.2.1⟩
        refine ⟨m', lt, i + 1, H', (K'.unpinned (pins := [])).weak el ek, T.keep _ _ _ st7 fun c mc o e => (still c mc o e).1, fun c mc => ?_, w'⟩
        obtain ⟨o, e, _⟩ := T.obj _ _ st7 c mc
        exact (still c mc o e).2
      have l8 : (wipe σ (own.map (·.2))).length = ς.length := by rw [← wς, wipe_length]
      have k8 : ∀ (j : Nat) v, (wipe σ (own.map (·.2)))[j]? = some (some v) → ς[j]? = some (some v) := fun j v e => (wipe_some (wς ▸ e)).1
      have k9 : ∀ (j : Nat) v, (wipe σ (own.map (·.2)))[j]? = some (some v) → (wipe ς ws)[j]? = some (some v) := fun j v e => by
        obtain ⟨e1, e2⟩ := wipe_some (wς ▸ e)
        exact (wipe_out fun z => e2 (hv j z)).trans e1
      cases b with
      | false => exact close J9 l8 k8 (by simpa using q9)
      | true =>
        rw [if_pos rfl] at q9 ⊢
        refine thnF (pi1.run _ a9 ς H9 _ J9 q9) fun xv b1 hx => thnF hx fun itv b2 got => ?_
        obtain ⟨it1, fp1, tn1, J1, G1, rfl, K1, T1, su1, fu1, V1, ⟨m1, v1⟩, turn1⟩ := got
        have fpk1 : ∀ {H' : Hp}, (∀ c ∈ fp1, H' c = none) → ∀ c ∈ fp1, FpOk (X.blk a3 H3 sc ce fp) ([] ++ pinsAt fp a7.heap) H' c := fun n c mc => ⟨n c mc, (fu1 c mc).2⟩
        have small : codeAny (model X.prog X.w) X.A (.compLoop (E2 kx vx t0 i0 t1 i1 f0 f1 sc p) 1 (.ref it1) (.ref D) ce)
            (fun r s' => match r with
              | .ok _ => ∃ m, m < n ∧ ∃ i H', Inv (X.blk a3 H3 sc ce fp) [] (wipe σ (own.map (·.2))) H' s' ∧ tn i s'.heap ∧ (∀ c ∈ fp, H' c = none) ∧ W i m H'
              | .error _ => False) b2 := by
          refine loop1 (fun k s' => ∃ j H', Inv (X.blk a3 H3 sc ce fp) ([] ++ pinsAt fp a7.heap) (wipe ς ws) H' s' ∧ tn1 j s'.heap ∧ (∀ c ∈ fp1, H' c = none) ∧ V1 j k H') ?_ m1 ⟨0, G1, K1.weak (wipe_length _ _) (fun j v e => (wipe_some e).1), su1, fun c mc => (fu1 c mc).1, v1⟩
          rintro k b3 ⟨j, G3, K3, su3, nn3, v3⟩
          rcases turn1 j k G3 v3 with ⟨stop1, nx1⟩ | ⟨go1, N1, hN1, step1⟩
          · refine thnF (T1.done (X.blk a3 H3 sc ce fp) rfl rfl rfl hc j _ b3 (wipe ς ws) G3 (fun _ _ => False) K3 (fpk1 nn3) su3 stop1) fun r b4 ⟨er, K4⟩ => ?_
            subst er
            exact close K4 (l8.trans (wipe_length ς ws).symm) k9 nx1
          · refine thnF (T1.item (X.blk a3 H3 sc ce fp) rfl rfl rfl hc j _ b3 (wipe ς ws) G3 (fun _ _ => False) K3 (fpk1 nn3) su3 go1) fun r b4 ⟨u1, er, got⟩ => ?_
            subst er
            refine thnF got fun _ b5 ⟨x1, G5, K5, r5, y5, su5, nn5⟩ => ?_
            refine thnF (pg1.run _ b5 (wipe ς ws) G5 x1 u1 _ (K5.pinned (fpk1 nn5) (T1.obj _ _ su5)) r5 (step1 x1 G5 y5)) fun _ b6 ⟨τ, G6, K6, wτ, q6⟩ => ?_
            refine thnF (pt1.run _ b6 τ G6 _ K6 q6) fun b7 b8 ⟨G8, K8, q8'⟩ => ?_
            have close1 : ∀ {s' : Shared} {H' : Hp}, Inv (X.blk a3 H3 sc ce fp) (([] ++ pinsAt fp a7.heap) ++ pinsAt fp1 b5.heap) τ H' s' → N1 H' → ∃ m, m < k ∧ ∃ j H', Inv (X.blk a3 H3 sc ce fp) ([] ++ pinsAt fp a7.heap) (wipe ς ws) H' s' ∧ tn1 j s'.heap ∧ (∀ c ∈ fp1, H' c = none) ∧ V1 j m H' := fun {s' H'} K' nx => by
              obtain ⟨m', lt, w'⟩ := hN1 H' nx
              have still : ∀ c ∈ fp1, ∀ o, b5.heap.get? c = some o → s'.heap.get? c = some o ∧ H' c = none := fun c mc o e =>
                have z := K'.pin (c, o) (List.mem_append_right _ (List.mem_append_right _ (mem_pinsAt mc e)))
                ⟨z.1, z.2.1⟩
              refine ⟨m', lt, j + 1, H', K'.unpinned.weak (by rw [← wτ, wipe_length]) (fun j v e => (wipe_some (wτ ▸ e)).1), T1.keep _ _ _ su5 fun c mc o e => (still c mc o e).1, fun c mc => ?_, w'⟩
              obtain ⟨o, e, _⟩ := T1.obj _ _ su5 c mc
              exact (still c mc o e).2
            cases b7 with
            | false => exact close1 K8 (by simpa using q8')
            | true =>
              rw [if_pos rfl] at q8' ⊢
              refine thnF (pk.run _ b8 τ G8 _ K8 q8') fun z b9 ⟨yk, G9, K9, r9, q9'⟩ => ?_
              refine thnF (pv.run _ b9 τ G9 _ K9 q9') fun z2 c1 ⟨yv, Gv, Kv, rv, kvs, kk, a, ea, ha, hD, hz, nx⟩ => ?_
              subst ea
              exact putT (X := X.blk a3 H3 sc ce fp) hu Kv hD ha hz r9 rv fun c2 K2 => close1 K2 nx
        exact start1 small (T1.self X.A 0 _ _ _ su1 small)
  exact codeAny_compStart_dict big (T.self X.A 0 _ _ _ st4 big)
theorem pe_dc2 {kx vx t0 i0 t1 i1 : Expr} {f0 f1 : List Expr} {sc : Scope} {own : List (Str × Nat)} {ws : List Nat} {p : Pos} {wi wi1 : TI} {g g1 : TG} {tt tt1 : TT} {tk tv : TE} (hc : X.calm = true) (hu : X.A.units < cLine) (hN : X.N.Nodup) (hi : PI X t0 i0 wi) (ok : BlkOk X.N X.env.scope sc own) (hv : ∀ i ∈ ws, i ∈ own.map (·.2))
    (hg : InB X sc fun Y => PG Y t0 g) (ht : InB X sc fun Y => PTs Y f0 tt) (hi1 : InB X sc fun Y => PI Y t1 i1 wi1) (hg1 : InB X sc fun Y => PG Y t1 g1) (ht1 : InB X sc fun Y => PTs Y f1 tt1) (hk : InB X sc fun Y => PE Y kx tk) (he : InB X sc fun Y => PE Y vx tv)
    (hs : ∀ x, foldedSetIterable i0 X.env x = pure x := by intro _; rfl) (hs1 : ∀ env x, foldedSetIterable i1 env x = pure x := by intro _ _; rfl) :
    PE X (.DictComp kx vx [⟨t0, i0, f0, 0⟩, ⟨t1, i1, f1, 0⟩] sc p) (tDc2 wi g tt wi1 g1 tt1 tk tv (own.map (·.2)) ws) := by
  refine ⟨fun pins s σ H Q I h => ?_⟩
  rw [arm_eval_DictComp]
  refine core hc hu hN I hi ok hv hg ht hi1 hg1 ht1 hk he hs hs1 h fun D C s' m H' J q nm f => ⟨m, nm, fun h'' sb => ?_⟩
  obtain ⟨f0, f1, f2, f3, f4, f5⟩ := f
  exact ⟨.ref D, H', J.turned (t' := s'.toks) (fun c o hb e => (sb.2 c hb).trans e) f0 f1 f3 f4 f5, rfl, q⟩
end
end DC

/-! DL16: comprehensions with two clauses, lists and dicts of tuple keys. -/
namespace DL
open PySem L2
/-- a clause's loop on data, whatever it gathers -/
noncomputable def lp {A : Type} (s : Src) (t : TX) (p : BX) (ρw : Ro) (body : Ro → A → Mo A) : List D → A → Mo A
  | [], acc, C => s.chk C (.ok (acc, C)) .bad
  | x :: xs, acc, C => s.chk C (bnd (t x ρw) (fun ρ1 => bnd (p ρ1) fun b => if b = true then bnd (body ρ1 acc) fun a => lp s t p ρw body xs a else lp s t p ρw body xs acc) C) .bad
section
variable {X : Cx} {W : WX}
theorem SR.far {K : PySem.W.Frag} {α α' : Al} {σ : St} {H H' : Hp} {ρ : Ro} {C : Cells} (r : SR K α σ H ρ) (c : CR K α H C) (e : ExtW α H α' H') : SR K α' σ H' ρ := ⟨r.len, fun j z h => by
  obtain ⟨v, h1, h2⟩ := r.at_ j z h
  exact ⟨v, h1, h2.extW c e⟩⟩
theorem lp_any {A : Type} {S : Al → Hp → Cells → A → Prop} {αr α0 : Al} {Hr H0 : Hp} {Cr C0 C1 : Cells} {σ : St} {vs ix : List Nat} {ρw : Ro} {J : It} {s : Src} {G : Hp → Prop} {Y : Nat → Hp → V → Hp → Prop} {t : TX} {p : BX} {body : Ro → A → Mo A} {a0 a1 : A} {te : St → Hp → (Hp → Prop) → Prop} {Qd : Hp → Prop}
    (cr : CR X.K αr Hr Cr) (rr : SR X.K αr (wipe σ vs) Hr ρw) (hix : ∀ i ∈ ix, i ∈ vs) (dw : DWalk X.K αr Hr J s G Y)
    (sc : ∀ α H C a, S α H C a → ExtW αr Hr α H ∧ CR X.K α H C) (sg : ∀ α H C a α' H' C', S α H C a → Ext α H α' H' → CR X.K α' H' C' → S α' H' C' a)
    (s0 : S α0 H0 C0 a0) (run : lp s t p ρw body s.items a0 C0 = .ok (a1, C1))
    (hb : ∀ σ2 α H C ρ1 a a' C' (N : Hp → Prop), S α H C a → SR X.K α σ2 H ρ1 → body ρ1 a C = .ok (a', C') → (∀ α' H', S α' H' C' a' → N H') → te σ2 H N)
    (hd : ∀ α H, S α H C1 a1 → Qd H) :
    ∃ W : Nat → Nat → Hp → Prop, (∃ m, W 0 m H0) ∧ ∀ i m H, W i m H → (J.stop i H ∧ Qd H) ∨ (J.go i H ∧ ∃ Nx : Hp → Prop, (∀ H', Nx H' → ∃ m', m' < m ∧ W (i + 1) m' H') ∧
      ∀ x H', J.yld i H x H' → gD X ix t x (wipe σ vs) H' fun σ2 H2 => wipe σ2 vs = wipe σ vs ∧ tDT X W0 p σ2 H2 fun b H3 => if b = true then te σ2 H3 Nx else Nx H3) := by
  let Pv : Nat → Hp → Prop := fun i H => ∃ α C a, S α H C a ∧ lp s t p ρw body (s.items.drop i) a C = .ok (a1, C1)
  refine ⟨fun i m H => m = s.items.length - i ∧ i ≤ s.items.length ∧ Pv i H, ⟨s.items.length, by simp, Nat.zero_le _, α0, C0, a0, s0, run⟩, ?_⟩
  rintro i m H ⟨rfl, hi, α, C, a, st, w⟩
  obtain ⟨ex, c⟩ := sc _ _ _ _ st
  have okC : s.ok C := by
    cases hl : s.items.drop i with
    | nil => rw [hl] at w; exact (chk_eq w (by simp)).1
    | cons x xs => rw [hl] at w; exact (chk_eq w (by simp)).1
  have good := dw.good α H C ex c okC
  by_cases hlt : i < s.items.length
  · rw [List.drop_eq_getElem_cons hlt] at w
    obtain ⟨_, w⟩ := chk_eq w (by simp)
    obtain ⟨ρ1, C3, w1, w⟩ := bnd_ok w
    obtain ⟨b, C4, w2, w⟩ := bnd_ok w
    refine .inr ⟨dw.walk.goes i H hlt good, Pv (i + 1), fun H' q => ⟨s.items.length - (i + 1), by omega, rfl, hlt, q⟩, fun x H' y => ?_⟩
    obtain ⟨e2, c2, rx⟩ := dw.gives i x H H' α C s.items[i] ex c okC (dw.walk.yields i H x H' hlt good y) (by simp [hlt])
    have st2 := sg _ _ _ _ _ _ _ st e2 c2
    refine ⟨α, C, ρw, _, c2, rr.far cr (sc _ _ _ _ st2).1, rx, wpO_of w1 fun α3 H3 e3 c3 σ3 r3 a3 => ⟨?_, ?_⟩⟩
    · rw [agr_wipe a3 hix, wipe_wipe]
    · refine ⟨α3, C3, ρ1, c3, r3, wpO_of w2 fun α4 H4 e4 c4 => ?_⟩
      have st4 := sg _ _ _ _ _ _ _ (sg _ _ _ _ _ _ _ st2 e3 c3) e4 c4
      cases b with
      | false =>
        rw [if_neg Bool.false_ne_true] at w
        dsimp only
        rw [if_neg Bool.false_ne_true]
        exact ⟨α4, C4, a, st4, w⟩
      | true =>
        rw [if_pos rfl] at w
        dsimp only
        rw [if_pos rfl]
        obtain ⟨a', C5, w3, w⟩ := bnd_ok w
        exact hb σ3 α4 H4 C4 ρ1 a a' C5 _ st4 (r3.ext c3 e4) w3 fun α' H' s' => ⟨α', C5, a', s', w⟩
  · have e : i = s.items.length := by omega
    subst e
    rw [List.drop_length] at w
    obtain ⟨_, w⟩ := chk_eq w (by simp)
    cases w
    exact .inl ⟨dw.walk.stops H good, hd α H st⟩
/-- a walk within a walk -/
theorem lp_in {A : Type} {S : Al → Hp → Cells → A → Prop} {αr : Al} {Hr : Hp} {t1 : TX} {p1 : BX} {fi1 : IX} {ws ix1 : List Nat} {body1 : Ro → A → Mo A} {te1 : St → Hp → (Hp → Prop) → Prop} (hix : ∀ i ∈ ix1, i ∈ ws)
    (sc : ∀ α H C a, S α H C a → ExtW αr Hr α H ∧ CR X.K α H C) (sg : ∀ α H C a α' H' C', S α H C a → Ext α H α' H' → CR X.K α' H' C' → S α' H' C' a)
    (hstep : ∀ σ2 α H C ρ1 a a' C' (N : Hp → Prop), S α H C a → SR X.K α σ2 H ρ1 → body1 ρ1 a C = .ok (a', C') → (∀ α' H', S α' H' C' a' → ExtW α H α' H' → N H') → te1 σ2 H N)
    {σ2 : St} {α : Al} {H : Hp} {C C' : Cells} {ρ1 : Ro} {a a' : A} {N : Hp → Prop} (st : S α H C a) (r : SR X.K α σ2 H ρ1) (run : bnd (fi1 ρ1) (fun s1 => lp s1 t1 p1 (wipeD ρ1 ws) body1 s1.items a) C = .ok (a', C')) (fin : ∀ α' H', S α' H' C' a' → N H') :
    iD X W0 fi1 σ2 H fun J1 H4 => ∃ V1 : Nat → Nat → Hp → Prop, (∃ m, V1 0 m H4) ∧ ∀ j k H, V1 j k H → (J1.stop j H ∧ N H) ∨ (J1.go j H ∧ ∃ N1 : Hp → Prop, (∀ H', N1 H' → ∃ k', k' < k ∧ V1 (j + 1) k' H') ∧
      ∀ x H', J1.yld j H x H' → gD X ix1 t1 x (wipe σ2 ws) H' fun τ H5 => wipe τ ws = wipe σ2 ws ∧ tDT X W0 p1 τ H5 fun b H6 => if b = true then te1 τ H6 N1 else N1 H6) := by
  obtain ⟨ex, c⟩ := sc _ _ _ _ st
  obtain ⟨s1, C4, w, run⟩ := bnd_ok run
  refine ⟨α, C, ρ1, c, r, wpO_of w fun α4 H4 e4 c4 J1 G1 Y1 dw1 => ?_⟩
  have tr : ∀ {α H C a α' H'}, S α H C a ∧ ExtW α4 H4 α H → ExtW α H α' H' → (∀ b ∈ α.all, ∃ o, H' b = some o) → ExtW α4 H4 α' H' := fun {α H C a α' H'} h e hs => h.2.trans (fun b hb => (sc _ _ _ _ h.1).2.has b (h.2.sub hb)) e
  refine lp_any (S := fun α H C a => S α H C a ∧ ExtW α4 H4 α H) c4 ((r.ext c e4).wipe ws) hix dw1 (fun α H C a h => ⟨h.2, (sc _ _ _ _ h.1).2⟩) (fun α H C a α' H' C' h e c' => ?_) ⟨sg _ _ _ _ _ _ _ st e4 c4, (Ext.refl _ _).toExtW⟩ run (fun σ2 α H C ρ1 a a' C' N h r1 w1 f1 => ?_) fun α H h => fin α H h.1
  · exact ⟨sg _ _ _ _ _ _ _ h.1 e c', h.2.trans (fun a ha => (sc _ _ _ _ h.1).2.has a (h.2.sub ha)) e.toExtW⟩
  · exact hstep σ2 α H C ρ1 a a' C' N h.1 r1 w1 fun α' H' s' e' => f1 α' H' ⟨s', h.2.trans (fun a ha => (sc _ _ _ _ h.1).2.has a (h.2.sub ha)) e'⟩
end

/-! ### lists -/
def addL (f : EX) : Ro → List D → Mo (List D) := fun ρ acc => bnd (f ρ) fun y => if acc.length < sizeLine then ret (acc ++ [y]) else bad
noncomputable def xLc2 (fi : IX) (vs : List Nat) (t : TX) (p : BX) (fi1 : IX) (ws : List Nat) (t1 : TX) (p1 : BX) (f : EX) : EX := fun ρ => bnd (fi ρ) fun s => bnd (nb (lp s t p (wipeD ρ vs) (fun ρ1 acc => bnd (fi1 ρ1) fun s1 => lp s1 t1 p1 (wipeD ρ1 ws) (addL f) s1.items acc) s.items [])) fun ds => if ds.length ≤ sizeLine then ret (.lst ds) else bad
section
variable {X : Cx} {W : WX}
theorem te_lst {α1 : Al} {H1 : Hp} {C1 : Cells} {D : Addr} {f : EX} (c1 : CR X.K α1 H1 C1) (h0 : H1 D = none) (σ2 : St) (α : Al) (H : Hp) (C : Cells) (ρ1 : Ro) (a a' : List DL.D) (C' : Cells) (N : Hp → Prop)
    (st : ∃ acc, LcSt X.K α1 H1 D α H C acc a) (r : SR X.K α σ2 H ρ1) (run : addL f ρ1 a C = .ok (a', C')) (fin : ∀ α' H', (∃ acc, LcSt X.K α1 H1 D α' H' C' acc a') → ExtW α H α' H' → N H') :
    tD X W0 f σ2 H fun y H7 => ∃ acc, H7 D = some (.lst acc) ∧ acc.length < sizeLine ∧ N (upd H7 D (.lst (acc ++ [y]))) := by
  obtain ⟨acc, l⟩ := st
  obtain ⟨y, C5, w, run⟩ := bnd_ok run
  by_cases hl : a.length < sizeLine
  · rw [if_pos hl] at run
    cases run
    refine ⟨α, C, ρ1, l.cr, r, wpO_of w fun α5 H5 e5 c5 v rv => ?_⟩
    have l5 := l.go c1 e5 c5
    have hp : D ∈ α5.hs := by rw [l5.hs]; exact List.mem_cons_self
    refine ⟨acc, l5.at_, by rw [l.rs.length]; exact hl, fin α5 _ ⟨_, l5.grow c1 h0 rv⟩ (e5.toExtW.trans (fun b hb => c5.has b (e5.toExtW.sub hb)) (ExtW.grow hp))⟩
  · rw [if_neg hl] at run; cases run
theorem lcS {K : PySem.W.Frag} {α1 : Al} {H1 : Hp} {D : Addr} : ∀ α H C a, (∃ acc, LcSt K α1 H1 D α H C acc a) → ExtW α1 H1 α H ∧ CR K α H C := fun α H C a ⟨_, l⟩ => ⟨l.ex, l.cr⟩
theorem lcG {K : PySem.W.Frag} {α1 : Al} {H1 : Hp} {C1 : Cells} {D : Addr} (c1 : CR K α1 H1 C1) : ∀ α H C a α' H' C', (∃ acc, LcSt K α1 H1 D α H C acc a) → Ext α H α' H' → CR K α' H' C' → ∃ acc, LcSt K α1 H1 D α' H' C' acc a := fun α H C a α' H' C' ⟨acc, l⟩ e c' => ⟨acc, l.go c1 e c'⟩
theorem de_lc2 {elt t0 i0 t1 i1 : Expr} {f0 f1 : List Expr} {scope : Scope} {pos : Pos} {fi fi1 : IX} {t tt1 : TX} {p p1 : BX} {f : EX} (own : List (Str × Nat)) {ix ix1 : List Nat} (ws : List Nat) (hc : X.calm = true) (hN : X.N.Nodup) (hi : DI X W t0 i0 fi)
    (hg : Blk X scope fun Y => DG Y t0 ix t) (ht : Blk X scope fun Y => DTs Y W0 f0 p) (hi1 : Blk X scope fun Y => DI Y W0 t1 i1 fi1) (hg1 : Blk X scope fun Y => DG Y t1 ix1 tt1) (ht1 : Blk X scope fun Y => DTs Y W0 f1 p1) (he : Blk X scope fun Y => DE Y W0 elt f) (ok : blkC X.N X.env.scope scope own = true := by decide +kernel) (hix : ∀ i ∈ ix, i ∈ own.map (·.2) := by decide) (hix1 : ∀ i ∈ ix1, i ∈ ws := by decide) (hws : ∀ i ∈ ws, i ∈ own.map (·.2) := by decide)
    (hs : ∀ x, foldedSetIterable i0 X.env x = pure x := by intro _; rfl) (hs1 : ∀ env x, foldedSetIterable i1 env x = pure x := by intro _ _; rfl) : DE X W (.ListComp elt [⟨t0, i0, f0, 0⟩, ⟨t1, i1, f1, 0⟩] scope pos) (xLc2 fi (own.map (·.2)) t p fi1 ws tt1 p1 f) :=
  peImp (pe_lc2 (g := gD X ix t) (tt := tDT X W0 p) (wi1 := iD X W0 fi1) (g1 := gD X ix1 tt1) (tt1 := tDT X W0 p1) (te := tD X W0 f) hc hN hi (blkOk_by ok) hws hg ht hi1 hg1 ht1 he hs hs1) fun σ H Q h => by
  obtain ⟨α, C, ρ, c, r, h⟩ := h
  refine ⟨α, C, ρ, c, r, (WpO.bnd c h).mono fun α1 H1 C1 s e1 c1 h1 J G Y dw D hD => ?_⟩
  obtain ⟨ds, C2, hcomp, h2⟩ := wpNbok h1
  refine lp_any (S := fun α H C a => ∃ acc, LcSt X.K α1 H1 D α H C acc a) c1 ((r.ext c e1).wipe _) hix dw lcS (lcG c1) ⟨[], LcSt.start c1 hD⟩ hcomp (fun σ2 α H C ρ1 a a' C' N st r1 run fin => ?_) fun α3 H3 ⟨acc, l⟩ => ?_
  · exact lp_in (S := fun α H C a => ∃ acc, LcSt X.K α1 H1 D α H C acc a) hix1 lcS (lcG c1) (te_lst c1 hD) st r1 run fin
  · by_cases hl : ds.length ≤ sizeLine
    · rw [if_pos hl] at h2
      obtain ⟨e3, c3, v3⟩ := l.done (by rw [l.rs.length]; exact hl)
      exact h2 _ H3 e3 c3 (.ref D) v3
    · rw [if_neg hl] at h2; exact h2.elim
end

/-! ### dicts whose keys are tuples -/
def keyD : D → Option Key
  | .int i => some (.inl i)
  | .str x => some (.inr x)
  | _ => none
def keysD : List D → Option (List Key)
  | [] => some []
  | d :: ds => (keyD d).bind fun k => (keysD ds).map (k :: ·)
def putD (acc : List (List Key × D)) (k : List Key) (v : D) : List (List Key × D) :=
  if (acc.any fun e => decide (e.1 = k)) = true then acc.map (fun e => if e.1 = k then (e.1, v) else e) else acc ++ [(k, v)]
theorem keyD_vr {K : PySem.W.Frag} {α : Al} {H : Hp} {v : V} {d : D} {k : Key} (r : VR K α H v d) (h : keyD d = some k) : v = kV k := by
  cases r <;> first | (cases h; rfl) | cases h
theorem keysD_vr {K : PySem.W.Frag} {α : Al} {H : Hp} : ∀ {vs : List V} {ds : List D} {k : List Key}, VRs K α H vs ds → keysD ds = some k → vs = k.map kV
  | _, _, _, .nil, h => by cases h; rfl
  | _, _, _, .cons r t, h => by
    obtain ⟨k0, h1, h⟩ := Option.bind_eq_some_iff.mp h
    obtain ⟨ks, h2, h3⟩ := Option.map_eq_some_iff.mp h
    subst h3
    rw [keyD_vr r h1, keysD_vr t h2]
    rfl
/-- the pairs of a dict and what they stand for -/
inductive KDs (K : PySem.W.Frag) (α : Al) (H : Hp) : List (List Key × V) → List (List Key × D) → Prop where
  | nil : KDs K α H [] []
  | cons {k : List Key} {v : V} {d : D} {a : List (List Key × V)} {b : List (List Key × D)} : VR K α H v d → KDs K α H a b → KDs K α H ((k, v) :: a) ((k, d) :: b)
section
variable {K : PySem.W.Frag} {α α' : Al} {H H' : Hp} {C : Cells}
theorem KDs.extW (c : CR K α H C) (e : ExtW α H α' H') : ∀ {a b}, KDs K α H a b → KDs K α' H' a b
  | _, _, .nil => .nil
  | _, _, .cons r t => .cons (r.extW c e) (KDs.extW c e t)
theorem KDs.length : ∀ {a b}, KDs K α H a b → a.length = b.length
  | _, _, .nil => rfl
  | _, _, .cons _ t => by simp [KDs.length t]
theorem KDs.anyK (k : List Key) : ∀ {a b}, KDs K α H a b → (a.any fun e => decide (e.1 = k)) = b.any fun e => decide (e.1 = k)
  | _, _, .nil => rfl
  | _, _, .cons r t => by simp only [List.any_cons, KDs.anyK k t]
theorem KDs.repl {v : V} {d : D} (r : VR K α H v d) (k : List Key) : ∀ {a b}, KDs K α H a b → KDs K α H (a.map fun e => if e.1 = k then (e.1, v) else e) (b.map fun e => if e.1 = k then (e.1, d) else e)
  | _, _, .nil => .nil
  | _, _, .cons (k := k0) r0 t => by
    simp only [List.map_cons]
    by_cases q : k0 = k
    · rw [if_pos q, if_pos q]; exact .cons r (KDs.repl r k t)
    · rw [if_neg q, if_neg q]; exact .cons r0 (KDs.repl r k t)
theorem KDs.snoc {v : V} {d : D} (r : VR K α H v d) (k : List Key) : ∀ {a b}, KDs K α H a b → KDs K α H (a ++ [(k, v)]) (b ++ [(k, d)])
  | _, _, .nil => .cons r .nil
  | _, _, .cons r0 t => .cons r0 (KDs.snoc r k t)
theorem KDs.put {v : V} {d : D} {a : List (List Key × V)} {b : List (List Key × D)} (t : KDs K α H a b) (k : List Key) (r : VR K α H v d) : KDs K α H (putK a k v) (putD b k d) := by
  unfold putK putD
  rw [t.anyK k]
  by_cases q : (b.any fun e => decide (e.1 = k)) = true
  · rw [if_pos q, if_pos q]; exact t.repl r k
  · rw [if_neg q, if_neg q]; exact t.snoc r k
theorem KDs.sub {αs : Al} (hc : αs.cs = α.cs) (hh : ∀ a, a ∈ αs.hs → a ∈ α.hs) : ∀ {a b}, KDs K α H a b → KDs K αs H a b
  | _, _, .nil => .nil
  | _, _, .cons r t => .cons (r.sub hc hh) (KDs.sub hc hh t)
theorem KDs.keys : ∀ {a b}, KDs K α H a b → b.map (fun e => ktD e.1) = a.map fun e => ktD e.1
  | _, _, .nil => rfl
  | _, _, .cons r t => by simp only [List.map_cons, KDs.keys t]
theorem KDs.vals : ∀ {a b}, KDs K α H a b → VRs K α H (a.map (·.2)) (b.map (·.2))
  | _, _, .nil => .nil
  | _, _, .cons r t => .cons r (KDs.vals t)
end
/-- the state of a dict's comprehension -/
structure LdSt (K : PySem.W.Frag) (α1 : Al) (H1 : Hp) (D : Addr) (α : Al) (H : Hp) (C : Cells) (acc : List (List Key × V)) (dacc : List (List Key × DL.D)) : Prop where
  hs : α.hs = D :: α1.hs
  cr : CR K α H C
  ex : ExtW α1 H1 α H
  hk : ∀ b ∈ α1.hs, H b = H1 b
  at_ : H D = some (.dT acc)
  rs : KDs K α H acc dacc
section
variable {K : PySem.W.Frag} {α1 α α' : Al} {H1 H H' : Hp} {C C' C1 : Cells} {D : Addr} {acc : List (List Key × V)} {dacc : List (List Key × DL.D)}
theorem LdSt.start (c : CR K α1 H1 C1) (h : H1 D = none) : LdSt K α1 H1 D (α1.hide D) (upd H1 D (.dT [])) C1 [] [] :=
  ⟨rfl, c.hidden h (.inr (.inr ⟨_, rfl⟩)), ExtW.hide h, fun b hb => by obtain ⟨o', e, _⟩ := c.hid b hb; exact upd_ne (ne_of_none e h), upd_same, .nil⟩
theorem LdSt.go (l : LdSt K α1 H1 D α H C acc dacc) (e : Ext α H α' H') (c' : CR K α' H' C') : LdSt K α1 H1 D α' H' C' acc dacc := by
  have hd : D ∈ α.hs := by rw [l.hs]; exact List.mem_cons_self
  refine ⟨e.hs.trans l.hs, c', l.ex.trans (fun a ha => l.cr.has a (l.ex.sub ha)) e.toExtW, fun b hb => ?_, (e.hid D hd).trans l.at_, l.rs.extW l.cr e.toExtW⟩
  exact (e.hid b (by rw [l.hs]; exact List.mem_cons_of_mem _ hb)).trans (l.hk b hb)
theorem LdSt.put (c1 : CR K α1 H1 C1) (h0 : H1 D = none) (l : LdSt K α1 H1 D α H C acc dacc) (k : List Key) {y : V} {dy : DL.D} (r : VR K α H y dy) : LdSt K α1 H1 D α (upd H D (.dT (putK acc k y))) C (putK acc k y) (putD dacc k dy) := by
  have hp : D ∈ α.hs := by rw [l.hs]; exact List.mem_cons_self
  refine ⟨l.hs, l.cr.grow hp (.inr (.inr ⟨_, rfl⟩)), l.ex.mut h0, fun b hb => ?_, upd_same, (l.rs.put k r).extW l.cr (ExtW.grow hp)⟩
  obtain ⟨o', e, _⟩ := c1.hid b hb
  exact (upd_ne (ne_of_none e h0)).trans (l.hk b hb)
theorem LdSt.done (l : LdSt K α1 H1 D α H C acc dacc) : Ext α1 H1 ⟨α.cs, α1.hs⟩ H ∧ CR K ⟨α.cs, α1.hs⟩ H C ∧ VR K ⟨α.cs, α1.hs⟩ H (.ref D) (.dct (dacc.map fun e => ktD e.1) (dacc.map (·.2))) := by
  obtain ⟨hs, cr, ex, hk, at_, rs⟩ := l
  obtain ⟨cs, hs'⟩ := α
  simp only at hs
  subst hs
  have z : CR K ((⟨cs, α1.hs⟩ : Al).hide D) H C := cr
  have rs' := KDs.sub (α := (⟨cs, α1.hs⟩ : Al).hide D) (αs := ⟨cs, α1.hs⟩) rfl (fun a h => List.mem_cons_of_mem D h) rs
  exact ⟨⟨⟨ex.pre, noMore, ex.keep⟩, rfl, hk⟩, z.shown, .dctT at_ z.shown_not rs'.keys rs'.vals⟩
end
def putT (f g : EX) : Ro → List (List Key × D) → Mo (List (List Key × D)) := fun ρ acc => bnd (f ρ) fun y => bnd (g ρ) fun z => match y with
  | .tup es => match keysD es with
    | some k => if acc.length < sizeLine then ret (putD acc k z) else bad
    | none => bad
  | _ => bad
noncomputable def xDc2 (fi : IX) (vs : List Nat) (t : TX) (p : BX) (fi1 : IX) (ws : List Nat) (t1 : TX) (p1 : BX) (f g : EX) : EX := fun ρ => bnd (fi ρ) fun s => bnd (nb (lp s t p (wipeD ρ vs) (fun ρ1 acc => bnd (fi1 ρ1) fun s1 => lp s1 t1 p1 (wipeD ρ1 ws) (putT f g) s1.items acc) s.items [])) fun acc => ret (.dct (acc.map fun e => ktD e.1) (acc.map (·.2)))
section
variable {X : Cx} {W : WX}
theorem te_dct {α1 : Al} {H1 : Hp} {C1 : Cells} {D : Addr} {f g : EX} (c1 : CR X.K α1 H1 C1) (h0 : H1 D = none) (σ2 : St) (α : Al) (H : Hp) (C : Cells) (ρ1 : Ro) (a a' : List (List Key × DL.D)) (C' : Cells) (N : Hp → Prop)
    (st : ∃ acc, LdSt X.K α1 H1 D α H C acc a) (r : SR X.K α σ2 H ρ1) (run : putT f g ρ1 a C = .ok (a', C')) (fin : ∀ α' H', (∃ acc, LdSt X.K α1 H1 D α' H' C' acc a') → ExtW α H α' H' → N H') :
    tD X W0 f σ2 H fun y H7 => tD X W0 g σ2 H7 fun z H8 => ∃ kvs k b, y = .ref b ∧ H8 b = some (.tup (k.map kV)) ∧ H8 D = some (.dT kvs) ∧ kvs.length < sizeLine ∧ N (upd H8 D (.dT (putK kvs k z))) := by
  obtain ⟨acc, l⟩ := st
  obtain ⟨y, C5, w, run⟩ := bnd_ok run
  obtain ⟨z, C6, w2, run⟩ := bnd_ok run
  cases y with
  | tup es =>
    dsimp only at run
    cases hk : keysD es with
    | none => rw [hk] at run; cases run
    | some k =>
      rw [hk] at run
      dsimp only at run
      by_cases hl : a.length < sizeLine
      · rw [if_pos hl] at run
        cases run
        refine ⟨α, C, ρ1, l.cr, r, wpO_of w fun α5 H5 e5 c5 v rv => ?_⟩
        have l5 := l.go e5 c5
        refine ⟨α5, C5, ρ1, c5, r.ext l.cr e5, wpO_of w2 fun α6 H6 e6 c6 v2 rv2 => ?_⟩
        have l6 := l5.go e6 c6
        have rv6 := rv.ext c5 e6
        cases rv6 with
        | @tup b xs _ hb zb rb =>
          rw [keysD_vr rb hk] at hb
          have hp : D ∈ α6.hs := by rw [l6.hs]; exact List.mem_cons_self
          have e56 := e5.toExtW.trans (fun b hb => c5.has b (e5.toExtW.sub hb)) e6.toExtW
          exact ⟨acc, k, b, rfl, hb, l6.at_, by rw [l.rs.length]; exact hl, fin α6 _ ⟨_, l6.put c1 h0 k rv2⟩ (e56.trans (fun b hb => c6.has b (e56.sub hb)) (ExtW.grow hp))⟩
      · rw [if_neg hl] at run; cases run
  | _ => cases run
theorem ldS {K : PySem.W.Frag} {α1 : Al} {H1 : Hp} {D : Addr} : ∀ α H C a, (∃ acc, LdSt K α1 H1 D α H C acc a) → ExtW α1 H1 α H ∧ CR K α H C := fun α H C a ⟨_, l⟩ => ⟨l.ex, l.cr⟩
theorem ldG {K : PySem.W.Frag} {α1 : Al} {H1 : Hp} {D : Addr} : ∀ α H C a α' H' C', (∃ acc, LdSt K α1 H1 D α H C acc a) → Ext α H α' H' → CR K α' H' C' → ∃ acc, LdSt K α1 H1 D α' H' C' acc a := fun α H C a α' H' C' ⟨acc, l⟩ e c' => ⟨acc, l.go e c'⟩
theorem de_dc2 {kx vx t0 i0 t1 i1 : Expr} {f0 f1 : List Expr} {scope : Scope} {pos : Pos} {fi fi1 : IX} {t tt1 : TX} {p p1 : BX} {f g : EX} (own : List (Str × Nat)) {ix ix1 : List Nat} (ws : List Nat) (hc : X.calm = true) (hu : X.A.units + 64 < cLine) (hN : X.N.Nodup) (hi : DI X W t0 i0 fi)
    (hg : Blk X scope fun Y => DG Y t0 ix t) (ht : Blk X scope fun Y => DTs Y W0 f0 p) (hi1 : Blk X scope fun Y => DI Y W0 t1 i1 fi1) (hg1 : Blk X scope fun Y => DG Y t1 ix1 tt1) (ht1 : Blk X scope fun Y => DTs Y W0 f1 p1) (hk : Blk X scope fun Y => DE Y W0 kx f) (he : Blk X scope fun Y => DE Y W0 vx g) (ok : blkC X.N X.env.scope scope own = true := by decide +kernel) (hix : ∀ i ∈ ix, i ∈ own.map (·.2) := by decide) (hix1 : ∀ i ∈ ix1, i ∈ ws := by decide) (hws : ∀ i ∈ ws, i ∈ own.map (·.2) := by decide)
    (hs : ∀ x, foldedSetIterable i0 X.env x = pure x := by intro _; rfl) (hs1 : ∀ env x, foldedSetIterable i1 env x = pure x := by intro _ _; rfl) : DE X W (.DictComp kx vx [⟨t0, i0, f0, 0⟩, ⟨t1, i1, f1, 0⟩] scope pos) (xDc2 fi (own.map (·.2)) t p fi1 ws tt1 p1 f g) :=
  peImp (DC.pe_dc2 (g := gD X ix t) (tt := tDT X W0 p) (wi1 := iD X W0 fi1) (g1 := gD X ix1 tt1) (tt1 := tDT X W0 p1) (tk := tD X W0 f) (tv := tD X W0 g) hc (by omega) hN hi (blkOk_by ok) hws hg ht hi1 hg1 ht1 hk he hs hs1) fun σ H Q h => by
  obtain ⟨α, C, ρ, c, r, h⟩ := h
  refine ⟨α, C, ρ, c, r, (WpO.bnd c h).mono fun α1 H1 C1 s e1 c1 h1 J G Y dw D hD => ?_⟩
  obtain ⟨ds, C2, hcomp, h2⟩ := wpNbok h1
  refine lp_any (S := fun α H C a => ∃ acc, LdSt X.K α1 H1 D α H C acc a) c1 ((r.ext c e1).wipe _) hix dw ldS ldG ⟨[], LdSt.start c1 hD⟩ hcomp (fun σ2 α H C ρ1 a a' C' N st r1 run fin => ?_) fun α3 H3 ⟨acc, l⟩ => ?_
  · exact lp_in (S := fun α H C a => ∃ acc, LdSt X.K α1 H1 D α H C acc a) hix1 ldS ldG (te_dct c1 hD) st r1 run fin
  · obtain ⟨e3, c3, v3⟩ := l.done
    exact h2 _ H3 e3 c3 (.ref D) v3
end
end DL

/-! DL17: enumerate of a tuple; list(dict); sorted pairs; a, b = a list. -/
namespace ET
open PySem PySem.Spec PyProof.Rows L2
open AutoSeq1 (wpAny_loadPart')
theorem meetsT (l : Addr) (its : Array Value) (n : Nat) (dd : Option Addr) (sl : Array (Option Value)) :
    Meets (Builtin.«enumerate.__new__» ⟨[.type "enumerate", .ref l], []⟩) (fun _ R s => s.heap.get? l = some ⟨.type "tuple", dd, .seq its n, sl⟩ ∧
      R (.ok (.ret (.ref (s.heap.push { cls := .type "tuple_iterator", data := .fields #[.ref l, .int 0 0] }).objs.size)))
        { s with heap := (s.heap.push { cls := .type "tuple_iterator", data := .fields #[.ref l, .int 0 0] }).push { cls := .type "enumerate", data := .fields #[.none, .bool false, .ref s.heap.objs.size, rawInt 0, .none, .none] } }) :=
  .of_wp fun prog w A R s got => by
    obtain ⟨hp, g, d, tk, os⟩ := s
    obtain ⟨hl, h⟩ := got
    have sub := sub_enumerate
    have hT : Heap.IsTuple (Shared.heap ⟨hp, g, d, tk, os⟩) l its := ⟨_, hl, rfl, n, rfl⟩
    wp_walk using wpAny_loadPart' hl
    refine wpAny_stack_any fun st => wpAny_pure ?_
    split
    · rename_i c _ _ _ _ _
      cases (c == Value.type "enumerate")
      all_goals
        wp_walk using wpAny_loadPart' hl, wpAny_pyIter_tuple hT
        exact ⟨_, rfl, h⟩
    · wp_walk using wpAny_loadPart' hl, wpAny_pyIter_tuple hT
      exact ⟨_, rfl, h⟩
theorem callT {prog : Program} {w : World} {A : Around} {E : Value → Shared → Prop} {s : Shared} {l : Addr} {its : Array Value} {Q : Value → Shared → Prop} (hT : s.heap.IsTuple l its)
    (h : ∀ h', IsEnum h' (s.heap.objs.size + 1) s.heap.objs.size 0 .none → h'.IsTupleIter s.heap.objs.size l 0 → (∀ b o, s.heap.get? b = some o → h'.get? b = some o) → Q (.ref (s.heap.objs.size + 1)) { s with heap := h' }) :
    wpAny (model prog w) A (call (.type "enumerate") [.ref l]) Q E s := by
  obtain ⟨⟨c, dd, dt, sl⟩, hl, hc, n, hd⟩ := hT
  obtain rfl : c = .type "tuple" := hc
  obtain rfl : dt = .seq its n := hd
  refine callType_new F.called_enumerate (by decide) (F.typeCall_enumerate_1 _) (F.newCall_enumerate_1 _) (fun obj => F.args_object_init_2 obj _) F.entry_enumerate_new (meetsT l its n dd sl) ⟨hl, ?_⟩
  have z : (s.heap.push { cls := .type "tuple_iterator", data := .fields #[.ref l, .int 0 0] }).objs.size = s.heap.objs.size + 1 := Heap.size_push ..
  show _ ∧ _
  rw [z]
  have e : IsEnum ((s.heap.push { cls := .type "tuple_iterator", data := .fields #[.ref l, .int 0 0] }).push { cls := .type "enumerate", data := .fields #[.none, .bool false, .ref s.heap.objs.size, rawInt 0, .none, .none] }) (s.heap.objs.size + 1) s.heap.objs.size 0 .none := by
    have q := Heap.get?_push_size (s.heap.push { cls := .type "tuple_iterator", data := .fields #[.ref l, .int 0 0] }) (o := { cls := .type "enumerate", data := .fields #[.none, .bool false, .ref s.heap.objs.size, rawInt 0, .none, .none] }) rfl
    rwa [z] at q
  exact ⟨⟨_, e, rfl⟩, h _ e ⟨_, Heap.get?_push_of_some _ (Heap.get?_push_size _ rfl), rfl, rfl⟩ fun b o x => Heap.get?_push_of_some _ (Heap.get?_push_of_some _ x)⟩
theorem drawsT {prog : Program} {w : World} {A : Around} (hh : A.handled = none) (it l : Addr) (its : Array Value) (hne : l ≠ it) : Draws prog w A it [it, l] its.size (fun i x => its[i]? = some x) (fun i h => h.IsTupleIter it l i ∧ h.IsTuple l its) where
  live := fun i h st => let ⟨⟨o, e, _⟩, _⟩ := st; ⟨o, e⟩
  frame := fun i h h' st k => by
    obtain ⟨⟨o, e, r⟩, ⟨o2, e2, r2⟩⟩ := st
    exact ⟨⟨o, k it (by simp) _ e, r⟩, ⟨o2, k l (by simp) _ e2, r2⟩⟩
  item := fun i s Q E hi st h => by
    refine RZ.nextOf_tuple_item st.1 st.2 (Array.getElem?_eq_getElem hi) fun h' a b => ?_
    exact h _ h' s.toks (Array.getElem?_eq_getElem hi) ⟨a, st.2.extBut b.extBut hne⟩ b
  done := fun s Q E st h => RZ.nextOf_tuple_end hh st.1 st.2 (by simp) h
/-- the tuple at a at each turn, its items in new pairs -/
def IteT (K : PySem.W.Frag) (a : Addr) : It :=
  ⟨fun i H => ∃ (xs : List V) (x : V), SqT K H a xs ∧ xs[i]? = some x, fun i H v H' => ∃ T x, v = .ref T ∧ H T = none ∧ H' = upd H T (.tup [.int (i : Nat), x]) ∧ ∀ xs, SqT K H a xs → xs[i]? = some x, fun i H => ∃ xs : List V, SqT K H a xs ∧ xs.length ≤ i⟩
theorem turnT {P : Program} {w : World} {K : PySem.W.Frag} {elts : List Expr} {kk : Nat} {tpos : Pos} (a e it : Addr) (hai : a ≠ it) (hae : a ≠ e) :
    Turn P w K (.Tuple elts kk tpos) (IteT K a) [e, it] e (fun i h => (∃ old, IsEnum h e it ((i : Nat) : Int) old) ∧ h.IsTupleIter it a i ∧ e ≠ it) where
  mem := by simp
  obj := fun i h st b hb => by
    obtain ⟨⟨old, he⟩, ⟨o, ho, _, hd⟩, _⟩ := st
    rcases (show b = e ∨ b = it by simpa using hb) with rfl | rfl
    · exact ⟨_, he, fun v q => nomatch q⟩
    · exact ⟨o, ho, fun v q => by rw [hd] at q; cases q⟩
  keep := fun i h h' st k => by
    obtain ⟨⟨old, he⟩, ⟨o, ho, r⟩, hne⟩ := st
    exact ⟨⟨old, k e (by simp) _ he⟩, ⟨o, k it (by simp) _ ho, r⟩, hne⟩
  item := by
    intro X hP hw hK hc i pins s σ H E I hf st hg
    subst hP hw hK
    obtain ⟨⟨old, he⟩, hit, hne⟩ := st
    obtain ⟨xs, x, hq, hx⟩ := hg
    obtain ⟨its, rv, p, hz⟩ := I.tuple hq
    obtain ⟨u, hu, ru⟩ := rv.get hx
    have hel : e < s.heap.objs.size := Heap.lt_size he
    have hil : it < s.heap.objs.size := by obtain ⟨_, q, _⟩ := hit; exact Heap.lt_size q
    have hui : its.toArray[i]? = some u := by simpa using hu
    have hilt : i < its.toArray.size := (Array.getElem?_eq_some_iff.mp hui).1
    refine wpAny_pyNext_enum_itemD (drawsT (A := X.A.in1) (I.ok.hd hc) it a its.toArray hai) he ⟨hit, p⟩ hilt hne (by simp [hne, Ne.symm hae]) fun y h' tk hy ho st' hT _ hk => ?_
    rw [hui] at hy
    cases hy
    refine ⟨_, rfl, wpAny_letOwnedTupleGo_enum (s := { s with heap := h', toks := tk + 1 }) ho fun h'' he' sb => ?_⟩
    have hT2 := (sb.2 _ (Nat.ne_of_gt hel)).trans hT
    have new : ObjOk X.prog X.w (upd H s.heap.objs.size (.tup [.int (i : Nat), x])) h'' s.heap.objs.size (.tup [.int (i : Nat), x]) :=
      ⟨show 2 ≤ sizeLine by decide, [.int i tk, u], .cons ⟨_, rfl⟩ (.cons ru .nil), ⟨_, hT2, rfl, _, rfl⟩⟩
    have I1 : Inv X pins σ (upd H s.heap.objs.size (.tup [.int (i : Nat), x])) { s with heap := h'', toks := tk + 1 } :=
      I.turnedNew (ch := [e, it]) (fun b ob hb q => (sb.2 b fun z => hb (by simp [z])).trans (hk b ob (fun z => hb (by simp [z])) (fun z => hb (by simp [z])) q)) hf (Nat.le_refl _) new
    have un : ∀ ys, SqT X.K H a ys → ys[i]? = some x := fun ys hy => I.tuple_inj hy hq ▸ hx
    refine ⟨.ref s.heap.objs.size, _, I1, rfl, ⟨_, x, rfl, I.hok.fresh (Nat.le_refl _), rfl, un⟩, ⟨⟨u, ?_⟩, ?_, hne⟩, fun b hb => ?_⟩
    · rw [show ((i + 1 : Nat) : Int) = (i : Int) + 1 by omega]; exact he'
    · obtain ⟨⟨o, ho, r⟩, _⟩ := st'
      exact ⟨o, (sb.2 it (Ne.symm hne)).trans ho, r⟩
    · have lt : b < s.heap.objs.size := by
        rcases (show b = e ∨ b = it by simpa using hb) with rfl | rfl
        · exact hel
        · exact hil
      exact (upd_ne (Nat.ne_of_lt lt)).trans (hf b hb).1
  done := by
    intro X hP hw hK hc i pins s σ H E I hf st hg
    subst hP hw hK
    obtain ⟨⟨old, he⟩, hit, hne⟩ := st
    obtain ⟨xs, hq, hx⟩ := hg
    obtain ⟨its, rv, p, hz⟩ := I.tuple hq
    have hl := rv.length
    obtain ⟨f0, f1, f2, f3, f4, f5⟩ := hf it (by simp)
    have fine : ∀ h', Heap.ExtBut it s.heap h' → Inv X pins σ H { s with heap := h' } := fun h' eb => I.turned (t' := s.toks) (fun b o hb q => eb b o hb q) f0 f1 f3 f4 f5
    unfold pyNext
    have hT : s.TypeIs (.ref e) "enumerate" := ⟨_, he, rfl⟩
    refine wpAny_bind (wpAny_attempt (wpAny_callSpecial?_slot (name := Str.ofString "__next__") hT F.slot_enumerate_next (wpAny_call_entry F.slot_enumerate_next hT F.entry_enumerate_next ?_ (F.args_enumerate_next_1 _))))
    show wpAny _ _ (field (.ref e) 2 >>= _) _ _ _
    refine wpAny_bind (wpAny_field he rfl (x := .ref it) rfl ?_)
    refine wpAny_bind (RZ.nextOf_tuple_end (A := X.A.in1) (I.ok.hd hc) hit (show s.heap.IsTuple a its.toArray from p) (by simp; omega) fun h' y eb hy => ?_)
    obtain ⟨o, ho, hco⟩ := hy
    refine wpAny_bind (wpAny_isInstance (T := "StopIteration") (b := true) ⟨o, ho, hco⟩ isSubtype_stop ?_)
    exact wpAny_pure ⟨rfl, fine h' eb⟩
  self := fun A i s Q E st h => let ⟨⟨_, he⟩, _⟩ := st; wpAny_pyIter_enum he h
def iEnumT (K : PySem.W.Frag) (ta : TA) : TI := fun σ H R => ta σ H fun vs H1 => ∃ a xs, vs = [.ref a] ∧ SqT K H1 a xs ∧ R (IteT K a) H1
theorem pi_enumT {X : Cx} {e : Expr} {ta : TA} {p pos tpos : Pos} {elts : List Expr} {kk : Nat} (hg : Gl X "enumerate") (hm : X.mg "enumerate" = none) (ha : PA X [e] ta) (hs : starEach [e] X.env = [(false, eval e X.env)] := by rfl) :
    PI X (.Tuple elts kk tpos) (.Call (.Name "enumerate" p) [e] [] pos) (iEnumT X.K ta) := by
  refine ⟨fun pins s σ H R I h => ?_⟩
  refine Call_ (ld_blt I hg hm boot_enumerate (callWith_type1 (thn (ha.run pos pins s σ H _ I h) fun us s1 ⟨vs, H1, I1, r1, q1⟩ => ?_) hs rfl))
  obtain ⟨a, xs, rfl, hq, q⟩ := q1
  cases r1 with
  | cons r rr =>
    cases rr
    cases r
    obtain ⟨its, rv, p', hz⟩ := I1.tuple hq
    have pt : s1.heap.IsTuple a its.toArray := p'
    have hal : a < s1.heap.objs.size := by obtain ⟨_, q, _⟩ := pt; exact Heap.lt_size q
    refine callT pt fun h' he hit hk => wpAny_pyIter_enum he ?_
    have I2 : Inv X pins σ H1 { s1 with heap := h' } := I1.kept (t' := s1.toks) hk
    refine ⟨s1.heap.objs.size + 1, [s1.heap.objs.size + 1, s1.heap.objs.size], _, _, H1, rfl, I2, turnT a (s1.heap.objs.size + 1) s1.heap.objs.size (Nat.ne_of_lt hal) (Nat.ne_of_lt (Nat.lt_succ_of_lt hal)), ⟨⟨.none, he⟩, hit, Nat.succ_ne_self _⟩, fun b hb => ?_, q⟩
    have le : s1.heap.objs.size ≤ b := by
      rcases (show b = s1.heap.objs.size + 1 ∨ b = s1.heap.objs.size by simpa using hb) with z | z
      · rw [z]; exact Nat.le_succ _
      · rw [z]; exact Nat.le_refl _
    exact I1.fpOk le (I1.hok.fresh le)
theorem walkT {K : PySem.W.Frag} {a : Addr} {xs : List V} : Walk (IteT K a) xs.length (fun H => SqT K H a xs) (YPair (fun i => some (.int (i : Nat))) (fun i => xs[i]?)) := by
  refine ⟨fun i _ hi q => ⟨xs, xs[i], q, by simp [hi]⟩, fun _ q => ⟨xs, q, Nat.le_refl _⟩, fun i H v H' hi q y => ?_⟩
  obtain ⟨T, x, h1, h2, h3, h4⟩ := y
  exact ⟨T, .int i, x, h1, h2, h3, rfl, h4 xs q⟩
end ET
namespace DL
open PySem L2
section
variable {X : Cx} {W : WX} {e : Expr} {fa : AX} {pos : Pos}
/-- the items of a tuple -/
def tupOf : D → Option (List D)
  | .tup ds => some ds
  | _ => none
def iEnT (fa : AX) : IX := fun ρ => bnd (fa ρ) fun xs => lft fun _ => match xs with
  | [x] => (tupOf x).map fun ds => ⟨zpD (idD ds) ds, none⟩
  | _ => none
theorem di_enumT {elts : List Expr} {kk : Nat} {tpos p : Pos} (hm : X.mg "enumerate" = none) (ha : DA X W [e] fa) (hg : Gl X "enumerate" := by rfl) (hs : starEach [e] X.env = (false, eval e X.env) :: starEach [] X.env := by rfl) :
    DI X W (.Tuple elts kk tpos) (.Call (.Name "enumerate" p) [e] [] pos) (iEnT fa) := piImp (ET.pi_enumT hg hm ha hs) fun σ H R ⟨α, C, ρ, c, r, h⟩ => by
  refine ⟨α, C, ρ, c, r, (WpO.bnd c h).mono fun α1 H1 C1 xs e1 c1 h1 vs rvs => ?_⟩
  obtain ⟨s, hs, q⟩ := h1.lft
  have q := q α1 H1 (Ext.refl _ _) c1
  split at hs
  · rename_i x
    obtain ⟨ds, hd, hs⟩ := Option.map_eq_some_iff.mp hs
    subst hs
    obtain ⟨v, rfl, rv⟩ := vrs1 rvs
    have hx : x = .tup ds := by cases x <;> cases hd; rfl
    subst hx
    obtain ⟨l, xs, rfl, s1, k1, z1, r1⟩ := stT c1 rv
    refine ⟨l, xs, rfl, s1, q _ _ _ (dw_pair (K := X.K) (n := xs.length) ET.walkT ?_ z1 (fun α' H' e => k1 α' H' e) ?_ ?_)⟩
    · unfold zpD idD; rw [List.length_zipWith, r1.length]; simp
    · intro i x d α' H' C' h1 h2 e c'
      cases h1
      unfold idD at h2
      rw [List.getElem?_map] at h2
      obtain ⟨j, h3, h4⟩ := Option.map_eq_some_iff.mp h2
      obtain ⟨h5, h6⟩ := List.getElem?_eq_some_iff.mp h3
      rw [List.getElem_range] at h6
      subst h6 h4
      exact .int _
    · intro i x d α' H' C' h1 h2 e c'
      obtain ⟨d', h3, h4⟩ := r1.get h1
      rw [h2] at h3; cases h3
      exact h4.extW c1 e
  · cases hs
/-! ### list(dict) -/
def small : D → Bool
  | .tup es => decide (es.length ≤ 1000)
  | _ => true
def oListD : OpN := fun C xs => match xs with
  | [x] => match look C x with
    | .dct ks _ => if ks.all small && decide (ks.length ≤ 1000000) then some (.lst ks) else none
    | y => (seqOf y).map .lst
  | _ => none
theorem VR.asD {K : PySem.W.Frag} {α : Al} {H : Hp} {C : Cells} {v : V} {d : D} {ks vs : List D} (c : CR K α H C) (r : VR K α H v d) (h : look C d = .dct ks vs) : ∃ a, v = .ref a ∧ ((∃ kvs : List (Key × V), H a = some (.dK kvs) ∧ ks = kvs.map (fun p => kD p.1) ∧ VRs K α H (kvs.map (·.2)) vs) ∨ ∃ kvs : List (List Key × V), H a = some (.dT kvs) ∧ ks = kvs.map (fun p => ktD p.1) ∧ VRs K α H (kvs.map (·.2)) vs) := by
  cases r with
  | @dctK a kvs ks' vs' h1 n e r => cases h; exact ⟨a, rfl, .inl ⟨kvs, h1, e, r⟩⟩
  | @dctT a kvs ks' vs' h1 n e r => cases h; exact ⟨a, rfl, .inr ⟨kvs, h1, e, r⟩⟩
  | @hnd k a hk =>
    unfold look at h
    cases hc : C[k]? with
    | none => simp only [hc] at h; cases h
    | some cl =>
      cases cl with
      | lst _ => simp only [hc] at h; cases h
      | dct ks' vs' =>
        simp only [hc] at h
        cases h
        exact ⟨a, rfl, c.at_ k _ _ hk hc⟩
  | _ => cases h
theorem kD_vr {K : PySem.W.Frag} {α : Al} {H : Hp} (k : Key) : VR K α H (kV k) (kD k) := by
  cases k with
  | inl i => exact .int i
  | inr x => exact .str x
theorem kDs_vr {K : PySem.W.Frag} {α : Al} {H : Hp} : ∀ ks : List Key, VRs K α H (ks.map kV) (ks.map kD)
  | [] => .nil
  | k :: ks => .cons (kD_vr k) (kDs_vr ks)
theorem kKs_vr {K : PySem.W.Frag} {α : Al} {H : Hp} : ∀ kvs : List (Key × V), VRs K α H (kvs.map fun kv => kV kv.1) (kvs.map fun p => kD p.1)
  | [] => .nil
  | k :: ks => .cons (kD_vr k.1) (kKs_vr ks)
theorem kTs_vr {K : PySem.W.Frag} {α : Al} {H : Hp} : ∀ {kvs : List (List Key × V)} {bs : List Addr}, IsKeys H kvs bs → (kvs.map fun p => ktD p.1).all small = true → VRs K α H (bs.map V.ref) (kvs.map fun p => ktD p.1)
  | _, _, .nil, _ => .nil
  | _, _, .cons h t, q => by
    simp only [List.map_cons, List.all_cons, Bool.and_eq_true] at q ⊢
    refine .cons (.tup h ?_ (kDs_vr _)) (kTs_vr t q.2)
    have z := q.1
    simp only [ktD, small, List.length_map, decide_eq_true_eq] at z
    rw [List.length_map]
    exact Nat.le_trans z (by decide)
theorem c_listD (hc : X.calm = true) : CallR X (.type "list") (rDN X.K oListD) := callImp (call_list_of.or ((call_listD hc).or (call_list_dT hc))) fun xs H Q ⟨α, C, ds, dz, c, r, h, ans⟩ => by
  unfold oListD at h
  split at h
  · rename_i x
    obtain ⟨v, rfl, rv⟩ := vrs1 r
    split at h
    · rename_i ks vs hl
      split at h
      · rename_i hk
        cases h
        obtain ⟨hk1, hk2⟩ := Bool.and_eq_true_iff.mp hk
        have hk2 : ks.length ≤ 1000000 := of_decide_eq_true hk2
        obtain ⟨a, rfl, ⟨kvs, h1, rfl, r1⟩ | ⟨kvs, h1, rfl, r1⟩⟩ := rv.asD c hl
        · refine .inr (.inl ⟨a, kvs, rfl, .inl h1, fun p hp => ans.new c hp (vrNew c hp ?_ (kKs_vr kvs))⟩)
          rw [List.length_map] at hk2 ⊢
          exact Nat.le_trans hk2 (by decide)
        · refine .inr (.inr ⟨a, kvs, rfl, .inl h1, fun p bs hp hb => ans.new c hp (vrNew c hp ?_ (kTs_vr hb hk1))⟩)
          have l := (kTs_vr (K := X.K) (α := α) hb hk1).length
          rw [l]
          exact Nat.le_trans hk2 (by decide)
      · cases h
    · obtain ⟨ds, h1, h2⟩ := Option.map_eq_some_iff.mp h
      subst h2
      obtain ⟨a, xs, rfl, ha, z, ra⟩ := rv.asSeq c h1
      refine .inl ⟨a, xs, rfl, ?_, fun p hp => ans.new c hp (vrNew c hp z ra)⟩
      rcases ha with ha | ha
      · exact .inl ha.1
      · exact .inr (SqT.of ha.1)
  · cases h
/-! ### sorted pairs -/
def prsO : List D → Option (List (Int × Int))
  | [] => some []
  | .tup [.int i, .int j] :: r => (prsO r).map ((i, j) :: ·)
  | _ :: _ => none
def pD (p : Int × Int) : D := .tup [.int p.1, .int p.2]
theorem prsO_eq : ∀ {ds : List D} {ps : List (Int × Int)}, prsO ds = some ps → ds = ps.map pD := by
  intro ds
  induction ds with
  | nil => intro ps h; cases h; rfl
  | cons d ds ih =>
    intro ps h
    unfold prsO at h
    split at h
    · rename_i z; cases z
    · rename_i i j r z
      cases z
      obtain ⟨m, h1, h2⟩ := Option.map_eq_some_iff.mp h
      subst h2
      rw [ih h1]; rfl
    · cases h
def sortP (ps : List (Int × Int)) : List (Int × Int) := ps.mergeSort fun p q => !SrtO.lexB q p
theorem lex_no {p q : Int × Int} : (!SrtO.lexB q p) = true ↔ ¬ (q.1 < p.1 ∨ (q.1 = p.1 ∧ q.2 < p.2)) := by
  rw [Bool.not_eq_true']
  exact SrtO.lexB_no
theorem sortP_eq {ps qs : List (Int × Int)} (hp : qs.Perm ps) (hs : qs.Pairwise fun p q => SrtO.lexB q p = false) : qs = sortP ps := by
  refine List.Perm.eq_of_pairwise (le := fun p q => (!SrtO.lexB q p) = true) (fun a b _ _ h1 h2 => ?_) (hs.imp fun h => by rw [h]; rfl) ?_ (hp.trans (List.mergeSort_perm ps _).symm)
  · have h1 := lex_no.mp h1
    have h2 := lex_no.mp h2
    obtain ⟨a1, a2⟩ := a
    obtain ⟨b1, b2⟩ := b
    simp only at h1 h2
    congr 1 <;> omega
  · exact List.pairwise_mergeSort (le := fun p q : Int × Int => !SrtO.lexB q p) (fun a b c h1 h2 => by
      have h1 := lex_no.mp h1
      have h2 := lex_no.mp h2
      refine lex_no.mpr ?_
      omega) (fun a b => by
      rw [Bool.or_eq_true, lex_no, lex_no]
      omega) ps
def oSortedP : OpN := fun C xs => match xs with
  | [x] => (lstOf (look C x)).bind fun ds => match intsO ds with
    | some ns => some (.lst ((sortI ns).map D.int))
    | none => (prsO ds).map fun ps => .lst ((sortP ps).map pD)
  | _ => none
theorem prs_vr {K : PySem.W.Frag} {α : Al} {H : Hp} : ∀ {xs : List V} {ps : List (Int × Int)}, VRs K α H xs (ps.map pD) → ∃ k : V → Int × Int, xs.map k = ps ∧ ∀ x ∈ xs, ∃ t, x = V.ref t ∧ H t = some (.tup [.int (k x).1, .int (k x).2]) := by
  intro xs ps r
  let k : V → Int × Int := fun v => match v with
    | .ref t => match H t with
      | some (.tup [.int i, .int j]) => (i, j)
      | _ => (0, 0)
    | _ => (0, 0)
  refine ⟨k, ?_⟩
  induction ps generalizing xs with
  | nil => cases r; exact ⟨rfl, fun x hx => nomatch hx⟩
  | cons p ps ih =>
    cases r with
    | cons h t =>
      obtain ⟨h1, h2⟩ := ih t
      unfold pD at h
      cases h with
      | @tup a ys _ ha z rs =>
        cases rs with
        | cons r1 rs =>
          cases rs with
          | cons r2 rs =>
            cases rs
            cases r1
            cases r2
            have e : k (V.ref a) = p := by show (match H a with | some (.tup [.int i, .int j]) => (i, j) | _ => (0, 0)) = p; rw [ha]
            refine ⟨by rw [List.map_cons, e, h1], fun x hx => ?_⟩
            rcases List.mem_cons.mp hx with rfl | hx
            · exact ⟨a, rfl, by rw [e]; exact ha⟩
            · exact h2 x hx
theorem vr_prs {K : PySem.W.Frag} {α : Al} {H : Hp} {k : V → Int × Int} : ∀ {ys : List V}, (∀ y ∈ ys, ∃ t, y = V.ref t ∧ H t = some (.tup [.int (k y).1, .int (k y).2])) → VRs K α H ys ((ys.map k).map pD)
  | [], _ => .nil
  | y :: ys, h => by
    obtain ⟨t, e, ht⟩ := h y List.mem_cons_self
    refine .cons ?_ (vr_prs fun z hz => h z (List.mem_cons_of_mem _ hz))
    subst e
    exact .tup ht (by show 2 ≤ sizeLine; decide) (.cons (.int _) (.cons (.int _) .nil))
theorem c_sortedP : CallR X (.builtin "sorted") (rDN X.K oSortedP) := callImp (cr_sortedI.or cr_sortedPO) fun xs H Q ⟨α, C, ds, dz, c, r, h, ans⟩ => by
  unfold oSortedP at h
  split at h
  · rename_i x
    obtain ⟨v, rfl, rv⟩ := vrs1 r
    obtain ⟨es, h1, h⟩ := Option.bind_eq_some_iff.mp h
    obtain ⟨a, xs, rfl, ha, z, ra⟩ := rv.asLst c h1
    split at h
    · rename_i ns hn
      cases h
      rw [intsO_eq hn] at ra
      rw [vrs_ints ra] at ha z
      refine .inl ⟨a, ns, rfl, ha, fun ms p h1 h2 hp => ?_⟩
      rw [sortI_eq h1 h2]
      refine ans.new c hp (vrNew c hp ?_ (VRs.ints _))
      rw [List.length_map] at z ⊢
      unfold sortI
      rw [List.length_mergeSort]
      exact z
    · obtain ⟨ps, h2, h3⟩ := Option.map_eq_some_iff.mp h
      subst h3
      rw [prsO_eq h2] at ra
      obtain ⟨k, e1, e2⟩ := prs_vr ra
      refine .inr ⟨a, xs, k, rfl, ha, e2, fun ys p hs hb hp => ?_⟩
      have e3 : ys.map k = sortP ps := sortP_eq (by rw [← e1]; exact hb.perm.map k) (List.pairwise_map.mpr hs)
      have r2 : VRs X.K α H ys ((ys.map k).map pD) := vr_prs fun y hy => e2 y (hb.perm.mem_iff.mp hy)
      rw [e3] at r2
      exact ans.new c hp (vrNew c hp (by rw [hb.perm.length_eq]; exact z) r2)
  · cases h
/-! ### a, b = [..] -/
def gUnpD (n : Nat) (t : List D → Ro → Mo Ro) : TX := fun d ρ => match d with
  | .lst ds => if ds.length = n then t ds ρ else bad
  | _ => bad
theorem dg_unp {es : List Expr} {k n : Nat} {ix : List Nat} {t : List D → Ro → Mo Ro} (hc : X.calm = true) (h : DGs X es ix t) (hn : (assignEach es X.env).length = n := by rfl) (hst : (assignEach es X.env).findIdx? (·.1) = none := by rfl) :
    DG X (.Tuple es k pos) ix (gUnpD n t) := pgImp (pg_lst hc h hn hst) fun v σ H Q ⟨α, C, ρ, d, c, r, rv, h⟩ => by
  unfold gUnpD at h
  cases rv with
  | @lst a xs ds h1 _ z rvs =>
    dsimp only at h
    by_cases hl : ds.length = n
    · rw [if_pos hl] at h
      exact ⟨a, xs, rfl, SqL.of h1, rvs.length.trans hl, α, C, ρ, ds, c, r, rvs, h⟩
    · rw [if_neg hl] at h
      exact h.elim
  | _ => exact h.elim
theorem ne_unp {n : Nat} {t : List D → Ro → Mo Ro} (h : ∀ ds ρ C er C', t ds ρ C ≠ .err er C') : NoErr (gUnpD n t) := fun d ρ C er C' e => by
  unfold gUnpD at e
  split at e
  · split at e
    · exact h _ _ _ _ _ e
    · cases e
  · cases e
end
end DL

/-! DL18: x = a comprehension of two clauses. -/
namespace DC
open PySem PySem.Spec PyProof.Rows L2
theorem sw_dict {kx vx : Expr} {gs : List Comprehension} {sc : Scope} {p py : Pos} {y : Str} {l : Nat} {env : Env} (k1 : env.scope.kind = .function) (k2 : env.scope.names.lookup y = some .local) (k3 : (py.line == p.line) = true)
    (k4 : (sc.names.any fun (n, k) => n == y && (k == .local || k == .cell)) = false) : swapsWith (.DictComp kx vx gs sc p) (some (.Name y py)) l env = pure true := by
  have q1 : env.kindOf y = some .local := k2
  have q2 : env.blockKind = .function := by unfold Env.blockKind; rw [k1]; rfl
  unfold swapsWith
  simp only [q2, q1, k4, Expr.pos, k3]
  rfl
section
variable {X : Cx}
theorem ps_setDc2 {i : Nat} {y : Str} {py : Pos} {kx vx t0 i0 t1 i1 : Expr} {f0 f1 : List Expr} {sc : Scope} {own : List (Str × Nat)} {ws : List Nat} {p sp : Pos} {wi wi1 : TI} {g g1 : TG} {tt tt1 : TT} {tk tv : TE} (hc : X.calm = true) (hu : X.A.units < cLine) (hN : X.N.Nodup) (hy : X.N[i]? = some y) (hyl : X.env.scope.names.lookup y = some .local)
    (hsw : swapsWith (.DictComp kx vx [⟨t0, i0, f0, 0⟩, ⟨t1, i1, f1, 0⟩] sc p) (some (.Name y py)) sp.line X.env = pure true) (hi : PI X t0 i0 wi) (ok : BlkOk X.N X.env.scope sc own) (hv : ∀ i ∈ ws, i ∈ own.map (·.2))
    (hg : InB X sc fun Y => PG Y t0 g) (ht : InB X sc fun Y => PTs Y f0 tt) (hi1 : InB X sc fun Y => PI Y t1 i1 wi1) (hg1 : InB X sc fun Y => PG Y t1 g1) (ht1 : InB X sc fun Y => PTs Y f1 tt1) (hk : InB X sc fun Y => PE Y kx tk) (he : InB X sc fun Y => PE Y vx tv)
    (hs : ∀ x, foldedSetIterable i0 X.env x = pure x := by intro _; rfl) (hs1 : ∀ env x, foldedSetIterable i1 env x = pure x := by intro _ _; rfl) :
    PS X (.Assign [.Name y py] (.DictComp kx vx [⟨t0, i0, f0, 0⟩, ⟨t1, i1, f1, 0⟩] sc p) sp) (tAsg (tDc2 wi g tt wi1 g1 tt1 tk tv (own.map (·.2)) ws) (gName i)) := by
  refine ⟨fun pins s σ H D I h => ?_⟩
  rw [exec_Assign_Name_used _ _ _ _ hsw]
  refine wpAny_bind (wpAny_standAt (wpAny_bind ?_))
  show wpAny _ X.A (do let _ ← comprehension (E2 kx vx t0 i0 t1 i1 f0 f1 sc p) sc X.env (firstIterPos [⟨t0, i0, f0, 0⟩, ⟨t1, i1, f1, 0⟩] p) newDict false (eval i0 X.env) (some (assign (.Name y py) X.env))) _ _ s
  have h : tDc2 wi g tt wi1 g1 tt1 tk tv (own.map (·.2)) ws σ H (fun x H1 => gName i x σ H1 D.nx) := h
  refine wpAny_bind (thn (core (Qf := fun _ s' => SP X pins D .next s') hc hu hN I hi ok hv hg ht hi1 hg1 ht1 hk he hs hs1 h fun L C s' m H' J q nm f => ?_) fun _ s' hq => wpAny_pure (wpAny_pure hq))
  show wpAny _ _ (assign (.Name y py) X.env (.ref L)) _ _ _
  refine wpAny_assign_Name (store_ok2 (v := V.ref L) J hN hy (.inl hyl) rfl (fun s2 J2 ⟨a, sb, ha⟩ => ?_) (.inr hyl))
  obtain ⟨z0, z1, z2, z3, z4, z5⟩ := f
  have ne : C ≠ a := by
    rcases ha with z | z
    · exact z ▸ z1
    · exact fun e => z4 y a z e.symm
  exact ⟨m, nm.sameBut sb ne, fun h3 sb3 => ⟨_, H', J2.turned (t' := s2.toks) (fun c o hb e => (sb3.2 c hb).trans e) z0 z1 z3 z4 z5, q⟩⟩
end
end DC
namespace DL
open PySem L2
section
variable {X : Cx} {W : WX}
theorem tLc2_of {fi fi1 : IX} {t tt1 : TX} {p p1 : BX} {f : EX} {vs ws ix ix1 : List Nat} {σ : St} {H : Hp} {Q : VK} (hix : ∀ i ∈ ix, i ∈ vs) (hix1 : ∀ i ∈ ix1, i ∈ ws) (h : tD X W (xLc2 fi vs t p fi1 ws tt1 p1 f) σ H Q) : tLc2 (iD X W fi) (gD X ix t) (tDT X W0 p) (iD X W0 fi1) (gD X ix1 tt1) (tDT X W0 p1) (tD X W0 f) vs ws σ H Q := by
  obtain ⟨α, C, ρ, c, r, h⟩ := h
  refine ⟨α, C, ρ, c, r, (WpO.bnd c h).mono fun α1 H1 C1 s e1 c1 h1 J G Y dw D hD => ?_⟩
  obtain ⟨ds, C2, hcomp, h2⟩ := wpNbok h1
  refine lp_any (S := fun α H C a => ∃ acc, LcSt X.K α1 H1 D α H C acc a) c1 ((r.ext c e1).wipe _) hix dw lcS (lcG c1) ⟨[], LcSt.start c1 hD⟩ hcomp (fun σ2 α H C ρ1 a a' C' N st r1 run fin => ?_) fun α3 H3 ⟨acc, l⟩ => ?_
  · exact lp_in (S := fun α H C a => ∃ acc, LcSt X.K α1 H1 D α H C acc a) hix1 lcS (lcG c1) (te_lst c1 hD) st r1 run fin
  · by_cases hl : ds.length ≤ sizeLine
    · rw [if_pos hl] at h2
      obtain ⟨e3, c3, v3⟩ := l.done (by rw [l.rs.length]; exact hl)
      exact h2 _ H3 e3 c3 (.ref D) v3
    · rw [if_neg hl] at h2; exact h2.elim
theorem ds_setLc2 {i : Nat} {y : Str} {py : Pos} {elt t0 i0 t1 i1 : Expr} {f0 f1 : List Expr} {scope : Scope} {pos spos : Pos} {fi fi1 : IX} {t tt1 : TX} {p p1 : BX} {f : EX} (own : List (Str × Nat)) {ix ix1 : List Nat} (ws : List Nat) (hc : X.calm = true) (hN : X.N.Nodup) (hi : DI X W t0 i0 fi)
    (hg : Blk X scope fun Y => DG Y t0 ix t) (ht : Blk X scope fun Y => DTs Y W0 f0 p) (hi1 : Blk X scope fun Y => DI Y W0 t1 i1 fi1) (hg1 : Blk X scope fun Y => DG Y t1 ix1 tt1) (ht1 : Blk X scope fun Y => DTs Y W0 f1 p1) (he : Blk X scope fun Y => DE Y W0 elt f) (hy : X.N[i]? = some y := by rfl) (hyl : X.env.scope.names.lookup y = some .local := by rfl)
    (hsw : swapsWith (.ListComp elt [⟨t0, i0, f0, 0⟩, ⟨t1, i1, f1, 0⟩] scope pos) (some (.Name y py)) spos.line X.env = pure true := by exact sw_true rfl rfl rfl (by decide +kernel)) (ok : blkC X.N X.env.scope scope own = true := by decide +kernel) (hix : ∀ i ∈ ix, i ∈ own.map (·.2) := by decide) (hix1 : ∀ i ∈ ix1, i ∈ ws := by decide) (hws : ∀ i ∈ ws, i ∈ own.map (·.2) := by decide)
    (hs : ∀ x, foldedSetIterable i0 X.env x = pure x := by intro _; rfl) (hs1 : ∀ env x, foldedSetIterable i1 env x = pure x := by intro _ _; rfl) : DS X W (.Assign [.Name y py] (.ListComp elt [⟨t0, i0, f0, 0⟩, ⟨t1, i1, f1, 0⟩] scope pos) spos) (sSet i (xLc2 fi (own.map (·.2)) t p fi1 ws tt1 p1 f)) :=
  psImp (ps_setLc2 (g := gD X ix t) (tt := tDT X W0 p) (wi1 := iD X W0 fi1) (g1 := gD X ix1 tt1) (tt1 := tDT X W0 p1) (te := tD X W0 f) hc hN hy hyl hsw hi (blkOk_by ok) hws hg ht hi1 hg1 ht1 he hs hs1) fun E σ H ⟨α, C, ρ, c, r, h⟩ =>
    tLc2_of hix hix1 ⟨α, C, ρ, c, r, (WpS.sE c r h).mono fun α1 H1 C1 x e1 c1 h1 v rv => h1.nx c1 ((r.ext c e1).set rv)⟩
theorem tDc2_of {fi fi1 : IX} {t tt1 : TX} {p p1 : BX} {f g : EX} {vs ws ix ix1 : List Nat} {σ : St} {H : Hp} {Q : VK} (hix : ∀ i ∈ ix, i ∈ vs) (hix1 : ∀ i ∈ ix1, i ∈ ws) (h : tD X W (xDc2 fi vs t p fi1 ws tt1 p1 f g) σ H Q) : DC.tDc2 (iD X W fi) (gD X ix t) (tDT X W0 p) (iD X W0 fi1) (gD X ix1 tt1) (tDT X W0 p1) (tD X W0 f) (tD X W0 g) vs ws σ H Q := by
  obtain ⟨α, C, ρ, c, r, h⟩ := h
  refine ⟨α, C, ρ, c, r, (WpO.bnd c h).mono fun α1 H1 C1 s e1 c1 h1 J G Y dw D hD => ?_⟩
  obtain ⟨ds, C2, hcomp, h2⟩ := wpNbok h1
  refine lp_any (S := fun α H C a => ∃ acc, LdSt X.K α1 H1 D α H C acc a) c1 ((r.ext c e1).wipe _) hix dw ldS ldG ⟨[], LdSt.start c1 hD⟩ hcomp (fun σ2 α H C ρ1 a a' C' N st r1 run fin => ?_) fun α3 H3 ⟨acc, l⟩ => ?_
  · exact lp_in (S := fun α H C a => ∃ acc, LdSt X.K α1 H1 D α H C acc a) hix1 ldS ldG (te_dct c1 hD) st r1 run fin
  · obtain ⟨e3, c3, v3⟩ := l.done
    exact h2 _ H3 e3 c3 (.ref D) v3
theorem ds_setDc2 {i : Nat} {y : Str} {py : Pos} {kx vx t0 i0 t1 i1 : Expr} {f0 f1 : List Expr} {scope : Scope} {pos spos : Pos} {fi fi1 : IX} {t tt1 : TX} {p p1 : BX} {f g : EX} (own : List (Str × Nat)) {ix ix1 : List Nat} (ws : List Nat) (hc : X.calm = true) (hu : X.A.units + 64 < cLine) (hN : X.N.Nodup) (hi : DI X W t0 i0 fi)
    (hg : Blk X scope fun Y => DG Y t0 ix t) (ht : Blk X scope fun Y => DTs Y W0 f0 p) (hi1 : Blk X scope fun Y => DI Y W0 t1 i1 fi1) (hg1 : Blk X scope fun Y => DG Y t1 ix1 tt1) (ht1 : Blk X scope fun Y => DTs Y W0 f1 p1) (hk : Blk X scope fun Y => DE Y W0 kx f) (he : Blk X scope fun Y => DE Y W0 vx g) (hy : X.N[i]? = some y := by rfl) (hyl : X.env.scope.names.lookup y = some .local := by rfl)
    (hsw : swapsWith (.DictComp kx vx [⟨t0, i0, f0, 0⟩, ⟨t1, i1, f1, 0⟩] scope pos) (some (.Name y py)) spos.line X.env = pure true := by exact DC.sw_dict rfl rfl rfl (by decide +kernel)) (ok : blkC X.N X.env.scope scope own = true := by decide +kernel) (hix : ∀ i ∈ ix, i ∈ own.map (·.2) := by decide) (hix1 : ∀ i ∈ ix1, i ∈ ws := by decide) (hws : ∀ i ∈ ws, i ∈ own.map (·.2) := by decide)
    (hs : ∀ x, foldedSetIterable i0 X.env x = pure x := by intro _; rfl) (hs1 : ∀ env x, foldedSetIterable i1 env x = pure x := by intro _ _; rfl) : DS X W (.Assign [.Name y py] (.DictComp kx vx [⟨t0, i0, f0, 0⟩, ⟨t1, i1, f1, 0⟩] scope pos) spos) (sSet i (xDc2 fi (own.map (·.2)) t p fi1 ws tt1 p1 f g)) :=
  psImp (DC.ps_setDc2 (g := gD X ix t) (tt := tDT X W0 p) (wi1 := iD X W0 fi1) (g1 := gD X ix1 tt1) (tt1 := tDT X W0 p1) (tk := tD X W0 f) (tv := tD X W0 g) hc (by omega) hN hy hyl hsw hi (blkOk_by ok) hws hg ht hi1 hg1 ht1 hk he hs hs1) fun E σ H ⟨α, C, ρ, c, r, h⟩ =>
    tDc2_of hix hix1 ⟨α, C, ρ, c, r, (WpS.sE c r h).mono fun α1 H1 C1 x e1 c1 h1 v rv => h1.nx c1 ((r.ext c e1).set rv)⟩
end
end DL

/-! DL19: own errors without arguments: raised, caught by clauses. -/
namespace DL
open PySem L2
open PyProof.Rows hiding St

/-- an own class of errors, made without arguments -/
def Ow (K : PySem.W.Frag) (mg : Str → Option Value) (x : Str) : Prop := ∃ C : Addr, mg x = some (.ref C) ∧
  PySem.W.excIn K C [.type "ValueError", .type "Exception", .type "BaseException", .type "object"] "ValueError.__new__" = true ∧ PySem.W.keepIn K (.ref C) = true ∧
  PySem.W.subIn K (.ref C) (.type "BaseException") = some true ∧ PySem.W.typeIn K (.ref C) = some (.type "type")
/-- an error of the class c at a clause that names x -/
def Ct (K : PySem.W.Frag) (mg : Str → Option Value) (c x : Str) (b : Bool) : Prop := ∃ u v : Value, mg c = some u ∧ mg x = some v ∧ PySem.W.exmOne K u v = some b

section
variable {X : Cx}
/-- X() -/
theorem pmk_own0 {C : Addr} {bmB : List Value} {B newId initId : String} {x : Str} {p pos : Pos} (F : ExcBaseFacts B newId initId bmB) (q : PySem.W.excIn X.K C bmB newId = true) (gC : X.mg x = some (.ref C)) (kC : PySem.W.keepIn X.K (.ref C) = true) (r : Raises X (.ref C)) (hg : Gl X x)
    (hdb : (x == ("__debug__" : Str)) = false := by decide) : PMk X (.Call (.Name x p) [] [] pos) (fun _ H Q => Q (.ref C) none H) := by
  intro pins s σ H Q I h
  refine wpAny_Call_Name_kw (ld_glob I hg gC ?_ hdb)
  refine PySem.W.callWith_K0 I.kIn kC ?_
  show wpAny _ _ (call (.ref C) []) _ _ _
  obtain ⟨bm, N, nm, qn, bs, hdct, sn, sub, ab, col, dd, k0, k1, k2, k3, k5, mN, hC, hN, hni, T⟩ := exc_obj I.kIn q
  refine wpAny_call_exc_subT F T hC hN hni (fun h' e hm => ?_) (by show 0 ≤ sizeLine; omega)
  exact mk_of I hm r h (I.hok.gone hm.new)
def sRaise (x : Str) : SX := fun ρ C => .err ⟨x, []⟩ ρ C
theorem ds_raise {W : WX} {x : Str} {p pos pos' : Pos} (hc : X.calm = true) (tk : Takes X W) (o : Ow X.K X.mg x) (hg : Gl X x := by rfl) (hdb : (x == ("__debug__" : Str)) = false := by decide) : DS X W (.Raise (some (.Call (.Name x p) [] [] pos)) none pos') (sRaise x) := by
  obtain ⟨C, gC, q, kC, sC, tC⟩ := o
  refine psImp (ps_raise hc tk (pmk_own0 PySem.F.excBase_ValueError q gC kC (raises_own sC tC) hg hdb)) fun E σ H ⟨α, C', ρ, c, r, h⟩ => ?_
  exact h (.ref C) none α H σ (Ext.refl α H) c r ⟨.inl gC, .inl ⟨rfl, rfl⟩⟩

/-- a clause: which own errors it takes, which it does not, its suite -/
structure Cl where
  yes : List Str
  no : List Str
  s : SX
/-- a suite that raises nothing -/
def calmS (s : SX) : SX := fun ρ C => match s ρ C with
  | .ok f ρ' C' => .ok f ρ' C'
  | _ => .bad
def sClauses (er : Er) : List Cl → SX
  | [] => fun ρ C => .err er ρ C
  | h :: r => fun ρ C => if er.c ∈ h.yes then calmS h.s ρ C else if er.c ∈ h.no then sClauses er r ρ C else .bad
def sTry (b : SX) (hs : List Cl) : SX := fun ρ C => match b ρ C with
  | .err er ρ' C' => sClauses er hs ρ' C'
  | o => o
/-- the clauses as they are written -/
inductive DHs (X : Cx) : List ExceptHandler → List Cl → Prop
  | nil : DHs X [] []
  | cons {x : Str} {yes no : List Str} {b₀ : Stmt} {suite : List Stmt} {s : SX} {np pos' : Pos} {hds : List ExceptHandler} {l : List Cl} (hg : Gl X x) (hdb : (x == ("__debug__" : Str)) = false) (hm : ∃ v, X.mg x = some v)
      (hy : ∀ c ∈ yes, Ct X.K X.mg c x true) (hn : ∀ c ∈ no, Ct X.K X.mg c x false)
      (hs : ∀ (a : Addr) (oe : Obj) (pn : List (Addr × Obj)), DSs (X.suite a ((a, oe) :: pn)) W0 (b₀ :: suite) s) (r : DHs X hds l) :
      DHs X (.ExceptHandler (some (.Name x np)) none (b₀ :: suite) pos' :: hds) (⟨yes, no, s⟩ :: l)
theorem DHs.many' {W : WX} {hds : List ExceptHandler} {l : List Cl} (h : DHs X hds l) : ∃ L : List (Value × (Addr → Value → Option Addr → TS)), HdsOk X hds L ∧
    ∀ (D : Ends) (er : Er) (α : Al) (H : Hp) (C : Cells) (σ : L2.St) (ρ : Ro) (cls : Value) (d : Option Addr), CR X.K α H C → SR X.K α σ H ρ → ErrR X.K X.mg α H er cls d → WpS X W α H D (sClauses er l ρ C) → wMany X.K W D L cls d σ H := by
  induction h with
  | nil => exact ⟨[], .nil, fun D er α H C σ ρ cls d c r q h => h cls d α H σ (Ext.refl α H) c r q⟩
  | @cons x yes no b₀ suite s np pos' hds l hg hdb hm hy hn hs rest ih =>
    obtain ⟨v, hv⟩ := hm
    obtain ⟨L, hL, hw⟩ := ih
    refine ⟨(v, fun _ _ _ => tDS X W0 s) :: L, .cons ⟨hg, hdb, .inl hv⟩ (fun a oe cls d pn _ _ => hs a oe pn) hL, fun D er α H C σ ρ cls d c r q h => ?_⟩
    have key : ∀ b, Ct X.K X.mg er.c x b → PySem.W.exmOne X.K cls v = some b := fun b ⟨u, v', e1, e2, e3⟩ => by
      rw [hv] at e2; cases e2
      rcases q.1 with z | ⟨z, _⟩
      · rw [e1] at z; cases z; exact e3
      · rw [e1] at z; cases z
    unfold sClauses at h
    by_cases h1 : er.c ∈ yes
    · simp only [if_pos h1] at h
      refine ⟨true, key _ (hy _ h1), fun _ a na => ?_, fun z => by cases z⟩
      refine ⟨α, C, ρ, c, r, ?_⟩
      show WpS (X := X) W0 α H D (s ρ C)
      unfold calmS at h
      cases hh : s ρ C with
      | ok f ρ1 C1 => simp only [hh] at h; exact h
      | err er1 ρ1 C1 => simp only [hh] at h; exact h.elim
      | bad => simp only [hh] at h; exact h
    · by_cases h2 : er.c ∈ no
      · simp only [if_neg h1, if_pos h2] at h
        exact ⟨false, key _ (hn _ h2), fun z => (by cases z), fun _ => hw D er α H C σ ρ cls d c r q h⟩
      · simp only [if_neg h1, if_neg h2] at h
        exact h.elim
/-- try: body, except x: .., except y: .. -/
theorem ds_try {W : WX} {body : List Stmt} {h₀ : ExceptHandler} {hds : List ExceptHandler} {l : List Cl} {b : SX} {pos : Pos} (hs : X.stack = X.env :: X.outer) (hf : X.env.frame = some X.env.locals) (tk : Takes X W)
    (hb : ∀ (W' : WX) (pn : List (Addr × Obj)) (xe : Value → Shared → Prop), Takes (X.tr pn xe) W' → PassesOwn (model X.prog X.w) X.A X.env xe → DSs (X.tr pn xe) W' body b) (hh : DHs X (h₀ :: hds) l) :
    DS X W (.Try body (h₀ :: hds) [] [] pos) (sTry b l) := by
  have e : ∃ L : List (Value × (Addr → Value → Option Addr → TS)), HdsOk X (h₀ :: hds) L ∧ ∀ D, ∀ (er : Er) (α : Al) (H : Hp) (C : Cells) (σ : L2.St) (ρ : Ro) (cls : Value) (d : Option Addr), CR X.K α H C → SR X.K α σ H ρ → ErrR X.K X.mg α H er cls d → WpS X W α H D (sClauses er l ρ C) → wMany X.K W D L cls d σ H := by
    exact DHs.many' hh
  obtain ⟨L, hL, hw⟩ := e
  refine psImp (ps_try_many (Wout := W) (tb := fun W' => tDS X W' b) hs hf tk (fun W' pn xe tk' po => hb W' pn xe tk' po) hL) fun D σ H ⟨α, C, ρ, c, r, h⟩ => ?_
  refine ⟨α, C, ρ, c, r, ?_⟩
  unfold sTry at h
  cases hb1 : b ρ C with
  | ok f ρ1 C1 => simp only [hb1] at h; exact h
  | bad => simp only [hb1] at h; exact h
  | err er ρ1 C1 =>
    simp only [hb1] at h
    exact fun cls d α1 H1 σ1 e1 c1 r1 q => hw D er α1 H1 C1 σ1 ρ1 cls d c1 r1 q (WpS.start c c1 e1 h)
end
theorem exm_pair {K : PySem.W.Frag} {S V : Addr} {b : Bool} (h1 : PySem.W.subIn K (.ref V) (.type "BaseException") = some true) (h2 : PySem.W.isClsIn K V = true) (h3 : PySem.W.typeIn K (.ref V) = some (.type "type")) (h4 : PySem.W.subIn K (.ref S) (.ref V) = some b) :
    PySem.W.exmOne K (.ref S) (.ref V) = some b := by
  have e1 : (PySem.W.subIn K (.ref V) (.type "BaseException") == some true) = true := by rw [h1] <;> rfl
  have e2 : ((PySem.W.clsIn K V).isSome && PySem.W.typeIn K (.ref V) == some (.type "type")) = true := by
    have h2' : (PySem.W.clsIn K V).isSome = true := h2
    rw [h2', h3] <;> rfl
  show (if (PySem.W.subIn K (.ref V) (.type "BaseException") == some true) = true then (if ((PySem.W.clsIn K V).isSome && PySem.W.typeIn K (.ref V) == some (.type "type")) = true then PySem.W.subIn K (.ref S) (.ref V) else none) else none) = some b
  rw [if_pos e1, if_pos e2]
  exact h4
theorem allN {β : Type} {p : β → Prop} : ∀ c ∈ ([] : List β), p c := fun _ h => nomatch h
theorem allC {β : Type} {p : β → Prop} {a : β} {l : List β} (h : p a) (t : ∀ c ∈ l, p c) : ∀ c ∈ a :: l, p c := fun c hc => by
  rcases List.mem_cons.mp hc with z | z
  · rw [z]; exact h
  · exact t c z
end DL

/-! DL20: defs as values, *e, max of a tuple. -/
namespace DL
open PySem L2
/-- x is a def of the module -/
def FnV (K : PySem.W.Frag) (mg : Str → Option Value) (x : Str) : Prop := ∃ g : Addr, mg x = some (.ref g) ∧ PySem.W.nsIn K mainGlobals x = some (some (.ref g))
section
variable {X : Cx} {W : WX} {σ : L2.St} {H : Hp} {Q : VK} {e : Expr} {es : List Expr} {f : EX} {fa : AX} {pos p : Pos}
/-! ### a def by its name as a value -/
theorem de_fn {x : Str} (hx : FnV X.K X.mg x) (hg : Gl X x := by rfl) (hd : (x == ("__debug__" : Str)) = false := by decide) : DE X W (.Name x pos) (xC (.fn x)) := by
  obtain ⟨g, hm, hk⟩ := hx
  exact peImp (pe_glob (v := .ref g) hg hm rfl hd) fun σ H Q h => tD_C h fun _ _ => .fn hk
/-- a def of the module: where it stands, what it does -/
structure Fv (P : Program) (w : World) (K : PySem.W.Frag) (mg : Str → Option Value) (base : Heap) (k : Nat) (x : Str) (n : Nat) (g : List D → Mo D) : Prop where
  ex : ∃ f fd ps, FnOk P w K mg base (L2.CX P w) k f fd ps (spD K mg n g) ∧ PySem.W.keepIn K (.ref f) = true ∧ Binds K fd ps [] ∧ PySem.W.nsIn K mainGlobals x = some (some (.ref f))
theorem Fv.of {P : Program} {w : World} {K : PySem.W.Frag} {mg : Str → Option Value} {base : Heap} {k j n : Nat} {x : Str} {st : Stmt} {ps : List Str} {g : List D → Mo D} (c : Cal P w K mg base x st ps k n g) (h : FnV K mg x) (hj : k ≤ j := by decide) : Fv P w K mg base j x n g := by
  obtain ⟨f, fd, F, d⟩ := c.ex
  obtain ⟨f', h1, h2⟩ := h
  rw [d.2.1] at h1
  cases h1
  exact ⟨f, fd, ps, F.mono hj, d.1.kp, d.2.2, h2⟩
def tblOf : List (Str × (List D → Mo D)) → Str → Option (List D → Mo D)
  | [], _ => none
  | (x, g) :: r, y => if y = x then some g else tblOf r y
theorem fv_nil {P : Program} {w : World} {K : PySem.W.Frag} {mg : Str → Option Value} {base : Heap} {k n : Nat} : ∀ y g, tblOf [] y = some g → Fv P w K mg base k y n g := fun _ _ h => nomatch h
theorem fv_cons {P : Program} {w : World} {K : PySem.W.Frag} {mg : Str → Option Value} {base : Heap} {k n : Nat} {x : Str} {m : List D → Mo D} {l : List (Str × (List D → Mo D))} (h : Fv P w K mg base k x n m) (t : ∀ y g, tblOf l y = some g → Fv P w K mg base k y n g) : ∀ y g, tblOf ((x, m) :: l) y = some g → Fv P w K mg base k y n g := fun y g q => by
  unfold tblOf at q
  split at q
  · rename_i e; cases q; rw [e]; exact h
  · exact t y g q
/-- a call of a local name that holds one of some defs -/
def xCallP (i n : Nat) (tbl : Str → Option (List D → Mo D)) (fa : AX) : EX := fun ρ => bnd (xV i ρ) fun y => match y with
  | .fn x => match tbl x with
    | some g => xCall n g fa ρ
    | none => bad
  | _ => bad
theorem tD_W0 {g : EX} (h : tD X W g σ H Q) {W' : WX} (hW : ∀ c d σ H, W c d σ H → W' c d σ H) : tD X W' g σ H Q := by
  obtain ⟨α, C, ρ, c, r, h⟩ := h
  refine ⟨α, C, ρ, c, r, ?_⟩
  match hg : g ρ C, h with
  | .ok (x, _), h => exact h
  | .err er _, h => exact fun cls d α2 H2 e2 c2 q => hW _ _ _ _ (h cls d α2 H2 e2 c2 q)
theorem de_callP {i n k : Nat} {x : Str} {tbl : Str → Option (List D → Mo D)} (A : ∀ y g, tbl y = some g → Fv X.prog X.w X.K X.mg X.base k y n g) (hr : Room k X.A) (tk : Tk X W) (ha : DA X W (e :: es) fa) (hN : X.N[i]? = some x := by rfl) (hv : Vis X.env.scope x := by first | exact Or.inl rfl | exact Or.inr (Or.inl rfl) | exact Or.inr (Or.inr rfl))
    (hdb : (x == ("__debug__" : Str)) = false := by decide) (hcd : (x == ("__classdict__" : Str)) = false := by decide)
    (he : starEach (e :: es) X.env = (false, eval e X.env) :: starEach es X.env := by rfl) (hpl : (backTo pos (starEach es X.env)).any (·.1) = false := by rfl) : DE X W (.Call (.Name x p) (e :: es) [] pos) (xCallP i n tbl fa) := by
  refine ⟨fun pins s σ H Q I h => ?_⟩
  obtain ⟨α, C, ρ, c, r, h⟩ := h
  unfold xCallP at h
  obtain ⟨y, hy, h⟩ := (WpO.bnd c h).lft
  have h := h α H (Ext.refl α H) c
  have e1 : ρ[i]? = some (some y) := by
    rw [List.getD_eq_getElem?_getD] at hy
    cases h1 : ρ[i]? with
    | none => rw [h1] at hy; cases hy
    | some z => rw [h1] at hy; rw [show z = some y from hy]
  obtain ⟨v, hv1, hv2⟩ := r.at_ i y e1
  cases hv2 with
  | @fn z g hns =>
    simp only at h
    cases ht : tbl z with
    | none => simp only [ht] at h; exact h.elim
    | some m =>
      simp only [ht] at h
      obtain ⟨f', fd, ps, F, hk, hb, hns'⟩ := (A z m ht).ex
      rw [hns] at hns'
      cases hns'
      refine wpAny_Call_Name_kw (thn ((pe_var (pos := p) hN hv hdb hcd).run pins s σ H (fun v H1 => v = .ref g ∧ H1 = H) I ⟨.ref g, hv1, rfl, rfl⟩) fun u s1 ⟨v, H1, I1, r1, q1⟩ => ?_)
      obtain ⟨rfl, rfl⟩ := q1
      cases r1
      have hc : tD X W (xCall n m fa) σ H1 Q := ⟨α, C, ρ, c, r, h⟩
      refine PySem.W.callWith_K (h₀ := X.base) I1.ok.mod.kin hk (thn (ha.run pos pins s1 σ H1 _ I1 (tD_call hc)) fun us s2 ⟨vs, H2, I2, rv, q⟩ => ⟨I2.kIn, ?_⟩) he hpl
      exact run_fnS (E := WE W) F hr hb (tk σ) I2 rv q
  | _ => exact h.elim

/-! ### *e among items -/
def itemsD (C : Cells) (x : D) : Option (List D) := match look C x with
  | .tup ds => some ds
  | .lst ds => some ds
  | _ => none
def aStar (f : EX) (g : AX) : AX := fun ρ => bnd (f ρ) fun x => bnd (lft fun C => itemsD C x) fun xs => bnd (g ρ) fun ys => ret (xs ++ ys)
theorem VR.items {K : PySem.W.Frag} {α : Al} {H : Hp} {C : Cells} {v : V} {d : D} {ds : List D} (c : CR K α H C) (r : VR K α H v d) (h : itemsD C d = some ds) : ∃ a xs, v = .ref a ∧ (SqT K H a xs ∨ SqL K H a xs) ∧ VRs K α H xs ds := by
  unfold itemsD at h
  cases hl : look C d with
  | tup es =>
    rw [hl] at h; cases h
    obtain ⟨a, xs, e, ha, _, ra⟩ := r.asT c hl
    exact ⟨a, xs, e, .inl (SqT.of ha), ra⟩
  | lst es =>
    rw [hl] at h; cases h
    obtain ⟨a, xs, e, ha, _, ra⟩ := r.asL c hl
    exact ⟨a, xs, e, .inr (SqL.of ha), ra⟩
  | _ => rw [hl] at h; cases h
theorem da_star (ha : DE X W e f) (hr : DA X W es fa) (hs : starEach (.Starred e p :: es) X.env = (true, eval e X.env) :: starEach es X.env := by rfl) : DA X W (.Starred e p :: es) (aStar f fa) := paImp (StX.pa_star ha hr hs) fun σ H Q h => by
  obtain ⟨α, C, ρ, c, r, h⟩ := h
  refine ⟨α, C, ρ, c, r, (WpO.bnd c h).mono fun α1 H1 C1 x e1 c1 h1 v rv => ?_⟩
  obtain ⟨ds, hd, q⟩ := (WpO.bnd c1 h1).lft
  have q := q α1 H1 (Ext.refl _ _) c1
  obtain ⟨a, xs, rfl, hx, rx⟩ := rv.items c1 hd
  refine ⟨a, xs, rfl, hx, α1, C1, ρ, c1, r.ext c e1, (WpO.bnd c1 q).mono fun α2 H2 C2 ys e2 c2 h2 vs rvs => ?_⟩
  exact WpO.ret c2 h2 _ ((rx.ext c1 e2).append rvs)
end

/-- so many at most -/
def aCap (f : AX) : AX := fun ρ => bnd (f ρ) fun xs => if xs.length ≤ 1000 then ret xs else bad
theorem da_cap {X : Cx} {W : WX} {es : List Expr} {fa : AX} (h : DA X W es fa) : DA X W es (aCap fa) := paImp h fun σ H Q h => by
  obtain ⟨α, C, ρ, c, r, h⟩ := h
  refine ⟨α, C, ρ, c, r, (WpO.bnd c h).mono fun α1 H1 C1 x e1 c1 h1 v rv => ?_⟩
  split at h1
  · exact WpO.ret c1 h1 v rv
  · exact h1.elim
theorem cap_len {fa : AX} : ∀ ρ C xs C', aCap fa ρ C = .ok (xs, C') → xs.length ≤ sizeLine := fun ρ C xs C' h => by
  unfold aCap bnd at h
  split at h
  · dsimp only at h
    split at h
    · rename_i q
      cases h
      exact Nat.le_trans q (by decide)
    · cases h
  · cases h
  · cases h
theorem de_tupB {X : Cx} {W : WX} {es : List Expr} {fa : AX} {pos : Pos} {x1 : Nat} (h : DA X W es fa) : DE X W (.Tuple es x1 pos) (xTup (aCap fa)) := de_tup (da_cap h) cap_len
theorem de_lstB {X : Cx} {W : WX} {es : List Expr} {fa : AX} {pos : Pos} (h : DA X W es fa) : DE X W (.List es pos) (xLst (aCap fa)) := de_lst (da_cap h) cap_len
theorem de_cellB {X : Cx} {W : WX} {es : List Expr} {fa : AX} {pos : Pos} (h : DA X W es fa) : DE X W (.List es pos) (xCell (aCap fa)) := de_cell (da_cap h) cap_len

/-! ### max of a tuple of numbers -/
theorem holdAll_ints {h : Heap} : ∀ {ns : List Int} {its : List Value}, Vals (ns.map V.int) its → PySem.W.HoldAll h its ns
  | [], _, r => by cases r; exact ⟨[], .nil⟩
  | n :: ns, _, r => by
    cases r with
    | cons hv ht =>
      obtain ⟨t, rfl⟩ := hv
      obtain ⟨as, q⟩ := holdAll_ints ht
      exact ⟨[] ++ as, .cons (.int n t) q⟩
theorem max_foldl (n : Int) (ns : List Int) : (n :: ns).max? = some (PySem.W.maxOf n ns) := by
  rw [List.max?_cons']
  congr 1
  unfold PySem.W.maxOf
  congr 1
  funext a y
  by_cases h : a < y
  · rw [if_pos (by show decide (a < y) = true; simpa using h)]; omega
  · rw [if_neg (by show ¬ decide (a < y) = true; simpa using h)]; omega
def oMaxT : OpN := fun C xs => match xs with
  | [x] => match look C x with
    | .tup ds => (intsO ds).bind fun ns => ns.max?.map .int
    | _ => none
  | _ => none
theorem c_maxT {X : Cx} (hc : X.calm = true) (hu : X.A.units + 64 < cLine) : CallR X (.builtin "max") (rDN X.K oMaxT) := by
  intro pins s σ H vs us Q I r h
  obtain ⟨α, C, ds, dz, c, rr, h, ans⟩ := h
  unfold oMaxT at h
  split at h
  · rename_i x
    obtain ⟨v, rfl, rv⟩ := vrs1 rr
    cases hl : look C x with
    | tup es =>
      rw [hl] at h
      obtain ⟨ns, h1, h2⟩ := Option.bind_eq_some_iff.mp h
      obtain ⟨m, h3, h4⟩ := Option.map_eq_some_iff.mp h2
      subst h4
      obtain ⟨a, xs, rfl, ha, z, ra⟩ := rv.asT c hl
      rw [intsO_eq h1] at ra
      have ex := vrs_ints ra
      subst ex
      obtain ⟨its, rv', hT, _⟩ := I.tuple (SqT.of ha)
      rw [Vals.ref1 r]
      cases ns with
      | nil => cases h3
      | cons n ns =>
        rw [max_foldl] at h3
        cases h3
        refine PySem.W.max_tuple_datum (x := n) (xs := ns) (I.ok.hd hc) hT (by simpa using holdAll_ints rv') (by show X.A.units + 1 + 0 < cLine; omega) fun i u h' tk hi hh hk => ?_
        obtain ⟨as, hh⟩ := hh
        cases hh with
        | int _ t => exact ⟨.int _, H, I.kept hk, ⟨_, rfl⟩, ans.here c (.int _)⟩
    | _ => rw [hl] at h; cases h
  · cases h
end DL

/-! DL21: comprehensions of any number of clauses. -/
namespace GC
open PySem PySem.Spec PyProof.Rows L2
/-- a clause as written; as read (ws: what it and those behind it set) -/
structure Cy where
  t : Expr
  i : Expr
  fs : List Expr
structure Cr where
  wi : TI
  g : TG
  tt : TT
  ws : List Nat
abbrev Cy.c (c : Cy) : Comprehension := ⟨c.t, c.i, c.fs, 0⟩
/-- a turn of a clause behind which another comes -/
def TurnIn (e : Expr) (d : Nat) (c c1 : Cy) : Prop := ∀ (it acc : Value) (env : Env), compTurn e d it acc env = (do
      standAt c.i.pos
      match ← pyNext it with
      | none => pure (.done .next)
      | some v =>
        letOwnedTupleGo c.t it v
        assign c.t env v
        let mut ok := true
        for f in c.fs do
          if ok then ok ← isTrue f env (eval f env)
        if ok then
          let x ← eval c1.i env
          standAt c1.i.pos
          let x ← foldedSetIterable c1.i env x
          let j ← holding [x] (pyIter x)
          let _ ← runOwn (.compStart e (d + 1) j acc env) env
        again (.compLoop e d it acc env))
/-- of the last one -/
def TurnLast (e : Expr) (d : Nat) (c : Cy) (em : Value → Env → Sem Unit) : Prop := ∀ (it : Value) (a : Addr) (env : Env), compTurn e d it (.ref a) env = (do
      standAt c.i.pos
      match ← pyNext it with
      | none => pure (.done .next)
      | some v =>
        letOwnedTupleGo c.t it v
        assign c.t env v
        let mut ok := true
        for f in c.fs do
          if ok then ok ← isTrue f env (eval f env)
        if ok then em (.ref a) env
        again (.compLoop e d it (.ref a) env))
/-- how such a comprehension's code is run -/
structure Fm (e : Expr) : Prop where
  l : ∀ (G : Program) (ww : World) (d : Nat) (it acc : Value) (env : Env), (model G ww).den (.compLoop e d it acc env) = (compTurn e d it acc env).onRaise (fun e => do noteFrame e env; theTreesLotGoes e)
  s : ∀ (G : Program) (ww : World) (d : Nat) (it acc : Value) (env : Env), (model G ww).den (.compStart e d it acc env) = (compStart e d it acc env).onRaise (fun e => do noteFrame e env; standAt theWindowsPlace)
  ul : ∀ (B : Around) (d : Nat) (it acc : Value) (env : Env), B.under (.compLoop e d it acc env) = B
  us : ∀ (B : Around) (d : Nat) (it acc : Value) (env : Env), B.under (.compStart e d it acc env) = B
theorem fm_list {elt : Expr} {gs : List Comprehension} {sc : Scope} {p : Pos} : Fm (.ListComp elt gs sc p) := ⟨fun _ _ _ _ _ _ => rfl, fun _ _ _ _ _ _ => rfl, fun _ _ _ _ _ => rfl, fun _ _ _ _ _ => rfl⟩
theorem fm_dict {kx vx : Expr} {gs : List Comprehension} {sc : Scope} {p : Pos} : Fm (.DictComp kx vx gs sc p) := ⟨fun _ _ _ _ _ _ => rfl, fun _ _ _ _ _ _ => rfl, fun _ _ _ _ _ => rfl, fun _ _ _ _ _ => rfl⟩
section
variable {G : Program} {ww : World} {B : Around} {R : Result → Shared → Prop} {s : Shared} {e : Expr} {d : Nat} {c c1 : Cy} {it acc : Value} {D : Addr} {env : Env} {em : Value → Env → Sem Unit}
theorem loopIn (fm : Fm e) (ht : TurnIn e d c c1) (hs : ∀ x, foldedSetIterable c1.i env x = pure x) (I : Nat → Shared → Prop)
    (go : ∀ n s, I n s → wpAny (model G ww) B (pyNext it) (fun r u1 => match r with
      | none => R (.ok .next) u1
      | some v => wpAny (model G ww) B (letOwnedTupleGo c.t it v) (fun _ u2 => wpAny (model G ww) B (assign c.t env v) (fun _ u3 =>
          wpAny (model G ww) B (DC.tsts c.fs env) (fun ok u4 => if ok = true then wpAny (model G ww) B (eval c1.i env) (fun x u5 => wpAny (model G ww) B (pyIter x) (fun j u6 =>
            codeAny (model G ww) B (.compStart e (d + 1) j acc env) (fun r s' => match r with
              | .ok _ => ∃ m, m < n ∧ I m s'
              | .error _ => False) u6) (DC.Nt G ww B env R) u5) (DC.Nt G ww B env R) u4
            else ∃ m, m < n ∧ I m u4) (DC.Nt G ww B env R) u3) (DC.Nt G ww B env R) u2) (DC.Nt G ww B env R) u1) (DC.Nt G ww B env R) s)
    (n : Nat) (h : I n s) : codeAny (model G ww) B (.compLoop e d it acc env) R s := by
  have same : ∀ (a : Value) (b : Shared), DC.Nt G ww B env R a b → DC.Nt G ww B env R a b := fun _ _ z => z
  refine codeAny_loop rfl I (fun n s hI => ?_) n h
  rw [fm.l, fm.ul]
  refine wpAny_noted ?_
  rw [ht it acc env]
  refine wpAny_bind (wpAny_standAt ?_)
  refine wpAny_bind (wpAny_mono (go n s hI) (fun r u1 g1 => ?_) same)
  cases r with
  | none => exact wpAny_pure g1
  | some v =>
    refine wpAny_bind (wpAny_mono g1 (fun _ u2 g2 => ?_) same)
    refine wpAny_bind (wpAny_mono g2 (fun _ u3 g3 => ?_) same)
    refine wpAny_bind (wpAny_mono g3 (fun ok u4 g4 => ?_) same)
    cases ok with
    | false => exact wpAny_pure ⟨rfl, g4⟩
    | true =>
      refine wpAny_bind (wpAny_mono g4 (fun x u5 g5 => ?_) same)
      refine wpAny_bind (wpAny_standAt ?_)
      refine wpAny_bind (wpAny_of_eq (hs x) ?_)
      refine wpAny_bind (wpAny_holding (wpAny_mono g5 (fun j u6 g6 => ?_) same))
      refine wpAny_bind (wpAny_runOwn ?_)
      rw [Around.mark_none]
      refine codeAny_mono g6 fun r s' hr => ?_
      cases r with
      | error e => exact hr.elim
      | ok f => first | exact wpAny_pure ⟨rfl, hr⟩ | exact wpAny_bind (wpAny_pure (wpAny_pure ⟨rfl, hr⟩))
theorem loopLast (fm : Fm e) (ht : TurnLast e d c em) (I : Nat → Shared → Prop)
    (go : ∀ n s, I n s → wpAny (model G ww) B (pyNext it) (fun r u1 => match r with
      | none => R (.ok .next) u1
      | some v => wpAny (model G ww) B (letOwnedTupleGo c.t it v) (fun _ u2 => wpAny (model G ww) B (assign c.t env v) (fun _ u3 =>
          wpAny (model G ww) B (DC.tsts c.fs env) (fun ok u4 => if ok = true then wpAny (model G ww) B (em (.ref D) env) (fun _ u5 => ∃ m, m < n ∧ I m u5) (DC.Nt G ww B env R) u4
            else ∃ m, m < n ∧ I m u4) (DC.Nt G ww B env R) u3) (DC.Nt G ww B env R) u2) (DC.Nt G ww B env R) u1) (DC.Nt G ww B env R) s)
    (n : Nat) (h : I n s) : codeAny (model G ww) B (.compLoop e d it (.ref D) env) R s := by
  have same : ∀ (a : Value) (b : Shared), DC.Nt G ww B env R a b → DC.Nt G ww B env R a b := fun _ _ z => z
  refine codeAny_loop rfl I (fun n s hI => ?_) n h
  rw [fm.l, fm.ul]
  refine wpAny_noted ?_
  rw [ht it D env]
  refine wpAny_bind (wpAny_standAt ?_)
  refine wpAny_bind (wpAny_mono (go n s hI) (fun r u1 g1 => ?_) same)
  cases r with
  | none => exact wpAny_pure g1
  | some v =>
    refine wpAny_bind (wpAny_mono g1 (fun _ u2 g2 => ?_) same)
    refine wpAny_bind (wpAny_mono g2 (fun _ u3 g3 => ?_) same)
    refine wpAny_bind (wpAny_mono g3 (fun ok u4 g4 => ?_) same)
    cases ok with
    | false => exact wpAny_pure ⟨rfl, g4⟩
    | true => exact wpAny_bind (wpAny_mono g4 (fun _ u5 g5 => wpAny_pure ⟨rfl, g5⟩) same)
theorem startG (fm : Fm e) (hcl : (clausesOf e)[d]? = some c.c) (g0 : codeAny (model G ww) B (.compLoop e d it acc env) R s)
    (g : wpAny (model G ww) B (pyIter it) (fun j s' => codeAny (model G ww) B (.compLoop e d j acc env) R s') (DC.Nt G ww B env R) s) :
    codeAny (model G ww) B (.compStart e d it acc env) R s := by
  refine codeAny_of_tree ?_
  rw [fm.s, fm.us]
  refine wpAny_notedAt ?_
  unfold compStart
  rw [hcl]
  show wpAny _ B (ask >>= _) _ _ s
  refine wpAny_bind (wpAny_askSetting (wpAny_ite ?_))
  split
  · first | exact wpAny_bind (wpAny_pure (wpAny_pure ⟨rfl, g0⟩)) | exact wpAny_pure ⟨rfl, g0⟩
  · refine wpAny_bind (wpAny_rule ?_)
    first
      | exact wpAny_bind (wpAny_standAt (wpAny_bind (wpAny_mono g (fun j s' g' => wpAny_pure ⟨rfl, g'⟩) fun _ _ z => z)))
      | (show wpAny _ _ (standAt c.i.pos >>= _) _ _ s; exact wpAny_bind (wpAny_standAt (wpAny_bind (wpAny_mono g (fun j s' g' => wpAny_pure ⟨rfl, g'⟩) fun _ _ z => z))))
end
end GC
namespace GC
open PySem PySem.Spec PyProof.Rows L2
/-- a walk by its turns, N at its end -/
def lpR (J : It) (g : TG) (tt : TT) (ws : List Nat) (body : L2.St → Hp → (Hp → Prop) → Prop) (ς : L2.St) (H1 : Hp) (N : Hp → Prop) : Prop := ∃ V : Nat → Nat → Hp → Prop, (∃ m, V 0 m H1) ∧ ∀ j k H, V j k H →
  (J.stop j H ∧ N H) ∨ (J.go j H ∧ ∃ N1 : Hp → Prop, (∀ H', N1 H' → ∃ k', k' < k ∧ V (j + 1) k' H') ∧ ∀ x H', J.yld j H x H' → g x (wipe ς ws) H' fun τ H5 => wipe τ ws = wipe ς ws ∧ tt τ H5 fun b H6 => if b = true then body τ H6 N1 else N1 H6)
def inn (em : L2.St → Hp → (Hp → Prop) → Prop) : List Cr → L2.St → Hp → (Hp → Prop) → Prop
  | [], ς, H, N => em ς H N
  | c :: r, ς, H, N => c.wi ς H fun J H1 => lpR J c.g c.tt c.ws (inn em r) ς H1 N
/-- the clauses' parts, read in a block -/
inductive Cls (Y : Cx) : List Cy → List Cr → Prop
  | nil : Cls Y [] []
  | cons {y : Cy} {c : Cr} {ys : List Cy} {cs : List Cr} (hi : PI Y y.t y.i c.wi) (hg : PG Y y.t c.g) (ht : PTs Y y.fs c.tt) (hf : ∀ env x, foldedSetIterable y.i env x = pure x) (sub : ∀ c' ∈ cs.head?, ∀ i ∈ c'.ws, i ∈ c.ws) (r : Cls Y ys cs) : Cls Y (y :: ys) (c :: cs)
/-- the clauses from the d-th on, as written -/
inductive Tl (e : Expr) (em : Value → Env → Sem Unit) : Nat → Cy → List Cy → Prop
  | last {d : Nat} {c : Cy} : (clausesOf e)[d]? = some c.c → TurnLast e d c em → Tl e em d c []
  | more {d : Nat} {c c1 : Cy} {ys : List Cy} : (clausesOf e)[d]? = some c.c → TurnIn e d c c1 → Tl e em (d + 1) c1 ys → Tl e em d c (c1 :: ys)
theorem Tl.cl {e : Expr} {em : Value → Env → Sem Unit} {d : Nat} {c : Cy} {ys : List Cy} (t : Tl e em d c ys) : (clausesOf e)[d]? = some c.c := by cases t <;> assumption
section
variable {X : Cx} {s0 : Shared} {H0 : Hp} {sc : Scope} {ce : Env} {fp0 : List Addr}
theorem loop_ok {e : Expr} {emS : Value → Env → Sem Unit} {em : L2.St → Hp → (Hp → Prop) → Prop} {D : Addr} (fm : Fm e) (hc : X.calm = true)
    (hem : ∀ (pins : List (Addr × Obj)) (s : Shared) (τ : L2.St) (H : Hp) (N : Hp → Prop), Inv (X.blk s0 H0 sc ce fp0) pins τ H s → em τ H N → wpAny (model X.prog X.w) X.A (emS (.ref D) ce) (fun _ s' => ∃ H', Inv (X.blk s0 H0 sc ce fp0) pins τ H' s' ∧ N H') (fun _ _ => False) s) :
    ∀ (ys : List Cy) (cs : List Cr) (d : Nat) (y : Cy) (g : TG) (tt : TT) (ws : List Nat), Cls (X.blk s0 H0 sc ce fp0) ys cs → Tl e emS d y ys → PG (X.blk s0 H0 sc ce fp0) y.t g → PTs (X.blk s0 H0 sc ce fp0) y.fs tt → (∀ c' ∈ cs.head?, ∀ i ∈ c'.ws, i ∈ ws) →
    ∀ (pins : List (Addr × Obj)) (s : Shared) (ς : L2.St) (H : Hp) (N : Hp → Prop) (it : Addr) (fp : List Addr) (tn : Nat → Heap → Prop) (J : It), Inv (X.blk s0 H0 sc ce fp0) pins (wipe ς ws) H s → Turn X.prog X.w X.K y.t J fp it tn → tn 0 s.heap →
      (∀ c ∈ fp, FpOk (X.blk s0 H0 sc ce fp0) pins H c) → lpR J g tt ws (inn em cs) ς H N →
      codeAny (model X.prog X.w) X.A (.compLoop e d (.ref it) (.ref D) ce) (fun r s' => r = .ok .next ∧ ∃ H', Inv (X.blk s0 H0 sc ce fp0) pins (wipe ς ws) H' s' ∧ N H') s := by
  intro ys
  induction ys with
  | nil =>
    intro cs d y g tt ws cls tl pg pt sub pins s ς H N it fp tn J I T t0 f0 lp
    cases cls
    obtain ⟨V, ⟨m0, v0⟩, turn⟩ := lp
    cases tl with
    | last hcl ht =>
    have fpk : ∀ {H' : Hp}, (∀ c ∈ fp, H' c = none) → ∀ c ∈ fp, FpOk (X.blk s0 H0 sc ce fp0) pins H' c := fun n c mc => ⟨n c mc, (f0 c mc).2⟩
    refine loopLast (D := D) fm ht (fun n s' => ∃ j H', Inv (X.blk s0 H0 sc ce fp0) pins (wipe ς ws) H' s' ∧ tn j s'.heap ∧ (∀ c ∈ fp, H' c = none) ∧ V j n H') ?_ m0 ⟨0, H, I, t0, fun c mc => (f0 c mc).1, v0⟩
    rintro n a5 ⟨j, H5, J5, st5, n5, w5⟩
    rcases turn j n H5 w5 with ⟨stop, nx⟩ | ⟨go, N1, hN1, step⟩
    · refine thnF (T.done (X.blk s0 H0 sc ce fp0) rfl rfl rfl hc j _ a5 _ H5 (fun _ _ => False) J5 (fpk n5) st5 stop) fun r a6 ⟨er, J6⟩ => ?_
      subst er
      exact ⟨rfl, H5, J6, nx⟩
    · refine thnF (T.item (X.blk s0 H0 sc ce fp0) rfl rfl rfl hc j _ a5 _ H5 (fun _ _ => False) J5 (fpk n5) st5 go) fun r a6 ⟨u, er, got⟩ => ?_
      subst er
      refine thnF got fun _ a7 ⟨x, H7, J7, r7, y7, st7, n7⟩ => ?_
      refine thnF (pg.run _ a7 _ H7 x u _ (J7.pinned (fpk n7) (T.obj _ _ st7)) r7 (step x H7 y7)) fun _ a8 ⟨τ, H8, J8, wτ, q8⟩ => ?_
      refine thnF (pt.run _ a8 τ H8 _ J8 q8) fun b a9 ⟨H9, J9, q9⟩ => ?_
      have close : ∀ {s' : Shared} {H' : Hp}, Inv (X.blk s0 H0 sc ce fp0) (pins ++ pinsAt fp a7.heap) τ H' s' → N1 H' → ∃ m, m < n ∧ ∃ j H', Inv (X.blk s0 H0 sc ce fp0) pins (wipe ς ws) H' s' ∧ tn j s'.heap ∧ (∀ c ∈ fp, H' c = none) ∧ V j m H' := fun {s' H'} K' nx => by
        obtain ⟨m', lt, w'⟩ := hN1 H' nx
        have still : ∀ c ∈ fp, ∀ o, a7.heap.get? c = some o → s'.heap.get? c = some o ∧ H' c = none := fun c mc o e =>
          have z := K'.pin (c, o) (List.mem_append_right _ (List.mem_append_right _ (mem_pinsAt mc e)))
          ⟨z.1, z.2.1⟩
        refine ⟨m', lt, j + 1, H', K'.unpinned.weak (by rw [← wτ, wipe_length]) (fun j v e => (wipe_some (wτ ▸ e)).1), T.keep _ _ _ st7 fun c mc o e => (still c mc o e).1, fun c mc => ?_, w'⟩
        obtain ⟨o, e, _⟩ := T.obj _ _ st7 c mc
        exact (still c mc o e).2
      cases b with
      | false => exact close J9 (by simpa using q9)
      | true =>
        rw [if_pos rfl] at q9 ⊢
        exact thnF (hem _ a9 τ H9 N1 J9 q9) fun _ b1 ⟨G1, K1, nx⟩ => close K1 nx
  | cons y1 ys ih =>
    intro cs d y g tt ws cls tl pg pt sub pins s ς H N it fp tn J I T t0 f0 lp
    cases cls with
    | @cons _ c _ cs hi1 hg1 ht1 hf1 sub1 cls =>
    obtain ⟨V, ⟨m0, v0⟩, turn⟩ := lp
    cases tl with
    | more hcl ht tl =>
    have sub0 : ∀ i ∈ c.ws, i ∈ ws := sub c rfl
    have fpk : ∀ {H' : Hp}, (∀ c ∈ fp, H' c = none) → ∀ c ∈ fp, FpOk (X.blk s0 H0 sc ce fp0) pins H' c := fun n c mc => ⟨n c mc, (f0 c mc).2⟩
    refine loopIn fm ht (hf1 ce) (fun n s' => ∃ j H', Inv (X.blk s0 H0 sc ce fp0) pins (wipe ς ws) H' s' ∧ tn j s'.heap ∧ (∀ c ∈ fp, H' c = none) ∧ V j n H') ?_ m0 ⟨0, H, I, t0, fun c mc => (f0 c mc).1, v0⟩
    rintro n a5 ⟨j, H5, J5, st5, n5, w5⟩
    rcases turn j n H5 w5 with ⟨stop, nx⟩ | ⟨go, N1, hN1, step⟩
    · refine thnF (T.done (X.blk s0 H0 sc ce fp0) rfl rfl rfl hc j _ a5 _ H5 (fun _ _ => False) J5 (fpk n5) st5 stop) fun r a6 ⟨er, J6⟩ => ?_
      subst er
      exact ⟨rfl, H5, J6, nx⟩
    · refine thnF (T.item (X.blk s0 H0 sc ce fp0) rfl rfl rfl hc j _ a5 _ H5 (fun _ _ => False) J5 (fpk n5) st5 go) fun r a6 ⟨u, er, got⟩ => ?_
      subst er
      refine thnF got fun _ a7 ⟨x, H7, J7, r7, y7, st7, n7⟩ => ?_
      refine thnF (pg.run _ a7 _ H7 x u _ (J7.pinned (fpk n7) (T.obj _ _ st7)) r7 (step x H7 y7)) fun _ a8 ⟨τ, H8, J8, wτ, q8⟩ => ?_
      refine thnF (pt.run _ a8 τ H8 _ J8 q8) fun b a9 ⟨H9, J9, q9⟩ => ?_
      have close : ∀ {τ' : L2.St} {s' : Shared} {H' : Hp}, Inv (X.blk s0 H0 sc ce fp0) (pins ++ pinsAt fp a7.heap) τ' H' s' → (wipe ς ws).length = τ'.length → (∀ (j : Nat) v, (wipe ς ws)[j]? = some (some v) → τ'[j]? = some (some v)) → N1 H' →
          ∃ m, m < n ∧ ∃ j H', Inv (X.blk s0 H0 sc ce fp0) pins (wipe ς ws) H' s' ∧ tn j s'.heap ∧ (∀ c ∈ fp, H' c = none) ∧ V j m H' := fun {τ' s' H'} K' el ek nx => by
        obtain ⟨m', lt, w'⟩ := hN1 H' nx
        have still : ∀ c ∈ fp, ∀ o, a7.heap.get? c = some o → s'.heap.get? c = some o ∧ H' c = none := fun c mc o e =>
          have z := K'.pin (c, o) (List.mem_append_right _ (List.mem_append_right _ (mem_pinsAt mc e)))
          ⟨z.1, z.2.1⟩
        refine ⟨m', lt, j + 1, H', K'.unpinned.weak el ek, T.keep _ _ _ st7 fun c mc o e => (still c mc o e).1, fun c mc => ?_, w'⟩
        obtain ⟨o, e, _⟩ := T.obj _ _ st7 c mc
        exact (still c mc o e).2
      have l8 : (wipe ς ws).length = τ.length := by rw [← wτ, wipe_length]
      have k9 : ∀ (j : Nat) v, (wipe ς ws)[j]? = some (some v) → (wipe τ c.ws)[j]? = some (some v) := fun j v e => by
        obtain ⟨e1, e2⟩ := wipe_some (wτ ▸ e)
        exact (wipe_out fun z => e2 (sub0 j z)).trans e1
      cases b with
      | false => exact close J9 l8 (fun j v e => (wipe_some (wτ ▸ e)).1) (by simpa using q9)
      | true =>
        rw [if_pos rfl] at q9 ⊢
        refine thnF (hi1.run _ a9 τ H9 _ J9 q9) fun xv b1 hx => thnF hx fun itv b2 got => ?_
        obtain ⟨it1, fp1, tn1, J1, G1, rfl, K1, T1, su1, fu1, lp1⟩ := got
        have small := ih cs (d + 1) y1 c.g c.tt c.ws cls tl hg1 ht1 sub1 (pins ++ pinsAt fp a7.heap) b2 τ G1 N1 it1 fp1 tn1 J1 (K1.weak (wipe_length _ _) (fun j v e => (wipe_some e).1)) T1 su1 fu1 lp1
        have small' : codeAny (model X.prog X.w) X.A (.compLoop e (d + 1) (.ref it1) (.ref D) ce) (fun r s' => match r with
              | .ok _ => ∃ m, m < n ∧ ∃ j H', Inv (X.blk s0 H0 sc ce fp0) pins (wipe ς ws) H' s' ∧ tn j s'.heap ∧ (∀ c ∈ fp, H' c = none) ∧ V j m H'
              | .error _ => False) b2 := codeAny_mono small fun r s' ⟨er, H', K', nx⟩ => by
            subst er
            exact close K' (l8.trans (wipe_length τ c.ws).symm) k9 nx
        exact startG fm tl.cl small' (T1.self X.A 0 _ _ _ su1 small')
end
end GC

/-! DL22: such a comprehension as a whole; a list's, a dict's. -/
namespace GC
open PySem PySem.Spec PyProof.Rows L2
/-- what a comprehension asks: h0 the new thing, em what is done with each -/
def tGc (h0 : HO) (wi : TI) (g : TG) (tt : TT) (cs : List Cr) (em : Addr → L2.St → Hp → (Hp → Prop) → Prop) (vs : List Nat) : TE := fun σ H Q => wi σ H fun J H1 => ∀ D, H1 D = none → lpR J g tt vs (inn (em D) cs) σ (upd H1 D h0) fun H2 => Q (.ref D) H2
/-- a new thing is laid -/
def Mk (X : Cx) (mk : Sem Value) (h0 : HO) : Prop := ∀ (pins : List (Addr × Obj)) (s : Shared) (σ : L2.St) (H : Hp) (E : Value → Shared → Prop) (Q : Value → Shared → Prop), Inv X pins σ H s →
  (∀ s', Inv X pins σ (upd H s.heap.objs.size h0) s' → (∀ c o, s.heap.get? c = some o → s'.heap.get? c = some o) → Q (.ref s.heap.objs.size) s') → wpAny (model X.prog X.w) X.A mk Q E s
section
variable {X : Cx}
theorem core {e : Expr} {sc : Scope} {own : List (Str × Nat)} {p' : Pos} {use : Option (Value → Sem Unit)} {Qf : Value → Shared → Prop} {pins : List (Addr × Obj)} {s : Shared} {σ : L2.St} {H : Hp} {Q : VK} {y : Cy} {ys : List Cy} {wi : TI} {g : TG} {tt : TT} {cs : List Cr} {mk : Sem Value} {h0 : HO} {emS : Value → Env → Sem Unit} {em : Addr → L2.St → Hp → (Hp → Prop) → Prop} {gs : List Comprehension}
    (fm : Fm e) (hcl : clausesOf e = y.c :: gs) (tl : Tl e emS 0 y ys) (hc : X.calm = true) (hN : X.N.Nodup) (I : Inv X pins σ H s) (hi : PI X y.t y.i wi) (ok : BlkOk X.N X.env.scope sc own)
    (hg : DC.InB X sc fun Y => PG Y y.t g) (ht : DC.InB X sc fun Y => PTs Y y.fs tt) (hcls : DC.InB X sc fun Y => Cls Y ys cs) (sub : ∀ c' ∈ cs.head?, ∀ i ∈ c'.ws, i ∈ own.map (·.2)) (hmk : Mk X mk h0)
    (hem : ∀ D, DC.InB X sc fun Y => ∀ (pins : List (Addr × Obj)) (s : Shared) (τ : L2.St) (H : Hp) (N : Hp → Prop), Inv Y pins τ H s → em D τ H N → wpAny (model X.prog X.w) X.A (emS (.ref D) Y.env) (fun _ s' => ∃ H', Inv Y pins τ H' s' ∧ N H') (fun _ _ => False) s)
    (hs : ∀ x, foldedSetIterable y.i X.env x = pure x) (h : tGc h0 wi g tt cs em (own.map (·.2)) σ H Q)
    (out : ∀ D C s' m H', Inv X pins σ H' s' → Q (.ref D) H' → s'.heap.Ns C m → FpOk X pins H' C → compPost (model X.prog X.w) X.A X.xe use Qf (.ref D) C (.ok .next) s') :
    wpAny (model X.prog X.w) X.A (comprehension e sc X.env p' mk false (eval y.i X.env) use) Qf X.xe s := by
  have frees : ∀ y ∈ sc.names, y.2 = .free → ∃ c, X.env.cells.lookup y.1 = some c := fun y my ey =>
    I.ok.has _ ((ok.free y my ey).imp id id)
  refine wpAny_comprehension_free (use := use) hcl hs (closure_ok frees) ok.kind (fun y my ey => ey ▸ ok.uniq y my) ?_
  refine thn (hi.run pins s σ H _ I h) fun xv a1 hx => thn hx fun itv a2 got => ?_
  obtain ⟨it, fp, tn, J, H2, rfl, J2, T, st2, f2, q⟩ := got
  refine hmk pins a2 σ H2 _ _ J2 fun a3 J3 keep3 => newEnv_comp ?_
  have nD : H2 a2.heap.objs.size = none := J2.hok.fresh (Nat.le_refl _)
  have lp := q _ nD
  have there : ∀ c ∈ fp, ∃ o, a2.heap.get? c = some o := fun c mc => by
    obtain ⟨o, e, _⟩ := T.obj _ _ st2 c mc
    exact ⟨o, e⟩
  generalize eD : a2.heap.objs.size = D at J3 nD lp ⊢
  have f3 : ∀ c ∈ fp, FpOk X pins (upd H2 D h0) c ∧ c < a3.heap.objs.size := fun c mc => by
    obtain ⟨o, e⟩ := there c mc
    have lt : c < D := eD ▸ Heap.lt_size e
    exact ⟨⟨(upd_ne (Nat.ne_of_lt lt)).trans (f2 c mc).1, (f2 c mc).2⟩, Heap.lt_size (keep3 c o e)⟩
  have st3 : tn 0 a3.heap := T.keep _ _ _ st2 fun c _ o e => keep3 c o e
  have J4 := block_start J3 ok hN f3
  have pg := hg a3 (upd H2 D h0) a3.heap.objs.size (cellsFrom (a3.heap.objs.size + 1) sc.names (cloFrom X.env.cells sc.names [])) fp
  have pt := ht a3 (upd H2 D h0) a3.heap.objs.size (cellsFrom (a3.heap.objs.size + 1) sc.names (cloFrom X.env.cells sc.names [])) fp
  have pc := hcls a3 (upd H2 D h0) a3.heap.objs.size (cellsFrom (a3.heap.objs.size + 1) sc.names (cloFrom X.env.cells sc.names [])) fp
  have pe := hem D a3 (upd H2 D h0) a3.heap.objs.size (cellsFrom (a3.heap.objs.size + 1) sc.names (cloFrom X.env.cells sc.names [])) fp
  show codeAny _ _ (.compStart e 0 (.ref it) (.ref D) (compEnvC sc (cellsFrom (a3.heap.objs.size + 1) sc.names (cloFrom X.env.cells sc.names [])) a3.heap.objs.size X.env)) (compPost (model X.prog X.w) X.A X.xe use Qf (.ref D) a3.heap.objs.size) { a3 with heap := pushCells (a3.heap.push { cls := .type "dict", data := .dict #[] }) sc.names }
  have nf : ∀ c ∈ fp, (upd H2 D h0) c = none := fun c mc => (f3 c mc).1.1
  generalize eC : compEnvC sc (cellsFrom (a3.heap.objs.size + 1) sc.names (cloFrom X.env.cells sc.names [])) a3.heap.objs.size X.env = ce at J4 pg pt pc pe ⊢
  have cL : ce.locals = a3.heap.objs.size := by subst eC; rfl
  generalize eH : upd H2 D h0 = H3 at J3 J4 pg pt pc pe lp nf f3
  generalize e4 : ({ a3 with heap := pushCells (a3.heap.push { cls := .type "dict", data := .dict #[] }) sc.names } : Shared) = a4 at J4 ⊢
  have st4 : tn 0 a4.heap := T.keep _ _ _ st3 fun c _ o e => by rw [← e4]; exact pushCells_keeps _ _ _ _ (Heap.get?_push_of_some _ e)
  have fpk : ∀ c ∈ fp, FpOk (X.blk a3 H3 sc ce fp) [] H3 c := fun c mc =>
    ⟨nf c mc, (J4.ok.exf c mc).1, J4.ok.exfs c mc, .inl mc, fun x d e => (J4.ok.exf c mc).2 x d e, fun q mq => absurd (show q ∈ ([] : List (Addr × Obj)) ++ [] from mq) (by simp)⟩
  have big := loop_ok (X := X) (s0 := a3) (H0 := H3) (sc := sc) (ce := ce) (fp0 := fp) (em := em D) (D := D) fm hc pe ys cs 0 y g tt (own.map (·.2)) pc tl pg pt sub [] a4 σ H3 (fun H2 => Q (.ref D) H2) it fp tn J J4 T st4 fpk lp
  have big' : codeAny (model X.prog X.w) X.A (.compLoop e 0 (.ref it) (.ref D) ce) (compPost (model X.prog X.w) X.A X.xe use Qf (.ref D) a3.heap.objs.size) a4 := codeAny_mono big fun r a6 ⟨er, H5, J6, qq⟩ => by
    subst er
    have J7 : Inv X pins σ H5 a6 := J3.call' (ch := fp) J6.os J6.base J6.hok J6.bare fun c mc =>
      let z := (f3 c mc).1.2
      ⟨z.2.2.1, z.1, z.2.2.2.1, z.2.2.2.2⟩
    have nC : H5 a3.heap.objs.size = none := cL ▸ (show H5 ce.locals = none from J6.free)
    obtain ⟨m, nm, _⟩ := J6.loc
    exact out D a3.heap.objs.size a6 m H5 J7 qq (cL ▸ (show a6.heap.Ns ce.locals m from nm)) (J3.fpOk (Nat.le_refl _) nC)
  exact startG fm tl.cl big' (T.self X.A 0 _ _ _ st4 big')
/-! ### what is laid -/
theorem mk_dT : Mk X newDict (.dT []) := fun pins s σ H E Q I h => wpAny_newObj_type (h _ (I.laid (t' := s.toks) (fun c o e => Heap.get?_push_of_some _ e) (Nat.le_refl _) (dt_empty s.heap I.big)) fun c o e => Heap.get?_push_of_some _ e)
theorem mk_dK : Mk X newDict (.dK []) := fun pins s σ H E Q I h => wpAny_newObj_type (h _ (I.laid (t' := s.toks) (fun c o e => Heap.get?_push_of_some _ e) (Nat.le_refl _) (dk_empty s.heap I.big)) fun c o e => Heap.get?_push_of_some _ e)
theorem mk_lst : Mk X (newList []) (.lst []) := fun pins s σ H E Q I h => wpAny_newObj_type (h _ (I.laid (t' := s.toks) (fun c o e => Heap.get?_push_of_some _ e) (Nat.le_refl _) ⟨Nat.zero_le _, [], 0, .nil, Heap.get?_push_size _ rfl⟩) fun c o e => Heap.get?_push_of_some _ e) (by show 0 ≤ sizeLine; decide)
/-! ### what is done with each -/
def emL (te : TE) (D : Addr) : L2.St → Hp → (Hp → Prop) → Prop := fun τ H N => te τ H fun y H7 => ∃ acc, H7 D = some (.lst acc) ∧ acc.length < sizeLine ∧ N (upd H7 D (.lst (acc ++ [y])))
def emT (tk tv : TE) (D : Addr) : L2.St → Hp → (Hp → Prop) → Prop := fun τ H N => tk τ H fun y H7 => tv τ H7 fun z H8 => ∃ kvs k a, y = .ref a ∧ H8 a = some (.tup (k.map kV)) ∧ H8 D = some (.dT kvs) ∧ kvs.length < sizeLine ∧ N (upd H8 D (.dT (putK kvs k z)))
def emK (tk tv : TE) (D : Addr) : L2.St → Hp → (Hp → Prop) → Prop := fun τ H N => tk τ H fun y H7 => tv τ H7 fun z H8 => ∃ (kvs : List (Key × V)) (k : Key), y = kV k ∧ H8 D = some (.dK kvs) ∧ kvs.length < sizeLine ∧ N (upd H8 D (.dK (putK kvs k z)))
def emsL (elt : Expr) : Value → Env → Sem Unit := fun acc env => do let _ ← call (.builtin "list.append") [acc, ← eval elt env]
def emsD (kx vx : Expr) : Value → Env → Sem Unit := fun acc env => match acc with
  | .ref d => do
    let a ← eval kx env
    let b ← holding [a] (eval vx env)
    standAt { kx.pos with endLine := vx.pos.endLine, endCol := vx.pos.endCol }
    holding [a, b] (dictSet d a b)
  | _ => pure ()
theorem hemL {elt : Expr} {te : TE} {s0 : Shared} {H0 : Hp} {sc : Scope} {ce : Env} {fp0 : List Addr} {D : Addr} (he : PE (X.blk s0 H0 sc ce fp0) elt te) (pins : List (Addr × Obj)) (s : Shared) (τ : L2.St) (H : Hp) (N : Hp → Prop) (I : Inv (X.blk s0 H0 sc ce fp0) pins τ H s) (h : emL te D τ H N) :
    wpAny (model X.prog X.w) X.A (emsL elt (.ref D) ce) (fun _ s' => ∃ H', Inv (X.blk s0 H0 sc ce fp0) pins τ H' s' ∧ N H') (fun _ _ => False) s := by
  refine wpAny_bind (thnF (he.run _ s τ H _ I h) fun v s1 ⟨y, H1, I1, r1, acc, hD, hz, nx⟩ => ?_)
  exact wpAny_bind (app_ok (X := X.blk s0 H0 sc ce fp0) I1 hD hz r1 fun s2 I2 => wpAny_pure ⟨_, I2, nx⟩)
theorem hemT {kx vx : Expr} {tk tv : TE} {s0 : Shared} {H0 : Hp} {sc : Scope} {ce : Env} {fp0 : List Addr} {D : Addr} (hu : X.A.units < cLine) (hk : PE (X.blk s0 H0 sc ce fp0) kx tk) (hv : PE (X.blk s0 H0 sc ce fp0) vx tv) (pins : List (Addr × Obj)) (s : Shared) (τ : L2.St) (H : Hp) (N : Hp → Prop) (I : Inv (X.blk s0 H0 sc ce fp0) pins τ H s) (h : emT tk tv D τ H N) :
    wpAny (model X.prog X.w) X.A (emsD kx vx (.ref D) ce) (fun _ s' => ∃ H', Inv (X.blk s0 H0 sc ce fp0) pins τ H' s' ∧ N H') (fun _ _ => False) s := by
  refine wpAny_bind (thnF (hk.run _ s τ H _ I h) fun v s1 ⟨y, H1, I1, r1, q1⟩ => ?_)
  refine wpAny_bind (wpAny_holding (thnF (hv.run _ s1 τ H1 _ I1 q1) fun v2 s2 ⟨z, H2, I2, r2, kvs, k, a, ea, ha, hD, hz, nx⟩ => ?_))
  refine wpAny_bind (wpAny_standAt (wpAny_holding ?_))
  subst ea
  exact DC.putT (X := X.blk s0 H0 sc ce fp0) hu I2 hD ha hz r1 r2 fun s3 I3 => ⟨_, I3, nx⟩
theorem hemK {kx vx : Expr} {tk tv : TE} {s0 : Shared} {H0 : Hp} {sc : Scope} {ce : Env} {fp0 : List Addr} {D : Addr} (hk : PE (X.blk s0 H0 sc ce fp0) kx tk) (hv : PE (X.blk s0 H0 sc ce fp0) vx tv) (pins : List (Addr × Obj)) (s : Shared) (τ : L2.St) (H : Hp) (N : Hp → Prop) (I : Inv (X.blk s0 H0 sc ce fp0) pins τ H s) (h : emK tk tv D τ H N) :
    wpAny (model X.prog X.w) X.A (emsD kx vx (.ref D) ce) (fun _ s' => ∃ H', Inv (X.blk s0 H0 sc ce fp0) pins τ H' s' ∧ N H') (fun _ _ => False) s := by
  refine wpAny_bind (thnF (hk.run _ s τ H _ I h) fun v s1 ⟨y, H1, I1, r1, q1⟩ => ?_)
  refine wpAny_bind (wpAny_holding (thnF (hv.run _ s1 τ H1 _ I1 q1) fun v2 s2 ⟨z, H2, I2, r2, kvs, k, ek, hD, hz, nx⟩ => ?_))
  refine wpAny_bind (wpAny_standAt (wpAny_holding ?_))
  subst ek
  exact d_dictSet (X := X.blk s0 H0 sc ce fp0) I2 hD hz r1 r2 fun s3 I3 => ⟨_, I3, nx⟩
/-! ### the rules -/
theorem pe_list {elt : Expr} {y : Cy} {ys : List Cy} {gs : List Comprehension} {sc : Scope} {own : List (Str × Nat)} {p : Pos} {wi : TI} {g : TG} {tt : TT} {cs : List Cr} {te : TE} (tl : Tl (.ListComp elt (y.c :: gs) sc p) (emsL elt) 0 y ys) (hc : X.calm = true) (hN : X.N.Nodup) (hi : PI X y.t y.i wi) (ok : BlkOk X.N X.env.scope sc own)
    (hg : DC.InB X sc fun Y => PG Y y.t g) (ht : DC.InB X sc fun Y => PTs Y y.fs tt) (hcls : DC.InB X sc fun Y => Cls Y ys cs) (sub : ∀ c' ∈ cs.head?, ∀ i ∈ c'.ws, i ∈ own.map (·.2)) (he : DC.InB X sc fun Y => PE Y elt te) (hs : ∀ x, foldedSetIterable y.i X.env x = pure x := by intro _; rfl) :
    PE X (.ListComp elt (y.c :: gs) sc p) (tGc (.lst []) wi g tt cs (emL te) (own.map (·.2))) := by
  refine ⟨fun pins s σ H Q I h => ?_⟩
  rw [eval_ListComp]
  refine core fm_list rfl tl hc hN I hi ok hg ht hcls sub mk_lst (fun D s H C cl fp => hemL (he s H C cl fp)) hs h fun D C s' m H' J q nm f => ⟨m, nm, fun h'' sb => ?_⟩
  obtain ⟨f0, f1, f2, f3, f4, f5⟩ := f
  exact ⟨.ref D, H', J.turned (t' := s'.toks) (fun c o hb e => (sb.2 c hb).trans e) f0 f1 f3 f4 f5, rfl, q⟩
theorem pe_dictT {kx vx : Expr} {y : Cy} {ys : List Cy} {gs : List Comprehension} {sc : Scope} {own : List (Str × Nat)} {p : Pos} {wi : TI} {g : TG} {tt : TT} {cs : List Cr} {tk tv : TE} (tl : Tl (.DictComp kx vx (y.c :: gs) sc p) (emsD kx vx) 0 y ys) (hc : X.calm = true) (hu : X.A.units < cLine) (hN : X.N.Nodup) (hi : PI X y.t y.i wi) (ok : BlkOk X.N X.env.scope sc own)
    (hg : DC.InB X sc fun Y => PG Y y.t g) (ht : DC.InB X sc fun Y => PTs Y y.fs tt) (hcls : DC.InB X sc fun Y => Cls Y ys cs) (sub : ∀ c' ∈ cs.head?, ∀ i ∈ c'.ws, i ∈ own.map (·.2)) (hk : DC.InB X sc fun Y => PE Y kx tk) (hv : DC.InB X sc fun Y => PE Y vx tv) (hs : ∀ x, foldedSetIterable y.i X.env x = pure x := by intro _; rfl) :
    PE X (.DictComp kx vx (y.c :: gs) sc p) (tGc (.dT []) wi g tt cs (emT tk tv) (own.map (·.2))) := by
  refine ⟨fun pins s σ H Q I h => ?_⟩
  rw [arm_eval_DictComp]
  refine core fm_dict rfl tl hc hN I hi ok hg ht hcls sub mk_dT (fun D s H C cl fp => hemT hu (hk s H C cl fp) (hv s H C cl fp)) hs h fun D C s' m H' J q nm f => ⟨m, nm, fun h'' sb => ?_⟩
  obtain ⟨f0, f1, f2, f3, f4, f5⟩ := f
  exact ⟨.ref D, H', J.turned (t' := s'.toks) (fun c o hb e => (sb.2 c hb).trans e) f0 f1 f3 f4 f5, rfl, q⟩
theorem pe_dictK {kx vx : Expr} {y : Cy} {ys : List Cy} {gs : List Comprehension} {sc : Scope} {own : List (Str × Nat)} {p : Pos} {wi : TI} {g : TG} {tt : TT} {cs : List Cr} {tk tv : TE} (tl : Tl (.DictComp kx vx (y.c :: gs) sc p) (emsD kx vx) 0 y ys) (hc : X.calm = true) (hN : X.N.Nodup) (hi : PI X y.t y.i wi) (ok : BlkOk X.N X.env.scope sc own)
    (hg : DC.InB X sc fun Y => PG Y y.t g) (ht : DC.InB X sc fun Y => PTs Y y.fs tt) (hcls : DC.InB X sc fun Y => Cls Y ys cs) (sub : ∀ c' ∈ cs.head?, ∀ i ∈ c'.ws, i ∈ own.map (·.2)) (hk : DC.InB X sc fun Y => PE Y kx tk) (hv : DC.InB X sc fun Y => PE Y vx tv) (hs : ∀ x, foldedSetIterable y.i X.env x = pure x := by intro _; rfl) :
    PE X (.DictComp kx vx (y.c :: gs) sc p) (tGc (.dK []) wi g tt cs (emK tk tv) (own.map (·.2))) := by
  refine ⟨fun pins s σ H Q I h => ?_⟩
  rw [arm_eval_DictComp]
  refine core fm_dict rfl tl hc hN I hi ok hg ht hcls sub mk_dK (fun D s H C cl fp => hemK (hk s H C cl fp) (hv s H C cl fp)) hs h fun D C s' m H' J q nm f => ⟨m, nm, fun h'' sb => ?_⟩
  obtain ⟨f0, f1, f2, f3, f4, f5⟩ := f
  exact ⟨.ref D, H', J.turned (t' := s'.toks) (fun c o hb e => (sb.2 c hb).trans e) f0 f1 f3 f4 f5, rfl, q⟩
/-! ### how such texts are laid: one, two, three clauses -/
theorem tl_l3 {elt : Expr} {a b c : Cy} {sc : Scope} {p : Pos} : Tl (.ListComp elt [a.c, b.c, c.c] sc p) (emsL elt) 0 a [b, c] := .more rfl (fun _ _ _ => rfl) (.more rfl (fun _ _ _ => rfl) (.last rfl fun _ _ _ => rfl))
theorem tl_d1 {kx vx : Expr} {a : Cy} {sc : Scope} {p : Pos} : Tl (.DictComp kx vx [a.c] sc p) (emsD kx vx) 0 a [] := .last rfl fun _ _ _ => rfl
theorem tl_d2 {kx vx : Expr} {a b : Cy} {sc : Scope} {p : Pos} : Tl (.DictComp kx vx [a.c, b.c] sc p) (emsD kx vx) 0 a [b] := .more rfl (fun _ _ _ => rfl) (.last rfl fun _ _ _ => rfl)
end
end GC

/-! DL23: comprehensions of three clauses, dicts of one clause, on data. -/
namespace DL
open PySem L2
/-! ### dicts whose keys are numbers or texts -/
def putDk (acc : List (Key × D)) (k : Key) (v : D) : List (Key × D) :=
  if (acc.any fun e => decide (e.1 = k)) = true then acc.map (fun e => if e.1 = k then (e.1, v) else e) else acc ++ [(k, v)]
/-- the pairs of a dict and what they stand for -/
inductive KDk (K : PySem.W.Frag) (α : Al) (H : Hp) : List (Key × V) → List (Key × D) → Prop where
  | nil : KDk K α H [] []
  | cons {k : Key} {v : V} {d : D} {a : List (Key × V)} {b : List (Key × D)} : VR K α H v d → KDk K α H a b → KDk K α H ((k, v) :: a) ((k, d) :: b)
section
variable {K : PySem.W.Frag} {α α' : Al} {H H' : Hp} {C : Cells}
theorem KDk.extW (c : CR K α H C) (e : ExtW α H α' H') : ∀ {a b}, KDk K α H a b → KDk K α' H' a b
  | _, _, .nil => .nil
  | _, _, .cons r t => .cons (r.extW c e) (KDk.extW c e t)
theorem KDk.length : ∀ {a b}, KDk K α H a b → a.length = b.length
  | _, _, .nil => rfl
  | _, _, .cons _ t => by simp [KDk.length t]
theorem KDk.anyK (k : Key) : ∀ {a b}, KDk K α H a b → (a.any fun e => decide (e.1 = k)) = b.any fun e => decide (e.1 = k)
  | _, _, .nil => rfl
  | _, _, .cons r t => by simp only [List.any_cons, KDk.anyK k t]
theorem KDk.repl {v : V} {d : D} (r : VR K α H v d) (k : Key) : ∀ {a b}, KDk K α H a b → KDk K α H (a.map fun e => if e.1 = k then (e.1, v) else e) (b.map fun e => if e.1 = k then (e.1, d) else e)
  | _, _, .nil => .nil
  | _, _, .cons (k := k0) r0 t => by
    simp only [List.map_cons]
    by_cases q : k0 = k
    · rw [if_pos q, if_pos q]; exact .cons r (KDk.repl r k t)
    · rw [if_neg q, if_neg q]; exact .cons r0 (KDk.repl r k t)
theorem KDk.snoc {v : V} {d : D} (r : VR K α H v d) (k : Key) : ∀ {a b}, KDk K α H a b → KDk K α H (a ++ [(k, v)]) (b ++ [(k, d)])
  | _, _, .nil => .cons r .nil
  | _, _, .cons r0 t => .cons r0 (KDk.snoc r k t)
theorem KDk.put {v : V} {d : D} {a : List (Key × V)} {b : List (Key × D)} (t : KDk K α H a b) (k : Key) (r : VR K α H v d) : KDk K α H (putK a k v) (putDk b k d) := by
  unfold putK putDk
  rw [t.anyK k]
  by_cases q : (b.any fun e => decide (e.1 = k)) = true
  · rw [if_pos q, if_pos q]; exact t.repl r k
  · rw [if_neg q, if_neg q]; exact t.snoc r k
theorem KDk.sub {αs : Al} (hc : αs.cs = α.cs) (hh : ∀ a, a ∈ αs.hs → a ∈ α.hs) : ∀ {a b}, KDk K α H a b → KDk K αs H a b
  | _, _, .nil => .nil
  | _, _, .cons r t => .cons (r.sub hc hh) (KDk.sub hc hh t)
theorem KDk.keys : ∀ {a b}, KDk K α H a b → b.map (fun e => kD e.1) = a.map fun e => kD e.1
  | _, _, .nil => rfl
  | _, _, .cons r t => by simp only [List.map_cons, KDk.keys t]
theorem KDk.vals : ∀ {a b}, KDk K α H a b → VRs K α H (a.map (·.2)) (b.map (·.2))
  | _, _, .nil => .nil
  | _, _, .cons r t => .cons r (KDk.vals t)
end
/-- the state of a dict's comprehension -/
structure LkSt (K : PySem.W.Frag) (α1 : Al) (H1 : Hp) (D : Addr) (α : Al) (H : Hp) (C : Cells) (acc : List (Key × V)) (dacc : List (Key × DL.D)) : Prop where
  hs : α.hs = D :: α1.hs
  cr : CR K α H C
  ex : ExtW α1 H1 α H
  hk : ∀ b ∈ α1.hs, H b = H1 b
  at_ : H D = some (.dK acc)
  rs : KDk K α H acc dacc
section
variable {K : PySem.W.Frag} {α1 α α' : Al} {H1 H H' : Hp} {C C' C1 : Cells} {D : Addr} {acc : List (Key × V)} {dacc : List (Key × DL.D)}
theorem LkSt.start (c : CR K α1 H1 C1) (h : H1 D = none) : LkSt K α1 H1 D (α1.hide D) (upd H1 D (.dK [])) C1 [] [] :=
  ⟨rfl, c.hidden h (.inr (.inl ⟨_, rfl⟩)), ExtW.hide h, fun b hb => by obtain ⟨o', e, _⟩ := c.hid b hb; exact upd_ne (ne_of_none e h), upd_same, .nil⟩
theorem LkSt.go (l : LkSt K α1 H1 D α H C acc dacc) (e : Ext α H α' H') (c' : CR K α' H' C') : LkSt K α1 H1 D α' H' C' acc dacc := by
  have hd : D ∈ α.hs := by rw [l.hs]; exact List.mem_cons_self
  refine ⟨e.hs.trans l.hs, c', l.ex.trans (fun a ha => l.cr.has a (l.ex.sub ha)) e.toExtW, fun b hb => ?_, (e.hid D hd).trans l.at_, l.rs.extW l.cr e.toExtW⟩
  exact (e.hid b (by rw [l.hs]; exact List.mem_cons_of_mem _ hb)).trans (l.hk b hb)
theorem LkSt.put (c1 : CR K α1 H1 C1) (h0 : H1 D = none) (l : LkSt K α1 H1 D α H C acc dacc) (k : Key) {y : V} {dy : DL.D} (r : VR K α H y dy) : LkSt K α1 H1 D α (upd H D (.dK (putK acc k y))) C (putK acc k y) (putDk dacc k dy) := by
  have hp : D ∈ α.hs := by rw [l.hs]; exact List.mem_cons_self
  refine ⟨l.hs, l.cr.grow hp (.inr (.inl ⟨_, rfl⟩)), l.ex.mut h0, fun b hb => ?_, upd_same, (l.rs.put k r).extW l.cr (ExtW.grow hp)⟩
  obtain ⟨o', e, _⟩ := c1.hid b hb
  exact (upd_ne (ne_of_none e h0)).trans (l.hk b hb)
theorem LkSt.done (l : LkSt K α1 H1 D α H C acc dacc) : Ext α1 H1 ⟨α.cs, α1.hs⟩ H ∧ CR K ⟨α.cs, α1.hs⟩ H C ∧ VR K ⟨α.cs, α1.hs⟩ H (.ref D) (.dct (dacc.map fun e => kD e.1) (dacc.map (·.2))) := by
  obtain ⟨hs, cr, ex, hk, at_, rs⟩ := l
  obtain ⟨cs, hs'⟩ := α
  simp only at hs
  subst hs
  have z : CR K ((⟨cs, α1.hs⟩ : Al).hide D) H C := cr
  have rs' := KDk.sub (α := (⟨cs, α1.hs⟩ : Al).hide D) (αs := ⟨cs, α1.hs⟩) rfl (fun a h => List.mem_cons_of_mem D h) rs
  exact ⟨⟨⟨ex.pre, noMore, ex.keep⟩, rfl, hk⟩, z.shown, .dctK at_ z.shown_not rs'.keys rs'.vals⟩
end
def putI (f g : EX) : Ro → List (Key × D) → Mo (List (Key × D)) := fun ρ acc => bnd (f ρ) fun y => bnd (g ρ) fun z => match keyD y with
  | some k => if acc.length < sizeLine then ret (putDk acc k z) else bad
  | none => bad
section
variable {X : Cx} {W : WX}
theorem te_dctK {α1 : Al} {H1 : Hp} {C1 : Cells} {D : Addr} {f g : EX} (c1 : CR X.K α1 H1 C1) (h0 : H1 D = none) (σ2 : St) (α : Al) (H : Hp) (C : Cells) (ρ1 : Ro) (a a' : List (Key × DL.D)) (C' : Cells) (N : Hp → Prop)
    (st : ∃ acc, LkSt X.K α1 H1 D α H C acc a) (r : SR X.K α σ2 H ρ1) (run : putI f g ρ1 a C = .ok (a', C')) (fin : ∀ α' H', (∃ acc, LkSt X.K α1 H1 D α' H' C' acc a') → ExtW α H α' H' → N H') : GC.emK (tD X W0 f) (tD X W0 g) D σ2 H N := by
  obtain ⟨acc, l⟩ := st
  obtain ⟨y, C5, w, run⟩ := bnd_ok run
  obtain ⟨z, C6, w2, run⟩ := bnd_ok run
  cases hk : keyD y with
  | none => rw [hk] at run; cases run
  | some k =>
    rw [hk] at run
    dsimp only at run
    by_cases hl : a.length < sizeLine
    · rw [if_pos hl] at run
      cases run
      refine ⟨α, C, ρ1, l.cr, r, wpO_of w fun α5 H5 e5 c5 v rv => ?_⟩
      have l5 := l.go e5 c5
      refine ⟨α5, C5, ρ1, c5, r.ext l.cr e5, wpO_of w2 fun α6 H6 e6 c6 v2 rv2 => ?_⟩
      have l6 := l5.go e6 c6
      have hp : D ∈ α6.hs := by rw [l6.hs]; exact List.mem_cons_self
      have e56 := e5.toExtW.trans (fun b hb => c5.has b (e5.toExtW.sub hb)) e6.toExtW
      exact ⟨acc, k, keyD_vr rv hk, l6.at_, by rw [l.rs.length]; exact hl, fin α6 _ ⟨_, l6.put c1 h0 k rv2⟩ (e56.trans (fun b hb => c6.has b (e56.sub hb)) (ExtW.grow hp))⟩
    · rw [if_neg hl] at run; cases run
theorem lkS {K : PySem.W.Frag} {α1 : Al} {H1 : Hp} {D : Addr} : ∀ α H C a, (∃ acc, LkSt K α1 H1 D α H C acc a) → ExtW α1 H1 α H ∧ CR K α H C := fun α H C a ⟨_, l⟩ => ⟨l.ex, l.cr⟩
theorem lkG {K : PySem.W.Frag} {α1 : Al} {H1 : Hp} {D : Addr} : ∀ α H C a α' H' C', (∃ acc, LkSt K α1 H1 D α H C acc a) → Ext α H α' H' → CR K α' H' C' → ∃ acc, LkSt K α1 H1 D α' H' C' acc a := fun α H C a α' H' C' ⟨acc, l⟩ e c' => ⟨acc, l.go e c'⟩
noncomputable def xDc1K (fi : IX) (vs : List Nat) (t : TX) (p : BX) (f g : EX) : EX := fun ρ => bnd (fi ρ) fun s => bnd (nb (lp s t p (wipeD ρ vs) (putI f g) s.items [])) fun acc => ret (.dct (acc.map fun e => kD e.1) (acc.map (·.2)))
noncomputable def xDc1T (fi : IX) (vs : List Nat) (t : TX) (p : BX) (f g : EX) : EX := fun ρ => bnd (fi ρ) fun s => bnd (nb (lp s t p (wipeD ρ vs) (putT f g) s.items [])) fun acc => ret (.dct (acc.map fun e => ktD e.1) (acc.map (·.2)))
theorem de_dc1K {kx vx t0 i0 : Expr} {f0 : List Expr} {scope : Scope} {pos : Pos} {fi : IX} {t : TX} {p : BX} {f g : EX} (own : List (Str × Nat)) {ix : List Nat} (hc : X.calm = true) (hN : X.N.Nodup) (hi : DI X W t0 i0 fi)
    (hg : Blk X scope fun Y => DG Y t0 ix t) (ht : Blk X scope fun Y => DTs Y W0 f0 p) (hk : Blk X scope fun Y => DE Y W0 kx f) (he : Blk X scope fun Y => DE Y W0 vx g) (ok : blkC X.N X.env.scope scope own = true := by decide +kernel) (hix : ∀ i ∈ ix, i ∈ own.map (·.2) := by decide)
    (hs : ∀ x, foldedSetIterable i0 X.env x = pure x := by intro _; rfl) : DE X W (.DictComp kx vx [⟨t0, i0, f0, 0⟩] scope pos) (xDc1K fi (own.map (·.2)) t p f g) :=
  peImp (GC.pe_dictK (y := ⟨t0, i0, f0⟩) (cs := []) (g := gD X ix t) (tt := tDT X W0 p) (tk := tD X W0 f) (tv := tD X W0 g) GC.tl_d1 hc hN hi (blkOk_by ok) hg ht (fun _ _ _ _ _ => .nil) (fun _ h => by cases h) hk he hs) fun σ H Q h => by
  obtain ⟨α, C, ρ, c, r, h⟩ := h
  refine ⟨α, C, ρ, c, r, (WpO.bnd c h).mono fun α1 H1 C1 s e1 c1 h1 J G Y dw D hD => ?_⟩
  obtain ⟨ds, C2, hcomp, h2⟩ := wpNbok h1
  refine lp_any (S := fun α H C a => ∃ acc, LkSt X.K α1 H1 D α H C acc a) c1 ((r.ext c e1).wipe _) hix dw lkS lkG ⟨[], LkSt.start c1 hD⟩ hcomp (fun σ2 α H C ρ1 a a' C' N st r1 run fin => ?_) fun α3 H3 ⟨acc, l⟩ => ?_
  · exact te_dctK c1 hD σ2 α H C ρ1 a a' C' N st r1 run fun α' H' s' _ => fin α' H' s'
  · obtain ⟨e3, c3, v3⟩ := l.done
    exact h2 _ H3 e3 c3 (.ref D) v3
theorem de_dc1T {kx vx t0 i0 : Expr} {f0 : List Expr} {scope : Scope} {pos : Pos} {fi : IX} {t : TX} {p : BX} {f g : EX} (own : List (Str × Nat)) {ix : List Nat} (hc : X.calm = true) (hu : X.A.units + 64 < cLine) (hN : X.N.Nodup) (hi : DI X W t0 i0 fi)
    (hg : Blk X scope fun Y => DG Y t0 ix t) (ht : Blk X scope fun Y => DTs Y W0 f0 p) (hk : Blk X scope fun Y => DE Y W0 kx f) (he : Blk X scope fun Y => DE Y W0 vx g) (ok : blkC X.N X.env.scope scope own = true := by decide +kernel) (hix : ∀ i ∈ ix, i ∈ own.map (·.2) := by decide)
    (hs : ∀ x, foldedSetIterable i0 X.env x = pure x := by intro _; rfl) : DE X W (.DictComp kx vx [⟨t0, i0, f0, 0⟩] scope pos) (xDc1T fi (own.map (·.2)) t p f g) :=
  peImp (GC.pe_dictT (y := ⟨t0, i0, f0⟩) (cs := []) (g := gD X ix t) (tt := tDT X W0 p) (tk := tD X W0 f) (tv := tD X W0 g) GC.tl_d1 hc (by omega) hN hi (blkOk_by ok) hg ht (fun _ _ _ _ _ => .nil) (fun _ h => by cases h) hk he hs) fun σ H Q h => by
  obtain ⟨α, C, ρ, c, r, h⟩ := h
  refine ⟨α, C, ρ, c, r, (WpO.bnd c h).mono fun α1 H1 C1 s e1 c1 h1 J G Y dw D hD => ?_⟩
  obtain ⟨ds, C2, hcomp, h2⟩ := wpNbok h1
  refine lp_any (S := fun α H C a => ∃ acc, LdSt X.K α1 H1 D α H C acc a) c1 ((r.ext c e1).wipe _) hix dw ldS ldG ⟨[], LdSt.start c1 hD⟩ hcomp (fun σ2 α H C ρ1 a a' C' N st r1 run fin => ?_) fun α3 H3 ⟨acc, l⟩ => ?_
  · exact te_dct c1 hD σ2 α H C ρ1 a a' C' N st r1 run fun α' H' s' _ => fin α' H' s'
  · obtain ⟨e3, c3, v3⟩ := l.done
    exact h2 _ H3 e3 c3 (.ref D) v3

/-! ### three clauses -/
/-- a walk within a walk; the end knows that all grew -/
theorem lp_in2 {A : Type} {S : Al → Hp → Cells → A → Prop} {αr : Al} {Hr : Hp} {t1 : TX} {p1 : BX} {fi1 : IX} {ws ix1 : List Nat} {body1 : Ro → A → Mo A} {te1 : St → Hp → (Hp → Prop) → Prop} (hix : ∀ i ∈ ix1, i ∈ ws)
    (sc : ∀ α H C a, S α H C a → ExtW αr Hr α H ∧ CR X.K α H C) (sg : ∀ α H C a α' H' C', S α H C a → Ext α H α' H' → CR X.K α' H' C' → S α' H' C' a)
    (hstep : ∀ σ2 α H C ρ1 a a' C' (N : Hp → Prop), S α H C a → SR X.K α σ2 H ρ1 → body1 ρ1 a C = .ok (a', C') → (∀ α' H', S α' H' C' a' → ExtW α H α' H' → N H') → te1 σ2 H N)
    {σ2 : St} {α : Al} {H : Hp} {C C' : Cells} {ρ1 : Ro} {a a' : A} {N : Hp → Prop} (st : S α H C a) (r : SR X.K α σ2 H ρ1) (run : bnd (fi1 ρ1) (fun s1 => lp s1 t1 p1 (wipeD ρ1 ws) body1 s1.items a) C = .ok (a', C')) (fin : ∀ α' H', S α' H' C' a' → ExtW α H α' H' → N H') :
    iD X W0 fi1 σ2 H fun J1 H4 => GC.lpR J1 (gD X ix1 t1) (tDT X W0 p1) ws te1 σ2 H4 N := by
  refine lp_in (S := fun α' H' C a => S α' H' C a ∧ ExtW α H α' H') (te1 := te1) hix (fun α' H' C a h => sc _ _ _ _ h.1) (fun α1 H1 C a α' H' C' h e c' => ⟨sg _ _ _ _ _ _ _ h.1 e c', h.2.trans (fun b hb => (sc _ _ _ _ h.1).2.has b (h.2.sub hb)) e.toExtW⟩)
    (fun σ2 α1 H1 C ρ1 a a' C' N h r1 w1 f1 => hstep σ2 α1 H1 C ρ1 a a' C' N h.1 r1 w1 fun α' H' s' e' => f1 α' H' ⟨s', h.2.trans (fun b hb => (sc _ _ _ _ h.1).2.has b (h.2.sub hb)) e'⟩ e') ⟨st, (Ext.refl _ _).toExtW⟩ r run fun α' H' h => fin α' H' h.1 h.2
noncomputable def xLc3 (fi : IX) (vs : List Nat) (t : TX) (p : BX) (fi1 : IX) (ws : List Nat) (t1 : TX) (p1 : BX) (fi2 : IX) (us : List Nat) (t2 : TX) (p2 : BX) (f : EX) : EX := fun ρ => bnd (fi ρ) fun s => bnd (nb (lp s t p (wipeD ρ vs) (fun ρ1 acc => bnd (fi1 ρ1) fun s1 => lp s1 t1 p1 (wipeD ρ1 ws) (fun ρ2 acc => bnd (fi2 ρ2) fun s2 => lp s2 t2 p2 (wipeD ρ2 us) (addL f) s2.items acc) s1.items acc) s.items [])) fun ds => if ds.length ≤ sizeLine then ret (.lst ds) else bad
theorem de_lc3 {elt t0 i0 t1 i1 t2 i2 : Expr} {f0 f1 f2 : List Expr} {scope : Scope} {pos : Pos} {fi fi1 fi2 : IX} {t tt1 tt2 : TX} {p p1 p2 : BX} {f : EX} (own : List (Str × Nat)) {ix ix1 ix2 : List Nat} (ws us : List Nat) (hc : X.calm = true) (hN : X.N.Nodup) (hi : DI X W t0 i0 fi)
    (hg : Blk X scope fun Y => DG Y t0 ix t) (ht : Blk X scope fun Y => DTs Y W0 f0 p) (hi1 : Blk X scope fun Y => DI Y W0 t1 i1 fi1) (hg1 : Blk X scope fun Y => DG Y t1 ix1 tt1) (ht1 : Blk X scope fun Y => DTs Y W0 f1 p1) (hi2 : Blk X scope fun Y => DI Y W0 t2 i2 fi2) (hg2 : Blk X scope fun Y => DG Y t2 ix2 tt2) (ht2 : Blk X scope fun Y => DTs Y W0 f2 p2) (he : Blk X scope fun Y => DE Y W0 elt f) (ok : blkC X.N X.env.scope scope own = true := by decide +kernel) (hix : ∀ i ∈ ix, i ∈ own.map (·.2) := by decide) (hix1 : ∀ i ∈ ix1, i ∈ ws := by decide) (hix2 : ∀ i ∈ ix2, i ∈ us := by decide) (hws : ∀ i ∈ ws, i ∈ own.map (·.2) := by decide) (hus : ∀ i ∈ us, i ∈ ws := by decide)
    (hs : ∀ x, foldedSetIterable i0 X.env x = pure x := by intro _; rfl) (hs1 : ∀ env x, foldedSetIterable i1 env x = pure x := by intro _ _; rfl) (hs2 : ∀ env x, foldedSetIterable i2 env x = pure x := by intro _ _; rfl) : DE X W (.ListComp elt [⟨t0, i0, f0, 0⟩, ⟨t1, i1, f1, 0⟩, ⟨t2, i2, f2, 0⟩] scope pos) (xLc3 fi (own.map (·.2)) t p fi1 ws tt1 p1 fi2 us tt2 p2 f) :=
  peImp (GC.pe_list (y := ⟨t0, i0, f0⟩) (ys := [⟨t1, i1, f1⟩, ⟨t2, i2, f2⟩]) (cs := [⟨iD X W0 fi1, gD X ix1 tt1, tDT X W0 p1, ws⟩, ⟨iD X W0 fi2, gD X ix2 tt2, tDT X W0 p2, us⟩]) (g := gD X ix t) (tt := tDT X W0 p) (te := tD X W0 f) (GC.tl_l3 (a := ⟨t0, i0, f0⟩) (b := ⟨t1, i1, f1⟩) (c := ⟨t2, i2, f2⟩)) hc hN hi (blkOk_by ok) hg ht
    (fun s H C cl fp => .cons (hi1 s H C cl fp) (hg1 s H C cl fp) (ht1 s H C cl fp) hs1 (fun c' h => by cases h; exact hus) (.cons (hi2 s H C cl fp) (hg2 s H C cl fp) (ht2 s H C cl fp) hs2 (fun c' h => by cases h) .nil)) (fun c' h => by cases h; exact hws) he hs) fun σ H Q h => by
  obtain ⟨α, C, ρ, c, r, h⟩ := h
  refine ⟨α, C, ρ, c, r, (WpO.bnd c h).mono fun α1 H1 C1 s e1 c1 h1 J G Y dw D hD => ?_⟩
  obtain ⟨ds, C2, hcomp, h2⟩ := wpNbok h1
  refine lp_any (S := fun α H C a => ∃ acc, LcSt X.K α1 H1 D α H C acc a) c1 ((r.ext c e1).wipe _) hix dw lcS (lcG c1) ⟨[], LcSt.start c1 hD⟩ hcomp (fun σ2 α H C ρ1 a a' C' N st r1 run fin => ?_) fun α3 H3 ⟨acc, l⟩ => ?_
  · refine lp_in (S := fun α H C a => ∃ acc, LcSt X.K α1 H1 D α H C acc a) hix1 lcS (lcG c1) (fun σ3 α H C ρ2 a a' C' N st r2 run fin => ?_) st r1 run fin
    exact lp_in2 (S := fun α H C a => ∃ acc, LcSt X.K α1 H1 D α H C acc a) hix2 lcS (lcG c1) (te_lst c1 hD) st r2 run fin
  · by_cases hl : ds.length ≤ sizeLine
    · rw [if_pos hl] at h2
      obtain ⟨e3, c3, v3⟩ := l.done (by rw [l.rs.length]; exact hl)
      exact h2 _ H3 e3 c3 (.ref D) v3
    · rw [if_neg hl] at h2; exact h2.elim
end
end DL

/-! DL24: what is in a dict, how many, what it holds. -/
namespace DL
open PySem L2
/-- the key that data are, of either kind -/
def keysT : D → Option (List Key)
  | .tup es => keysD es
  | _ => none
def isK (d : D) : Bool := (keyD d).isSome
def isKs (d : D) : Bool := (keysT d).isSome
theorem keyD_kD (k : Key) : keyD (kD k) = some k := by cases k <;> rfl
theorem keysD_map : ∀ k : List Key, keysD (k.map kD) = some k
  | [] => rfl
  | a :: k => by rw [List.map_cons, keysD, keyD_kD, keysD_map k]; rfl
theorem keysT_kt (k : List Key) : keysT (ktD k) = some k := keysD_map k
/-- where a key stands among keys -/
def hasK (ks : List D) (x : D) : Option Bool := match keyD x with
  | some k => if ks.all isK then some (ks.any fun d => decide (keyD d = some k)) else none
  | none => match keysT x with
    | some k => if ks.all isKs then some (ks.any fun d => decide (keysT d = some k)) else none
    | none => none
def inK (neg : Bool) : Op2 := fun C x y => match look C y with
  | .dct ks _ => (hasK ks x).map fun b => .bl (if neg then !b else b)
  | _ => none
/-- what is held at a key -/
def atK : List D → List D → (D → Bool) → Option D
  | k :: ks, v :: vs, p => if p k then some v else atK ks vs p
  | _, _, _ => none
def oIxK : Op2 := fun C x y => match look C x with
  | .dct ks vs => match keyD y with
    | some k => if ks.all isK then atK ks vs fun d => decide (keyD d = some k) else none
    | none => none
  | _ => none
def oLenK : OpN := fun C xs => match xs with
  | [x] => match look C x with
    | .dct ks _ => some (.int ks.length)
    | _ => none
  | _ => none
theorem isK_all {K : PySem.W.Frag} {kvs : List (List Key × V)} (h : (kvs.map fun p => ktD p.1).all isK = true) : kvs = [] := by
  cases kvs with
  | nil => rfl
  | cons p r => simp only [List.map_cons, List.all_cons, Bool.and_eq_true] at h; cases h.1
theorem isKs_all {K : PySem.W.Frag} {kvs : List (Key × V)} (h : (kvs.map fun p => kD p.1).all isKs = true) : kvs = [] := by
  cases kvs with
  | nil => rfl
  | cons p r =>
    simp only [List.map_cons, List.all_cons, Bool.and_eq_true] at h
    obtain ⟨k, v⟩ := p
    cases k <;> cases h.1
theorem keysT_vr {K : PySem.W.Frag} {α : Al} {H : Hp} {v : V} {d : D} {k : List Key} (r : VR K α H v d) (h : keysT d = some k) : ∃ b, v = .ref b ∧ H b = some (.tup (k.map kV)) := by
  cases r with
  | @tup b xs ds hb _ rb =>
    have e := keysD_vr rb h
    subst e
    exact ⟨b, rfl, hb⟩
  | _ => cases h
section
variable {X : Cx} {pins : List (Addr × Obj)} {σ : L2.St} {H : Hp} {s : Shared} {E : Value → Shared → Prop}
/-- an empty dict of the other kind -/
theorem in_eT {a b : Addr} {k : List Key} {Q : Value → Shared → Prop} (hu : X.A.units + 1 < cLine) (I : Inv X pins σ H s) (hD : H a = some (.dK [])) (hb : H b = some (.tup (k.map kV))) (h : ∀ s', Inv X pins σ H s' → Q (.bool false) s') :
    wpAny (model X.prog X.w) X.A (compareOp .In (.ref b) (.ref a)) Q E s := by
  obtain ⟨z, hd, vs, rel, o, es, ep, h1, h2, h3, h4, h5, h6⟩ := dk_of I.hok hD
  cases rel
  have e : es.toList = [] := by
    generalize es.toList = l at h5
    cases h5; rfl
  exact wpAny_in_heap (xs := []) (tupleKind_room_in1 hu) (key_of I.hok hb) hd ⟨o, es, ep, h1, h2, h3, e, (fun x hx => nomatch hx), List.nodup_nil⟩ (h _ (I.tok _))
theorem in_eK {a : Addr} {k : Key} {u : Value} {Q : Value → Shared → Prop} (I : Inv X pins σ H s) (hD : H a = some (.dT [])) (ru : RelV (kV k) u) (h : ∀ s', Inv X pins σ H s' → Q (.bool false) s') :
    wpAny (model X.prog X.w) X.A (compareOp .In u (.ref a)) Q E s := by
  obtain ⟨z, hd, xs, rel, o, es, ep, h1, h2, h3, h4, h5, h6⟩ := dt_of I.hok hD
  cases rel
  have e : es.toList = [] := h4
  have e2 : es = #[] := by
    obtain ⟨l⟩ := es
    simp only at e
    rw [e]
  have dd : s.heap.DictOf (mixKind X.prog X.w) a [] := ⟨o, es, ep, h1, h2, h3, by subst e2; intro x hx; exact absurd hx (by simp), by rw [e]; exact .nil, List.nodup_nil⟩
  exact wpAny_in_of (kV_is ru) hd dd.mapOf (h _ (I.tok _))
theorem r_inK (hu : X.A.units + 64 < cLine) : OpR X (compareOp .In) (rD2 X.K (inK false)) := by
  intro pins s σ H x y v u Q I rx ry h
  obtain ⟨α, C, dx, dy, dz, c, vx, vy, h, ans⟩ := h
  unfold inK at h
  split at h
  · rename_i ks vs hl
    obtain ⟨b, hb, h2⟩ := Option.map_eq_some_iff.mp h
    subst h2
    obtain ⟨a, rfl, hd⟩ := vy.asD c hl
    obtain rfl : u = Value.ref a := ry
    have fin : ∀ s', Inv X pins σ H s' → EP X pins σ Q (.bool b) s' := fun s' I' => ⟨.bl b, H, I', rfl, by simpa using ans.here c (.bl _)⟩
    unfold hasK at hb
    cases hk : keyD dx with
    | some k =>
      rw [hk] at hb
      dsimp only at hb
      split at hb
      · rename_i hall
        cases hb
        have ex := keyD_vr vx hk
        subst ex
        rcases hd with ⟨kvs, h1, rfl, r1⟩ | ⟨kvs, h1, rfl, r1⟩
        · refine d_in (by omega) I (DGet.k h1) rx fun s' I' => ?_
          rw [← valV_any]
          have e : (kvs.map fun p => kD p.1).any (fun d => decide (keyD d = some k)) = kvs.any fun kv => decide (kv.1 = k) := by
            rw [List.any_map]
            congr 1
            funext p
            simp [keyD_kD]
          rw [e] at fin
          exact fin s' I'
        · have e := isK_all (K := X.K) hall
          subst e
          exact in_eK I h1 rx fun s' I' => fin s' I'
      · cases hb
    | none =>
      rw [hk] at hb
      dsimp only at hb
      cases hk2 : keysT dx with
      | none => rw [hk2] at hb; cases hb
      | some k =>
        rw [hk2] at hb
        dsimp only at hb
        split at hb
        · rename_i hall
          cases hb
          obtain ⟨q, rfl, hq⟩ := keysT_vr vx hk2
          obtain rfl : v = Value.ref q := rx
          rcases hd with ⟨kvs, h1, rfl, r1⟩ | ⟨kvs, h1, rfl, r1⟩
          · have e := isKs_all (K := X.K) hall
            subst e
            exact in_eT (by omega) I h1 hq fun s' I' => fin s' I'
          · refine d_in (by omega) I (DGet.t h1 hq) rfl fun s' I' => ?_
            rw [← valV_any]
            have e : (kvs.map fun p => ktD p.1).any (fun d => decide (keysT d = some k)) = kvs.any fun kv => decide (kv.1 = k) := by
              rw [List.any_map]
              congr 1
              funext p
              simp [keysT_kt]
            rw [e] at fin
            exact fin s' I'
        · cases hb
  · cases h
theorem c_lenK : CallR X (.builtin "len") (rDN X.K oLenK) := callImp (call_lenD.or call_len_dT) fun xs H Q ⟨α, C, ds, dz, c, r, h, ans⟩ => by
  unfold oLenK at h
  split at h
  · rename_i x
    obtain ⟨v, rfl, rv⟩ := vrs1 r
    split at h
    · rename_i ks vs hl
      cases h
      obtain ⟨a, rfl, ⟨kvs, h1, rfl, r1⟩ | ⟨kvs, h1, rfl, r1⟩⟩ := rv.asD c hl
      · exact .inl ⟨a, kvs, rfl, h1, ans.here c (by rw [List.length_map]; exact .int _)⟩
      · exact .inr ⟨a, kvs, rfl, h1, ans.here c (by rw [List.length_map]; exact .int _)⟩
    · cases h
  · cases h
theorem atK_ok {K : PySem.W.Frag} {α : Al} {H : Hp} {k : Key} {d : D} : ∀ {kvs : List (Key × V)} {vs : List D}, VRs K α H (kvs.map (·.2)) vs → atK (kvs.map fun p => kD p.1) vs (fun d => decide (keyD d = some k)) = some d → ∃ v, valV kvs k = some v ∧ VR K α H v d
  | [], _, r, h => by cases r; cases h
  | p :: kvs, _, r, h => by
    rw [List.map_cons] at r
    cases r with
    | cons r0 r1 =>
      rw [List.map_cons, atK] at h
      by_cases e : p.1 = k
      · rw [if_pos (by simp [keyD_kD, e])] at h
        cases h
        exact ⟨p.2, valV_pos e, r0⟩
      · rw [if_neg (by simp [keyD_kD, e])] at h
        rw [valV_neg e]
        exact atK_ok r1 h
variable {W : WX} {o i : Expr} {f g : EX} {pos : Pos}
theorem de_ixK (hu : X.A.units + 64 < cLine) (ho : DE X W o f) (hi : DE X W i g) (hs : ∀ ov iv, subscripted i false ov iv = operate [ov, iv] (getItem ov iv) := by exact fun _ _ => rfl) : DE X W (.Subscript o i pos) (x2 oIxK f g) :=
  peImp (pe_dget (by omega) ho hi hs) fun σ H Q h => by
  obtain ⟨α, C, ρ, c, r, h⟩ := tD_x2 h
  refine ⟨α, C, ρ, c, r, h.mono fun α1 H1 C1 x e1 c1 h1 v rv => ?_⟩
  obtain ⟨α2, C2, ρ2, c2, r2, h2⟩ := h1 v rv
  refine ⟨α2, C2, ρ2, c2, r2, h2.mono fun α3 H3 C3 y e3 c3 h3 w rw => ?_⟩
  obtain ⟨α4, C4, dx, dy, dz, c4, rx, ry, hz, ans⟩ := h3 w rw
  unfold oIxK at hz
  split at hz
  · rename_i ks vs hl
    split at hz
    · rename_i k hk
      split at hz
      · rename_i hall
        obtain ⟨a, rfl, ⟨kvs, h1, rfl, r1⟩ | ⟨kvs, h1, rfl, r1⟩⟩ := rx.asD c4 hl
        · obtain ⟨z, h5, h6⟩ := atK_ok r1 hz
          refine ⟨a, z, rfl, ?_, ans.here c4 h6⟩
          have g := DGet.k (k := k) h1
          rw [h5] at g
          rw [keyD_vr ry hk]
          exact g
        · have e := isK_all (K := X.K) hall
          subst e
          cases r1
          cases hz
      · cases hz
    · cases hz
  · cases hz
end
end DL

/-! DL25: x = such a comprehension. -/
namespace GC
open PySem PySem.Spec PyProof.Rows L2
section
variable {X : Cx}
/-- what is kept is stored -/
theorem used {i : Nat} {y : Str} {py : Pos} {pins : List (Addr × Obj)} {σ : L2.St} {D : Ends} {L C : Addr} {s' : Shared} {m : Str → Option Value} {H' : Hp} (hN : X.N.Nodup) (hy : X.N[i]? = some y) (hyl : X.env.scope.names.lookup y = some .local)
    (J : Inv X pins σ H' s') (q : gName i (.ref L) σ H' D.nx) (nm : s'.heap.Ns C m) (f : FpOk X pins H' C) : compPost (model X.prog X.w) X.A X.xe (some (assign (.Name y py) X.env)) (fun _ s' => SP X pins D .next s') (.ref L) C (.ok .next) s' := by
  show wpAny _ _ (assign (.Name y py) X.env (.ref L)) _ _ _
  refine wpAny_assign_Name (store_ok2 (v := V.ref L) J hN hy (.inl hyl) rfl (fun s2 J2 ⟨a, sb, ha⟩ => ?_) (.inr hyl))
  obtain ⟨z0, z1, z2, z3, z4, z5⟩ := f
  have ne : C ≠ a := by
    rcases ha with z | z
    · exact z ▸ z1
    · exact fun e => z4 y a z e.symm
  exact ⟨m, nm.sameBut sb ne, fun h3 sb3 => ⟨_, H', J2.turned (t' := s2.toks) (fun c o hb e => (sb3.2 c hb).trans e) z0 z1 z3 z4 z5, q⟩⟩
theorem ps_list {i : Nat} {z : Str} {py sp : Pos} {elt : Expr} {y : Cy} {ys : List Cy} {gs : List Comprehension} {sc : Scope} {own : List (Str × Nat)} {p : Pos} {wi : TI} {g : TG} {tt : TT} {cs : List Cr} {te : TE} (hz : X.N[i]? = some z) (hzl : X.env.scope.names.lookup z = some .local)
    (hsw : swapsWith (.ListComp elt (y.c :: gs) sc p) (some (.Name z py)) sp.line X.env = pure true) (tl : Tl (.ListComp elt (y.c :: gs) sc p) (emsL elt) 0 y ys) (hc : X.calm = true) (hN : X.N.Nodup) (hi : PI X y.t y.i wi) (ok : BlkOk X.N X.env.scope sc own)
    (hg : DC.InB X sc fun Y => PG Y y.t g) (ht : DC.InB X sc fun Y => PTs Y y.fs tt) (hcls : DC.InB X sc fun Y => Cls Y ys cs) (sub : ∀ c' ∈ cs.head?, ∀ i ∈ c'.ws, i ∈ own.map (·.2)) (he : DC.InB X sc fun Y => PE Y elt te) (hs : ∀ x, foldedSetIterable y.i X.env x = pure x := by intro _; rfl) :
    PS X (.Assign [.Name z py] (.ListComp elt (y.c :: gs) sc p) sp) (tAsg (tGc (.lst []) wi g tt cs (emL te) (own.map (·.2))) (gName i)) := by
  refine ⟨fun pins s σ H D I h => ?_⟩
  rw [exec_Assign_Name_used _ _ _ _ hsw]
  refine wpAny_bind (wpAny_standAt (wpAny_bind ?_))
  show wpAny _ X.A (do let _ ← comprehension (.ListComp elt (y.c :: gs) sc p) sc X.env (firstIterPos (y.c :: gs) p) (newList []) false (eval y.i X.env) (some (assign (.Name z py) X.env))) _ _ s
  have h : tGc (.lst []) wi g tt cs (emL te) (own.map (·.2)) σ H (fun x H1 => gName i x σ H1 D.nx) := h
  exact wpAny_bind (thn (core (Qf := fun _ s' => SP X pins D .next s') fm_list rfl tl hc hN I hi ok hg ht hcls sub mk_lst (fun D s H C cl fp => hemL (he s H C cl fp)) hs h fun L C s' m H' J q nm f => used hN hz hzl J q nm f) fun _ s' hq => wpAny_pure (wpAny_pure hq))
theorem ps_dictT {i : Nat} {z : Str} {py sp : Pos} {kx vx : Expr} {y : Cy} {ys : List Cy} {gs : List Comprehension} {sc : Scope} {own : List (Str × Nat)} {p : Pos} {wi : TI} {g : TG} {tt : TT} {cs : List Cr} {tk tv : TE} (hz : X.N[i]? = some z) (hzl : X.env.scope.names.lookup z = some .local)
    (hsw : swapsWith (.DictComp kx vx (y.c :: gs) sc p) (some (.Name z py)) sp.line X.env = pure true) (tl : Tl (.DictComp kx vx (y.c :: gs) sc p) (emsD kx vx) 0 y ys) (hc : X.calm = true) (hu : X.A.units < cLine) (hN : X.N.Nodup) (hi : PI X y.t y.i wi) (ok : BlkOk X.N X.env.scope sc own)
    (hg : DC.InB X sc fun Y => PG Y y.t g) (ht : DC.InB X sc fun Y => PTs Y y.fs tt) (hcls : DC.InB X sc fun Y => Cls Y ys cs) (sub : ∀ c' ∈ cs.head?, ∀ i ∈ c'.ws, i ∈ own.map (·.2)) (hk : DC.InB X sc fun Y => PE Y kx tk) (hv : DC.InB X sc fun Y => PE Y vx tv) (hs : ∀ x, foldedSetIterable y.i X.env x = pure x := by intro _; rfl) :
    PS X (.Assign [.Name z py] (.DictComp kx vx (y.c :: gs) sc p) sp) (tAsg (tGc (.dT []) wi g tt cs (emT tk tv) (own.map (·.2))) (gName i)) := by
  refine ⟨fun pins s σ H D I h => ?_⟩
  rw [exec_Assign_Name_used _ _ _ _ hsw]
  refine wpAny_bind (wpAny_standAt (wpAny_bind ?_))
  show wpAny _ X.A (do let _ ← comprehension (.DictComp kx vx (y.c :: gs) sc p) sc X.env (firstIterPos (y.c :: gs) p) newDict false (eval y.i X.env) (some (assign (.Name z py) X.env))) _ _ s
  have h : tGc (.dT []) wi g tt cs (emT tk tv) (own.map (·.2)) σ H (fun x H1 => gName i x σ H1 D.nx) := h
  exact wpAny_bind (thn (core (Qf := fun _ s' => SP X pins D .next s') fm_dict rfl tl hc hN I hi ok hg ht hcls sub mk_dT (fun D s H C cl fp => hemT hu (hk s H C cl fp) (hv s H C cl fp)) hs h fun L C s' m H' J q nm f => used hN hz hzl J q nm f) fun _ s' hq => wpAny_pure (wpAny_pure hq))
theorem ps_dictK {i : Nat} {z : Str} {py sp : Pos} {kx vx : Expr} {y : Cy} {ys : List Cy} {gs : List Comprehension} {sc : Scope} {own : List (Str × Nat)} {p : Pos} {wi : TI} {g : TG} {tt : TT} {cs : List Cr} {tk tv : TE} (hz : X.N[i]? = some z) (hzl : X.env.scope.names.lookup z = some .local)
    (hsw : swapsWith (.DictComp kx vx (y.c :: gs) sc p) (some (.Name z py)) sp.line X.env = pure true) (tl : Tl (.DictComp kx vx (y.c :: gs) sc p) (emsD kx vx) 0 y ys) (hc : X.calm = true) (hN : X.N.Nodup) (hi : PI X y.t y.i wi) (ok : BlkOk X.N X.env.scope sc own)
    (hg : DC.InB X sc fun Y => PG Y y.t g) (ht : DC.InB X sc fun Y => PTs Y y.fs tt) (hcls : DC.InB X sc fun Y => Cls Y ys cs) (sub : ∀ c' ∈ cs.head?, ∀ i ∈ c'.ws, i ∈ own.map (·.2)) (hk : DC.InB X sc fun Y => PE Y kx tk) (hv : DC.InB X sc fun Y => PE Y vx tv) (hs : ∀ x, foldedSetIterable y.i X.env x = pure x := by intro _; rfl) :
    PS X (.Assign [.Name z py] (.DictComp kx vx (y.c :: gs) sc p) sp) (tAsg (tGc (.dK []) wi g tt cs (emK tk tv) (own.map (·.2))) (gName i)) := by
  refine ⟨fun pins s σ H D I h => ?_⟩
  rw [exec_Assign_Name_used _ _ _ _ hsw]
  refine wpAny_bind (wpAny_standAt (wpAny_bind ?_))
  show wpAny _ X.A (do let _ ← comprehension (.DictComp kx vx (y.c :: gs) sc p) sc X.env (firstIterPos (y.c :: gs) p) newDict false (eval y.i X.env) (some (assign (.Name z py) X.env))) _ _ s
  have h : tGc (.dK []) wi g tt cs (emK tk tv) (own.map (·.2)) σ H (fun x H1 => gName i x σ H1 D.nx) := h
  exact wpAny_bind (thn (core (Qf := fun _ s' => SP X pins D .next s') fm_dict rfl tl hc hN I hi ok hg ht hcls sub mk_dK (fun D s H C cl fp => hemK (hk s H C cl fp) (hv s H C cl fp)) hs h fun L C s' m H' J q nm f => used hN hz hzl J q nm f) fun _ s' hq => wpAny_pure (wpAny_pure hq))
end
end GC
namespace DL
open PySem L2
section
variable {X : Cx} {W : WX}
theorem ds_setLc3 {i : Nat} {y : Str} {py spos : Pos} {elt t0 i0 t1 i1 t2 i2 : Expr} {f0 f1 f2 : List Expr} {scope : Scope} {pos : Pos} {fi fi1 fi2 : IX} {t tt1 tt2 : TX} {p p1 p2 : BX} {f : EX} (own : List (Str × Nat)) {ix ix1 ix2 : List Nat} (ws us : List Nat) (hc : X.calm = true) (hN : X.N.Nodup) (hi : DI X W t0 i0 fi)
    (hg : Blk X scope fun Y => DG Y t0 ix t) (ht : Blk X scope fun Y => DTs Y W0 f0 p) (hi1 : Blk X scope fun Y => DI Y W0 t1 i1 fi1) (hg1 : Blk X scope fun Y => DG Y t1 ix1 tt1) (ht1 : Blk X scope fun Y => DTs Y W0 f1 p1) (hi2 : Blk X scope fun Y => DI Y W0 t2 i2 fi2) (hg2 : Blk X scope fun Y => DG Y t2 ix2 tt2) (ht2 : Blk X scope fun Y => DTs Y W0 f2 p2) (he : Blk X scope fun Y => DE Y W0 elt f) (hy : X.N[i]? = some y := by rfl) (hyl : X.env.scope.names.lookup y = some .local := by rfl)
    (hsw : swapsWith (.ListComp elt [⟨t0, i0, f0, 0⟩, ⟨t1, i1, f1, 0⟩, ⟨t2, i2, f2, 0⟩] scope pos) (some (.Name y py)) spos.line X.env = pure true := by exact sw_true rfl rfl rfl (by decide +kernel)) (ok : blkC X.N X.env.scope scope own = true := by decide +kernel) (hix : ∀ i ∈ ix, i ∈ own.map (·.2) := by decide) (hix1 : ∀ i ∈ ix1, i ∈ ws := by decide) (hix2 : ∀ i ∈ ix2, i ∈ us := by decide) (hws : ∀ i ∈ ws, i ∈ own.map (·.2) := by decide) (hus : ∀ i ∈ us, i ∈ ws := by decide)
    (hs : ∀ x, foldedSetIterable i0 X.env x = pure x := by intro _; rfl) (hs1 : ∀ env x, foldedSetIterable i1 env x = pure x := by intro _ _; rfl) (hs2 : ∀ env x, foldedSetIterable i2 env x = pure x := by intro _ _; rfl) : DS X W (.Assign [.Name y py] (.ListComp elt [⟨t0, i0, f0, 0⟩, ⟨t1, i1, f1, 0⟩, ⟨t2, i2, f2, 0⟩] scope pos) spos) (sSet i (xLc3 fi (own.map (·.2)) t p fi1 ws tt1 p1 fi2 us tt2 p2 f)) :=
  psImp (GC.ps_list (y := ⟨t0, i0, f0⟩) (ys := [⟨t1, i1, f1⟩, ⟨t2, i2, f2⟩]) (cs := [⟨iD X W0 fi1, gD X ix1 tt1, tDT X W0 p1, ws⟩, ⟨iD X W0 fi2, gD X ix2 tt2, tDT X W0 p2, us⟩]) (g := gD X ix t) (tt := tDT X W0 p) (te := tD X W0 f) hy hyl hsw (GC.tl_l3 (a := ⟨t0, i0, f0⟩) (b := ⟨t1, i1, f1⟩) (c := ⟨t2, i2, f2⟩)) hc hN hi (blkOk_by ok) hg ht
    (fun s H C cl fp => .cons (hi1 s H C cl fp) (hg1 s H C cl fp) (ht1 s H C cl fp) hs1 (fun c' h => by cases h; exact hus) (.cons (hi2 s H C cl fp) (hg2 s H C cl fp) (ht2 s H C cl fp) hs2 (fun c' h => by cases h) .nil)) (fun c' h => by cases h; exact hws) he hs) fun E σ H ⟨α, C, ρ, c, r, h⟩ => by
  have h' : tD X W (xLc3 fi (own.map (·.2)) t p fi1 ws tt1 p1 fi2 us tt2 p2 f) σ H (fun v H1 => gName i v σ H1 E.nx) := ⟨α, C, ρ, c, r, (WpS.sE c r h).mono fun α1 H1 C1 x e1 c1 h1 v rv => h1.nx c1 ((r.ext c e1).set rv)⟩
  obtain ⟨α, C, ρ, c, r, h⟩ := h'
  refine ⟨α, C, ρ, c, r, (WpO.bnd c h).mono fun α1 H1 C1 s e1 c1 h1 J G Y dw D hD => ?_⟩
  obtain ⟨ds, C2, hcomp, h2⟩ := wpNbok h1
  refine lp_any (S := fun α H C a => ∃ acc, LcSt X.K α1 H1 D α H C acc a) c1 ((r.ext c e1).wipe _) hix dw lcS (lcG c1) ⟨[], LcSt.start c1 hD⟩ hcomp (fun σ2 α H C ρ1 a a' C' N st r1 run fin => ?_) fun α3 H3 ⟨acc, l⟩ => ?_
  · refine lp_in (S := fun α H C a => ∃ acc, LcSt X.K α1 H1 D α H C acc a) hix1 lcS (lcG c1) (fun σ3 α H C ρ2 a a' C' N st r2 run fin => ?_) st r1 run fin
    exact lp_in2 (S := fun α H C a => ∃ acc, LcSt X.K α1 H1 D α H C acc a) hix2 lcS (lcG c1) (te_lst c1 hD) st r2 run fin
  · by_cases hl : ds.length ≤ sizeLine
    · rw [if_pos hl] at h2
      obtain ⟨e3, c3, v3⟩ := l.done (by rw [l.rs.length]; exact hl)
      exact h2 _ H3 e3 c3 (.ref D) v3
    · rw [if_neg hl] at h2; exact h2.elim
end
end DL

/-! DL26: is True, is False of a row too. -/
namespace L2
open PySem PySem.Spec PyProof.Rows
section
variable {X : Cx}
def rIsY : R2 := fun x y H Q => (∃ a b : Bool, x = .bl a ∧ y = .bl b ∧ Q (.bl (decide (a = b))) H) ∨ ∃ (a : Addr) (b : Bool), x = .ref a ∧ y = .bl b ∧ Q (.bl false) H
theorem op_isY : OpR X (compareOp .Is) rIsY := by
  intro pins s σ H x y v u Q I rx ry h
  rcases h with ⟨a, b, rfl, rfl, q⟩ | ⟨a, b, rfl, rfl, q⟩
  · cases (show v = Value.bool a from rx)
    cases (show u = Value.bool b from ry)
    by_cases e : a = b
    · subst e
      exact wpAny_is_self rfl ⟨.bl true, H, I, rfl, by simpa using q⟩
    · exact wpAny_is_other rfl (fun z => e (Value.bool.inj z)) ⟨.bl false, H, I, rfl, by simpa [e] using q⟩
  · cases (show v = Value.ref a from rx)
    cases (show u = Value.bool b from ry)
    exact wpAny_is_other rfl (fun z => by cases z) ⟨.bl false, H, I, rfl, q⟩
end
end L2
namespace DL
open PySem PySem.Spec PyProof.Rows L2
section
variable {X : Cx}
def oIsY : Op2 := fun _ x y => match x, y with
  | .bl a, .bl b => some (.bl (decide (a = b)))
  | .lst _, .bl _ => some (.bl false)
  | .tup _, .bl _ => some (.bl false)
  | _, _ => none
theorem r_isY : OpR X (compareOp .Is) (rD2 X.K oIsY) := opImp op_isY fun x y H Q ⟨α, C, dx, dy, dz, c, rx, ry, h, ans⟩ => by
  unfold oIsY at h
  split at h
  · cases h; exact .inl ⟨_, _, rx.blInv, ry.blInv, ans.here c (.bl _)⟩
  · cases h
    cases rx with
    | lst _ _ _ _ => exact .inr ⟨_, _, rfl, ry.blInv, ans.here c (.bl _)⟩
  · cases h
    cases rx with
    | tup _ _ _ => exact .inr ⟨_, _, rfl, ry.blInv, ans.here c (.bl _)⟩
  · cases h
end
end DL

/-! DL27: enumerate(zip(a, b)) of tuples, held by a name, walked by a comprehension. -/
namespace EZ
open PySem
/-- a zip, what it keeps of its last pair -/
abbrev IsZipB (h : Heap) (z TI TO : Addr) (f0 : Value) (b : Bool) : Prop := h.get? z = some { cls := .type "zip", dict := none, data := .fields #[f0, .bool b, .bool false, .ref TI, .ref TO], slots := #[] }
def Idle (f0 : Value) : Prop := f0 = .none ∨ ∃ a : Int, f0 = .int a 0
section
variable {prog : Program} {w : World} {A : Around} {E : Value → Shared → Prop} {s : Shared}
theorem alive {a : Addr} {Q : Option Obj → Shared → Prop} (h : Q (s.heap.get? a) s) : wpAny (model prog w) A (loadIfAlive a) Q E s := fun _ _ _ => h
/-- whether the pair of last is free -/
theorem isFree {z TI TO : Addr} {f0 : Value} {fb : Bool} {Q : Bool → Shared → Prop} (hf : Idle f0) (hz : IsZipB s.heap z TI TO f0 fb) (h1 : Q true s) (h2 : ∀ h', IsZipB h' z TI TO f0 true → Heap.SameBut z s.heap h' → Q false { s with heap := h' }) :
    wpAny (model prog w) A (Builtin.SmallTypes.ownedTupleIsFree (.ref z)) Q E s := by
  unfold Builtin.SmallTypes.ownedTupleIsFree
  rcases hf with rfl | ⟨a, rfl⟩
  · exact wpAny_bind (wpAny_field hz rfl (x := .none) rfl (wpAny_pure h1))
  · refine wpAny_bind (wpAny_field hz rfl (x := .int a 0) rfl ?_)
    refine wpAny_bind (alive ?_)
    cases hg : s.heap.get? a.toNat with
    | none => exact wpAny_pure h1
    | some o =>
      simp only [Option.isNone_some, Bool.false_eq_true, if_false]
      refine wpAny_bind (wpAny_field hz rfl (x := .bool fb) rfl ?_)
      cases fb with
      | true => exact wpAny_pure (h2 _ hz ⟨rfl, fun _ _ => rfl⟩)
      | false => exact wpAny_bind (wpAny_setField_rec hz (by simp) fun h₁ hz₁ hs₁ => wpAny_pure (h2 _ hz₁ hs₁))
theorem zipB_next {z TI TO i1 i2 l1 l2 : Addr} {k1 k2 : Nat} {xs ys : Array Value} {x y a b f0 : Value} {fb : Bool} {Q : Value → Shared → Prop} (D : ZipApart z TI TO i1 i2 l1 l2) (hf : Idle f0)
    (hz : IsZipB s.heap z TI TO f0 fb) (hTI : IsPair s.heap TI (.ref i1) (.ref i2)) (hTO : IsPair s.heap TO a b)
    (h1 : s.heap.IsTupleIter i1 l1 k1) (h2 : s.heap.IsTupleIter i2 l2 k2) (hl1 : s.heap.IsTuple l1 xs) (hl2 : s.heap.IsTuple l2 ys) (hx : xs[k1]? = some x) (hy : ys[k2]? = some y)
    (hQ : ∀ h' f0' fb', Idle f0' → IsZipB h' z TI TO f0' fb' → (∃ a b, IsPair h' TO a b) → h'.IsTupleIter i1 l1 (k1 + 1) → h'.IsTupleIter i2 l2 (k2 + 1) → IsPair h' s.heap.objs.size x y → h'.objs.size = s.heap.objs.size + 1 →
      (∀ c o, c ≠ z → c ≠ TO → c ≠ i1 → c ≠ i2 → s.heap.get? c = some o → h'.get? c = some o) → Q (.ref s.heap.objs.size) { s with heap := h' }) :
    wpAny (model prog w) A (Builtin.«zip.__next__» ⟨[.ref z], []⟩) (fun fin s' => ∃ v, fin = .done (.ret v) ∧ Q v s') E s := by
  show wpAny _ _ (field (.ref z) 2 >>= _) _ _ _
  refine wpAny_bind (wpAny_field hz rfl (x := .bool false) rfl ?_)
  show wpAny _ _ (field (.ref z) 3 >>= _) _ _ _
  refine wpAny_bind (wpAny_field hz rfl (x := .ref TI) rfl ?_)
  refine wpAny_bind (wpAny_seqItems hTI rfl ?_)
  show wpAny _ _ (Builtin.SmallTypes.ownedTupleIsFree (.ref z) >>= _) _ _ _
  refine wpAny_bind (isFree hf hz ?_ fun h₁ hz₁ hs₁ => ?_)
  · simp only [if_true]
    refine wpAny_bind (wpAny_rule ?_)
    refine wpAny_bind (wpAny_field hz rfl (x := .ref TO) rfl ?_)
    refine wpAny_bind (wpAny_setField_rec hz (by simp) fun h₁ hz₁ hs₁ => ?_)
    replace hz₁ : IsZipB h₁ z TI TO .ellipsis fb := hz₁
    refine wpAny_bind ?_
    simp only [List.zipIdx_cons, List.zipIdx_nil, List.forIn_cons, List.forIn_nil]
    refine wpAny_bind (wpAny_bind (wpAny_onRaise ?_))
    show wpAny _ _ (Builtin.SmallTypes.nextOf (.ref i1) >>= _) _ _ _
    refine wpAny_bind (RZ.nextOf_tuple_item (h1.extBut hs₁.extBut D.i1z) (hl1.extBut hs₁.extBut D.l1z) hx fun h₂ h1₂ hs₂ => wpAny_pure ?_)
    have hTO₂ : IsPair h₂ TO a b := hs₂.extBut _ _ D.TOi1 (hs₁.extBut _ _ D.TOz hTO)
    refine wpAny_bind (wpAny_seqItems hTO₂ rfl ?_)
    refine wpAny_bind (wpAny_updateSeq_pair hTO₂ fun h₃ hTO₃ hs₃ => ?_)
    replace hTO₃ : IsPair h₃ TO x b := hTO₃
    refine wpAny_bind (wpAny_letGo (wpAny_pure ?_))
    refine wpAny_bind (wpAny_bind (wpAny_onRaise ?_))
    show wpAny _ _ (Builtin.SmallTypes.nextOf (.ref i2) >>= _) _ _ _
    refine wpAny_bind (RZ.nextOf_tuple_item (((h2.extBut hs₁.extBut D.i2z).extBut hs₂.extBut D.i12.symm).extBut hs₃.extBut D.TOi2.symm)
      (((hl2.extBut hs₁.extBut D.l2z).extBut hs₂.extBut D.l2i1).extBut hs₃.extBut D.l2TO) hy fun h₄ h2₄ hs₄ => wpAny_pure ?_)
    have hTO₄ : IsPair h₄ TO x b := hs₄.extBut _ _ D.TOi2 hTO₃
    refine wpAny_bind (wpAny_seqItems hTO₄ rfl ?_)
    refine wpAny_bind (wpAny_updateSeq_pair hTO₄ fun h₅ hTO₅ hs₅ => ?_)
    replace hTO₅ : IsPair h₅ TO x y := hTO₅
    refine wpAny_bind (wpAny_letGo (wpAny_pure (wpAny_pure ?_)))
    refine wpAny_bind (wpAny_seqItems hTO₅ rfl ?_)
    refine wpAny_bind (wpAny_newTuple ?_)
    have hsz : h₅.objs.size = s.heap.objs.size := by rw [hs₅.1, hs₄.1, hs₃.1, hs₂.1, hs₁.1]
    have hz₅ : IsZipB h₅ z TI TO .ellipsis fb := hs₅.extBut _ _ D.TOz.symm (hs₄.extBut _ _ D.i2z.symm (hs₃.extBut _ _ D.TOz.symm (hs₂.extBut _ _ D.i1z.symm hz₁)))
    have hk₅ : ∀ c o, c ≠ z → c ≠ TO → c ≠ i1 → c ≠ i2 → s.heap.get? c = some o → h₅.get? c = some o := fun c o c1 c2 c3 c4 e =>
      hs₅.extBut _ _ c2 (hs₄.extBut _ _ c4 (hs₃.extBut _ _ c2 (hs₂.extBut _ _ c3 (hs₁.extBut _ _ c1 e))))
    have h1₅ : h₅.IsTupleIter i1 l1 (k1 + 1) := ((h1₂.extBut hs₃.extBut D.TOi1.symm).extBut hs₄.extBut D.i12).extBut hs₅.extBut D.TOi1.symm
    have h2₅ : h₅.IsTupleIter i2 l2 (k2 + 1) := h2₄.extBut hs₅.extBut D.TOi2.symm
    have hzlt : z < h₅.objs.size := Heap.lt_size hz₅
    show wpAny _ _ (Builtin.SmallTypes.ownedTupleHandOut (.ref z) (.ref h₅.objs.size) >>= _) _ _ _
    refine wpAny_bind ?_
    unfold Builtin.SmallTypes.ownedTupleHandOut
    have hz₆ : IsZipB (h₅.push { cls := .type "tuple", data := .seq #[x, y] }) z TI TO .ellipsis fb := Heap.get?_push_of_some _ hz₅
    refine wpAny_bind (wpAny_setField_rec hz₆ (by simp) fun h₇ hz₇ hs₇ => ?_)
    replace hz₇ : IsZipB h₇ z TI TO (rawInt h₅.objs.size) fb := hz₇
    refine wpAny_setField_rec hz₇ (by simp) fun h₈ hz₈ hs₈ => ?_
    replace hz₈ : IsZipB h₈ z TI TO (rawInt h₅.objs.size) false := hz₈
    have up : ∀ c o, c ≠ z → h₅.get? c = some o → h₈.get? c = some o := fun c o c1 e => hs₈.extBut _ _ c1 (hs₇.extBut _ _ c1 (Heap.get?_push_of_some _ e))
    have hT₈ : IsPair h₈ h₅.objs.size x y := hs₈.extBut _ _ (Nat.ne_of_gt hzlt) (hs₇.extBut _ _ (Nat.ne_of_gt hzlt) (Heap.get?_push_size _ rfl))
    have hz8 : h₈.objs.size = h₅.objs.size + 1 := by rw [hs₈.1, hs₇.1, Heap.size_push]
    rw [hsz] at hz₈ hT₈ hz8
    refine wpAny_pure ⟨_, rfl, ?_⟩
    show Q (.ref h₅.objs.size) _
    rw [hsz]
    exact hQ h₈ _ _ (.inr ⟨_, rfl⟩) hz₈ ⟨_, _, up _ _ D.TOz hTO₅⟩ (h1₅.at fun o e => up _ o D.i1z e) (h2₅.at fun o e => up _ o D.i2z e) hT₈ hz8 fun c o c1 c2 c3 c4 e => up c o c1 (hk₅ c o c1 c2 c3 c4 e)
  · simp only [Bool.false_eq_true, if_false]
    simp only [← Array.forIn_toList, List.forIn_cons, List.forIn_nil]
    refine wpAny_bind (wpAny_bind (wpAny_bind (wpAny_holding ?_)))
    show wpAny _ _ (Builtin.SmallTypes.nextOf (.ref i1) >>= _) _ _ _
    refine wpAny_bind (RZ.nextOf_tuple_item (h1.extBut hs₁.extBut D.i1z) (hl1.extBut hs₁.extBut D.l1z) hx fun h₂ h1₂ hs₂ => wpAny_pure (wpAny_pure ?_))
    refine wpAny_bind (wpAny_bind (wpAny_holding ?_))
    show wpAny _ _ (Builtin.SmallTypes.nextOf (.ref i2) >>= _) _ _ _
    refine wpAny_bind (RZ.nextOf_tuple_item ((h2.extBut hs₁.extBut D.i2z).extBut hs₂.extBut D.i12.symm) ((hl2.extBut hs₁.extBut D.l2z).extBut hs₂.extBut D.l2i1) hy fun h₃ h2₃ hs₃ => wpAny_pure (wpAny_pure (wpAny_pure ?_)))
    replace hs₂ : Heap.SameBut i1 h₁ h₂ := hs₂
    replace hs₃ : Heap.SameBut i2 h₂ h₃ := hs₃
    show wpAny _ _ (newTuple [x, y] >>= _) _ _ { s with heap := h₃ }
    refine wpAny_bind (wpAny_newTuple ?_)
    have hsz : h₃.objs.size = s.heap.objs.size := by rw [hs₃.1, hs₂.1, hs₁.1]
    refine wpAny_pure ⟨_, rfl, ?_⟩
    show Q (.ref h₃.objs.size) { s with heap := h₃.push { cls := .type "tuple", data := .seq #[x, y] } }
    have hz₃ : IsZipB (h₃.push { cls := .type "tuple", data := .seq #[x, y] }) z TI TO f0 true := Heap.get?_push_of_some _ (hs₃.extBut _ _ D.i2z.symm (hs₂.extBut _ _ D.i1z.symm hz₁))
    have up : ∀ c o, c ≠ z → c ≠ i1 → c ≠ i2 → s.heap.get? c = some o → (h₃.push { cls := .type "tuple", data := .seq #[x, y] }).get? c = some o := fun c o c1 c2 c3 e => Heap.get?_push_of_some _ (hs₃.extBut _ _ c3 (hs₂.extBut _ _ c2 (hs₁.extBut _ _ c1 e)))
    have hT : IsPair (h₃.push { cls := .type "tuple", data := .seq #[x, y] }) h₃.objs.size x y := Heap.get?_push_size _ rfl
    rw [hsz] at hT ⊢
    exact hQ _ f0 true hf hz₃ ⟨_, _, up _ _ D.TOz D.TOi1 D.TOi2 hTO⟩ ((h1₂.extBut hs₃.extBut D.i12).at fun o e => Heap.get?_push_of_some _ e) (h2₃.at fun o e => Heap.get?_push_of_some _ e) hT (by rw [Heap.size_push, hsz]) fun c o c1 _ c3 c4 e => up c o c1 c3 c4 e
theorem enumOver {e z : Addr} {i : Nat} {R : Value → Heap → Prop} {old : Value} {Q : Value → Shared → Prop} (he : IsEnum s.heap e z i old)
    (hin : ∀ (Q' : Value → Shared → Prop) (E' : Value → Shared → Prop), (∀ x h₁, R x h₁ → Q' x { s with heap := h₁ }) → wpAny (model prog w) A (Builtin.SmallTypes.nextOf (.ref z)) Q' E' s)
    (hRe : ∀ x h₁, R x h₁ → IsEnum h₁ e z i old)
    (hQ : ∀ x h₁ h', R x h₁ → IsEnumOut h' e z ((i : Int) + 1) x h₁.objs.size → h'.get? h₁.objs.size = some { cls := .type "tuple", data := .seq #[.int i s.toks, x] } → h'.objs.size = h₁.objs.size + 1 →
      (∀ b o, b ≠ e → h₁.get? b = some o → h'.get? b = some o) → Q (.ref h₁.objs.size) { s with heap := h', toks := s.toks + 1 }) :
    wpAny (model prog w) A (Builtin.«enumerate.__next__» ⟨[.ref e], []⟩) (fun fin s' => ∃ v, fin = .done (.ret v) ∧ Q v s') E s := by
  obtain ⟨hp, g, d, tk, os⟩ := s
  show wpAny _ _ (field (.ref e) 2 >>= _) _ _ _
  refine wpAny_bind (wpAny_field he rfl (x := .ref z) rfl ?_)
  refine wpAny_bind (hin _ _ fun x h₁ hR => ?_)
  have he₁ : IsEnum h₁ e z i old := hRe x h₁ hR
  show wpAny _ _ (field (.ref e) 3 >>= _) _ _ ⟨h₁, g, d, tk, os⟩
  refine wpAny_bind (wpAny_field he₁ rfl (x := rawInt i) rfl ?_)
  show wpAny _ _ (field (.ref e) 4 >>= _) _ _ ⟨h₁, g, d, tk, os⟩
  refine wpAny_bind (wpAny_field he₁ rfl (x := .none) rfl ?_)
  show wpAny _ _ (mkInt i >>= _) _ _ ⟨h₁, g, d, tk, os⟩
  refine wpAny_bind (wpAny_mkInt ?_)
  show wpAny _ _ (setField (.ref e) 3 (rawInt ((i : Int) + 1)) >>= _) _ _ ⟨h₁, g, d, tk + 1, os⟩
  refine wpAny_bind (wpAny_setField_rec he₁ (by simp) fun h₂ he₂ hs₂ => ?_)
  replace hs₂ : Heap.SameBut e h₁ h₂ := hs₂
  replace he₂ : IsEnum h₂ e z ((i : Int) + 1) old := he₂
  show wpAny _ _ (setField (.ref e) 4 .none >>= _) _ _ ⟨h₂, g, d, tk + 1, os⟩
  refine wpAny_bind (wpAny_setField_rec he₂ (by simp) fun h₃ he₃ hs₃ => ?_)
  replace hs₃ : Heap.SameBut e h₂ h₃ := hs₃
  replace he₃ : IsEnum h₃ e z ((i : Int) + 1) old := he₃
  show wpAny _ _ (newTuple [.int i tk, x] >>= _) _ _ ⟨h₃, g, d, tk + 1, os⟩
  refine wpAny_bind (wpAny_newTuple ?_)
  have he₄ : IsEnum (h₃.push { cls := .type "tuple", data := .seq #[.int i tk, x] }) e z ((i : Int) + 1) old := Heap.get?_push_of_some _ he₃
  generalize hh₄ : h₃.push { cls := .type "tuple", data := .seq #[.int i tk, x] } = h₄ at he₄
  have hsz : h₃.objs.size = h₁.objs.size := by rw [hs₃.1, hs₂.1]
  have hel : e < h₁.objs.size := Heap.lt_size he₁
  have ht₄ : h₄.get? h₁.objs.size = some { cls := .type "tuple", data := .seq #[.int i tk, x] } := by rw [← hh₄, ← hsz]; exact Heap.get?_push_size _ rfl
  have hz₄ : h₄.objs.size = h₁.objs.size + 1 := by rw [← hh₄, Heap.size_push, hsz]
  have hk₄ : ∀ b o, b ≠ e → h₁.get? b = some o → h₄.get? b = some o := fun b o hbe hb => by
    rw [← hh₄]; exact Heap.get?_push_of_some _ (hs₃.extBut b o hbe (hs₂.extBut b o hbe hb))
  show wpAny _ _ (Builtin.SmallTypes.ownedTupleIsFree (.ref e) >>= _) _ _ ⟨h₄, g, d, tk + 1, os⟩
  rw [hsz]
  clear hh₄ he₃ hs₃ he₂ hs₂ hsz h₃ h₂
  refine wpAny_bind ?_
  · unfold Builtin.SmallTypes.ownedTupleIsFree
    refine wpAny_bind (wpAny_field he₄ rfl (x := .none) rfl (wpAny_pure ?_))
    simp only [if_true]
    refine wpAny_bind (wpAny_rule ?_)
    refine wpAny_bind (wpAny_field he₄ rfl (x := old) rfl ?_)
    refine wpAny_bind (wpAny_setField_rec he₄ (by simp) fun h₅ he₅ hs₅ => ?_)
    replace hs₅ : Heap.SameBut e h₄ h₅ := hs₅
    replace he₅ : IsEnum h₅ e z ((i : Int) + 1) x := he₅
    show wpAny _ _ (Builtin.SmallTypes.ownedTupleHandOut (.ref e) (.ref h₁.objs.size) >>= _) _ _ ⟨h₅, g, d, tk + 1, os⟩
    refine wpAny_bind ?_
    · unfold Builtin.SmallTypes.ownedTupleHandOut
      refine wpAny_bind (wpAny_setField_rec he₅ (by simp) fun h₆ he₆ hs₆ => ?_)
      replace hs₆ : Heap.SameBut e h₅ h₆ := hs₆
      replace he₆ : IsEnumOut h₆ e z ((i : Int) + 1) x h₁.objs.size := he₆
      refine wpAny_setField_rec he₆ (by simp) fun h₇ he₇ hs₇ => ?_
      replace hs₇ : Heap.SameBut e h₆ h₇ := hs₇
      replace he₇ : IsEnumOut h₇ e z ((i : Int) + 1) x h₁.objs.size := he₇
      refine wpAny_bind (wpAny_letGo (wpAny_pure ⟨_, rfl, hQ x h₁ h₇ hR he₇ ?_ ?_ ?_⟩))
      · exact hs₇.extBut _ _ (Nat.ne_of_gt hel) (hs₆.extBut _ _ (Nat.ne_of_gt hel) (hs₅.extBut _ _ (Nat.ne_of_gt hel) ht₄))
      · rw [hs₇.1, hs₆.1, hs₅.1, hz₄]
      · exact fun b o hbe hb => hs₇.extBut b o hbe (hs₆.extBut b o hbe (hs₅.extBut b o hbe (hk₄ b o hbe hb)))
theorem zipB_end {z TI TO i1 i2 l1 l2 : Addr} {k1 k2 : Nat} {xs ys : Array Value} {a b f0 : Value} {fb : Bool} {Q : Fin → Shared → Prop} (hh : A.handled = none) (D : ZipApart z TI TO i1 i2 l1 l2) (hf : Idle f0)
    (hz : IsZipB s.heap z TI TO f0 fb) (hTI : IsPair s.heap TI (.ref i1) (.ref i2)) (hTO : IsPair s.heap TO a b)
    (h1 : s.heap.IsTupleIter i1 l1 k1) (h2 : s.heap.IsTupleIter i2 l2 k2) (hl1 : s.heap.IsTuple l1 xs) (hl2 : s.heap.IsTuple l2 ys) (hend : xs[k1]? = none ∨ ys[k2]? = none)
    (hE : ∀ h' e, (∀ c o, c ≠ z → c ≠ TO → c ≠ i1 → c ≠ i2 → s.heap.get? c = some o → h'.get? c = some o) → (∃ o, h'.get? e = some o ∧ o.cls = .type "StopIteration") → E (.ref e) { s with heap := h' }) :
    wpAny (model prog w) A (Builtin.«zip.__next__» ⟨[.ref z], []⟩) Q E s := by
  show wpAny _ _ (field (.ref z) 2 >>= _) _ _ _
  refine wpAny_bind (wpAny_field hz rfl (x := .bool false) rfl ?_)
  show wpAny _ _ (field (.ref z) 3 >>= _) _ _ _
  refine wpAny_bind (wpAny_field hz rfl (x := .ref TI) rfl ?_)
  refine wpAny_bind (wpAny_seqItems hTI rfl ?_)
  show wpAny _ _ (Builtin.SmallTypes.ownedTupleIsFree (.ref z) >>= _) _ _ _
  refine wpAny_bind (isFree hf hz ?_ fun h₁ hz₁ hs₁ => ?_)
  · simp only [if_true]
    refine wpAny_bind (wpAny_rule ?_)
    refine wpAny_bind (wpAny_field hz rfl (x := .ref TO) rfl ?_)
    refine wpAny_bind (wpAny_setField_rec hz (by simp) fun h₁ hz₁ hs₁ => ?_)
    replace hz₁ : IsZipB h₁ z TI TO .ellipsis fb := hz₁
    refine wpAny_bind ?_
    simp only [List.zipIdx_cons, List.zipIdx_nil, List.forIn_cons, List.forIn_nil]
    refine wpAny_bind (wpAny_bind (wpAny_onRaise ?_))
    show wpAny _ _ (Builtin.SmallTypes.nextOf (.ref i1) >>= _) _ _ _
    cases hx : xs[k1]? with
    | none =>
      refine wpAny_bind (RZ.nextOf_tuple_end hh (h1.extBut hs₁.extBut D.i1z) (hl1.extBut hs₁.extBut D.l1z) hx fun h₂ e hs₂ he => ?_)
      obtain ⟨oe, hoe, hce⟩ := he
      have hz₂ : IsZipB h₂ z TI TO .ellipsis fb := hs₂ _ _ D.i1z.symm hz₁
      have hez : e ≠ z := fun x => by subst x; rw [hz₂] at hoe; cases hoe; simp at hce
      refine wpAny_setField_rec hz₂ (by simp) fun h₃ _ hs₃ => hE h₃ e (fun c o c1 _ c3 _ x => hs₃.extBut _ _ c1 (hs₂ _ _ c3 (hs₁.extBut _ _ c1 x))) ⟨oe, hs₃.extBut _ _ hez hoe, hce⟩
    | some x =>
      have hy : ys[k2]? = none := by rcases hend with h | h; rw [hx] at h; cases h; exact h
      refine wpAny_bind (RZ.nextOf_tuple_item (h1.extBut hs₁.extBut D.i1z) (hl1.extBut hs₁.extBut D.l1z) hx fun h₂ h1₂ hs₂ => wpAny_pure ?_)
      have hTO₂ : IsPair h₂ TO a b := hs₂.extBut _ _ D.TOi1 (hs₁.extBut _ _ D.TOz hTO)
      refine wpAny_bind (wpAny_seqItems hTO₂ rfl ?_)
      refine wpAny_bind (wpAny_updateSeq_pair hTO₂ fun h₃ hTO₃ hs₃ => ?_)
      refine wpAny_bind (wpAny_letGo (wpAny_pure ?_))
      refine wpAny_bind (wpAny_bind (wpAny_onRaise ?_))
      show wpAny _ _ (Builtin.SmallTypes.nextOf (.ref i2) >>= _) _ _ _
      refine wpAny_bind (RZ.nextOf_tuple_end hh (((h2.extBut hs₁.extBut D.i2z).extBut hs₂.extBut D.i12.symm).extBut hs₃.extBut D.TOi2.symm)
        (((hl2.extBut hs₁.extBut D.l2z).extBut hs₂.extBut D.l2i1).extBut hs₃.extBut D.l2TO) hy fun h₄ e hs₄ he => ?_)
      obtain ⟨oe, hoe, hce⟩ := he
      have hz₄ : IsZipB h₄ z TI TO .ellipsis fb := hs₄ _ _ D.i2z.symm (hs₃.extBut _ _ D.TOz.symm (hs₂.extBut _ _ D.i1z.symm hz₁))
      have hez : e ≠ z := fun x => by subst x; rw [hz₄] at hoe; cases hoe; simp at hce
      refine wpAny_setField_rec hz₄ (by simp) fun h₅ _ hs₅ => hE h₅ e (fun c o c1 c2 c3 c4 x => hs₅.extBut _ _ c1 (hs₄ _ _ c4 (hs₃.extBut _ _ c2 (hs₂.extBut _ _ c3 (hs₁.extBut _ _ c1 x))))) ⟨oe, hs₅.extBut _ _ hez hoe, hce⟩
  · simp only [Bool.false_eq_true, if_false]
    simp only [← Array.forIn_toList, List.forIn_cons, List.forIn_nil]
    refine wpAny_bind (wpAny_bind (wpAny_bind (wpAny_holding ?_)))
    show wpAny _ _ (Builtin.SmallTypes.nextOf (.ref i1) >>= _) _ _ _
    cases hx : xs[k1]? with
    | none => exact wpAny_bind (RZ.nextOf_tuple_end hh (h1.extBut hs₁.extBut D.i1z) (hl1.extBut hs₁.extBut D.l1z) hx fun h₂ e hs₂ he => hE h₂ e (fun c o c1 _ c3 _ x => hs₂ _ _ c3 (hs₁.extBut _ _ c1 x)) he)
    | some x =>
      have hy : ys[k2]? = none := by rcases hend with h | h; rw [hx] at h; cases h; exact h
      refine wpAny_bind (RZ.nextOf_tuple_item (h1.extBut hs₁.extBut D.i1z) (hl1.extBut hs₁.extBut D.l1z) hx fun h₂ h1₂ hs₂ => wpAny_pure (wpAny_pure ?_))
      refine wpAny_bind (wpAny_bind (wpAny_holding ?_))
      show wpAny _ _ (Builtin.SmallTypes.nextOf (.ref i2) >>= _) _ _ _
      exact wpAny_bind (RZ.nextOf_tuple_end hh ((h2.extBut hs₁.extBut D.i2z).extBut hs₂.extBut D.i12.symm) ((hl2.extBut hs₁.extBut D.l2z).extBut hs₂.extBut D.l2i1) hy fun h₃ e hs₃ he =>
        hE h₃ e (fun c o c1 _ c3 c4 x => hs₃ _ _ c4 (hs₂.extBut _ _ c3 (hs₁.extBut _ _ c1 x))) he)
/-- all of an enumerate over a zip of two tuples -/
def Six (h : Heap) (e z TI TO i1 i2 a b : Addr) (i : Nat) : Prop := (∃ old, IsEnum h e z ((i : Nat) : Int) old) ∧ (∃ f0 fb, Idle f0 ∧ IsZipB h z TI TO f0 fb) ∧ IsPair h TI (.ref i1) (.ref i2) ∧ (∃ x y, IsPair h TO x y) ∧ h.IsTupleIter i1 a i ∧ h.IsTupleIter i2 b i
/-- apart -/
structure Apart6 (e z TI TO i1 i2 a b : Addr) : Prop extends ZipApart z TI TO i1 i2 a b where
  ez : e ≠ z
  eTI : e ≠ TI
  eTO : e ≠ TO
  ei1 : e ≠ i1
  ei2 : e ≠ i2
theorem pyNext_item {e z TI TO i1 i2 l1 l2 : Addr} {i : Nat} {xs ys : Array Value} {x y : Value} {Q : Option Value → Shared → Prop} (D : Apart6 e z TI TO i1 i2 l1 l2) (st : Six s.heap e z TI TO i1 i2 l1 l2 i)
    (hl1 : s.heap.IsTuple l1 xs) (hl2 : s.heap.IsTuple l2 ys) (hx : xs[i]? = some x) (hy : ys[i]? = some y)
    (hQ : ∀ h₁ h', (∀ c o, c ≠ z → c ≠ TO → c ≠ i1 → c ≠ i2 → s.heap.get? c = some o → h₁.get? c = some o) → IsPair h₁ s.heap.objs.size x y → h₁.objs.size = s.heap.objs.size + 1 → (∀ b o, b ≠ e → h₁.get? b = some o → h'.get? b = some o) →
      IsEnumOut h' e z ((i : Int) + 1) (.ref s.heap.objs.size) (s.heap.objs.size + 1) → h'.get? (s.heap.objs.size + 1) = some { cls := .type "tuple", data := .seq #[.int i s.toks, .ref s.heap.objs.size] } → h'.objs.size = s.heap.objs.size + 2 →
      (∃ f0 fb, Idle f0 ∧ IsZipB h' z TI TO f0 fb) → IsPair h' TI (.ref i1) (.ref i2) → (∃ x y, IsPair h' TO x y) → h'.IsTupleIter i1 l1 (i + 1) → h'.IsTupleIter i2 l2 (i + 1) → Q (some (.ref (s.heap.objs.size + 1))) { s with heap := h', toks := s.toks + 1 }) :
    wpAny (model prog w) A (pyNext (.ref e)) Q E s := by
  obtain ⟨⟨old, he⟩, ⟨f0, fb, hf, hz⟩, hTI, ⟨tx, ty, hTO⟩, h1, h2⟩ := st
  have hT : s.TypeIs (.ref e) "enumerate" := ⟨_, he, rfl⟩
  have hTz : s.TypeIs (.ref z) "zip" := ⟨_, hz, rfl⟩
  unfold pyNext
  refine wpAny_bind (wpAny_attempt (wpAny_callSpecial?_slot (name := Str.ofString "__next__") hT F.slot_enumerate_next
    (wpAny_call_entry F.slot_enumerate_next hT F.entry_enumerate_next (enumOver (R := fun v h₁ => v = .ref s.heap.objs.size ∧ (∃ f0 fb, Idle f0 ∧ IsZipB h₁ z TI TO f0 fb) ∧ (∃ x y, IsPair h₁ TO x y) ∧ h₁.IsTupleIter i1 l1 (i + 1) ∧ h₁.IsTupleIter i2 l2 (i + 1) ∧
      IsPair h₁ s.heap.objs.size x y ∧ h₁.objs.size = s.heap.objs.size + 1 ∧ ∀ c o, c ≠ z → c ≠ TO → c ≠ i1 → c ≠ i2 → s.heap.get? c = some o → h₁.get? c = some o) he (fun Q' E' hq => ?_) (fun v h₁ r => r.2.2.2.2.2.2.2 _ _ D.ez D.eTO D.ei1 D.ei2 he) fun v h₁ h' r a1 a2 a3 a4 => ?_) (F.args_enumerate_next_1 _))))
  · unfold Builtin.SmallTypes.nextOf
    refine wpAny_bind (wpAny_callSpecial?_slot (name := Str.ofString "__next__") hTz F.slot_zip_next (wpAny_call_entry F.slot_zip_next hTz F.entry_zip_next ?_ (F.args_zip_next_1 _)))
    exact zipB_next D.toZipApart hf hz hTI hTO h1 h2 hl1 hl2 hx hy fun h' f0' fb' b1 b2 b3 b4 b5 b6 b7 b8 => wpAny_pure (hq _ _ ⟨rfl, ⟨f0', fb', b1, b2⟩, b3, b4, b5, b6, b7, b8⟩)
  · obtain ⟨rfl, ⟨f0', fb', r1, r2⟩, ⟨tx', ty', r3⟩, r4, r5, r6, r7, r8⟩ := r
    rw [r7] at a1 a2 a3 ⊢
    refine wpAny_pure (hQ h₁ h' r8 r6 r7 a4 a1 a2 a3 ⟨f0', fb', r1, a4 _ _ D.ez.symm r2⟩ (a4 _ _ D.eTI.symm (r8 _ _ D.TIz D.TITO D.TIi1 D.TIi2 hTI)) ⟨_, _, a4 _ _ D.eTO.symm r3⟩ (r4.at fun o e => a4 _ o D.ei1.symm e) (r5.at fun o e => a4 _ o D.ei2.symm e))
theorem pyNext_end {e z TI TO i1 i2 l1 l2 : Addr} {i : Nat} {xs ys : Array Value} {Q : Option Value → Shared → Prop} (hh : A.handled = none) (D : Apart6 e z TI TO i1 i2 l1 l2) (st : Six s.heap e z TI TO i1 i2 l1 l2 i)
    (hl1 : s.heap.IsTuple l1 xs) (hl2 : s.heap.IsTuple l2 ys) (hend : xs[i]? = none ∨ ys[i]? = none)
    (hQ : ∀ h', (∀ c o, c ≠ z → c ≠ TO → c ≠ i1 → c ≠ i2 → s.heap.get? c = some o → h'.get? c = some o) → Q none { s with heap := h' }) : wpAny (model prog w) A (pyNext (.ref e)) Q E s := by
  obtain ⟨⟨old, he⟩, ⟨f0, fb, hf, hz⟩, hTI, ⟨tx, ty, hTO⟩, h1, h2⟩ := st
  have hT : s.TypeIs (.ref e) "enumerate" := ⟨_, he, rfl⟩
  have hTz : s.TypeIs (.ref z) "zip" := ⟨_, hz, rfl⟩
  unfold pyNext
  refine wpAny_bind (wpAny_attempt (wpAny_callSpecial?_slot (name := Str.ofString "__next__") hT F.slot_enumerate_next (wpAny_call_entry F.slot_enumerate_next hT F.entry_enumerate_next ?_ (F.args_enumerate_next_1 _))))
  show wpAny _ _ (field (.ref e) 2 >>= _) _ _ _
  refine wpAny_bind (wpAny_field he rfl (x := .ref z) rfl ?_)
  refine wpAny_bind ?_
  unfold Builtin.SmallTypes.nextOf
  refine wpAny_bind (wpAny_callSpecial?_slot (name := Str.ofString "__next__") hTz F.slot_zip_next (wpAny_call_entry F.slot_zip_next hTz F.entry_zip_next ?_ (F.args_zip_next_1 _)))
  refine zipB_end hh D.toZipApart hf hz hTI hTO h1 h2 hl1 hl2 hend fun h' y hk hy => ?_
  obtain ⟨o, ho, hc⟩ := hy
  refine wpAny_bind (wpAny_isInstance (T := "StopIteration") (b := true) ⟨o, ho, hc⟩ isSubtype_stop ?_)
  exact wpAny_pure (hQ _ hk)
end
end EZ

/-! DL28: such a walk tracked. -/
namespace EZ
open PySem PySem.Spec PyProof.Rows L2
open AutoSeq1 (wpAny_loadPart')
/-! ### enumerate(z), z a zip -/
theorem meetsZ (z TI TO : Addr) :
    Meets (Builtin.«enumerate.__new__» ⟨[.type "enumerate", .ref z], []⟩) (fun _ R s => IsZip s.heap z TI TO .none ∧
      R (.ok (.ret (.ref s.heap.objs.size))) { s with heap := s.heap.push { cls := .type "enumerate", data := .fields #[.none, .bool false, .ref z, rawInt 0, .none, .none] } }) :=
  .of_wp fun prog w A R s got => by
    obtain ⟨hp, g, d, tk, os⟩ := s
    obtain ⟨hl, h⟩ := got
    have sub := sub_enumerate
    have hT : IsZip (Shared.heap ⟨hp, g, d, tk, os⟩) z TI TO .none := hl
    wp_walk using wpAny_loadPart' hl
    refine wpAny_stack_any fun st => wpAny_pure ?_
    split
    · rename_i c _ _ _ _ _
      cases (c == Value.type "enumerate")
      all_goals
        wp_walk using wpAny_loadPart' hl, wpAny_pyIter_zip hT
        exact ⟨_, rfl, h⟩
    · wp_walk using wpAny_loadPart' hl, wpAny_pyIter_zip hT
      exact ⟨_, rfl, h⟩
theorem callZ {prog : Program} {w : World} {A : Around} {E : Value → Shared → Prop} {s : Shared} {z TI TO : Addr} {Q : Value → Shared → Prop} (hz : IsZip s.heap z TI TO .none)
    (h : ∀ h', IsEnum h' s.heap.objs.size z 0 .none → (∀ b o, s.heap.get? b = some o → h'.get? b = some o) → Q (.ref s.heap.objs.size) { s with heap := h' }) :
    wpAny (model prog w) A (call (.type "enumerate") [.ref z]) Q E s := by
  refine callType_new F.called_enumerate (by decide) (F.typeCall_enumerate_1 _) (F.newCall_enumerate_1 _) (fun obj => F.args_object_init_2 obj _) F.entry_enumerate_new (meetsZ z TI TO) ⟨hz, ?_⟩
  have e : IsEnum (s.heap.push { cls := .type "enumerate", data := .fields #[.none, .bool false, .ref z, rawInt 0, .none, .none] }) s.heap.objs.size z 0 .none := Heap.get?_push_size _ rfl
  exact ⟨⟨_, e, rfl⟩, h _ e fun b o x => Heap.get?_push_of_some _ x⟩
/-! ### what is tracked -/
def EO (e z : Addr) : HO := .ext fun h => IsEnum h e z 0 .none
def ZO (z TI TO : Addr) : HO := .ext fun h => IsZip h z TI TO .none
def PO (T : Addr) (x y : Value) : HO := .ext fun h => IsPair h T x y
def TO' (i a : Addr) : HO := .ext fun h => h.IsTupleIter i a 0
section
variable {P : Program} {w : World} {H : Hp} {h : Heap}
theorem eo_ok {e z : Addr} (q : IsEnum h e z 0 .none) : ObjOk P w H h e (EO e z) := ⟨q, ⟨_, q⟩, fun h1 h2 q k => k _ q⟩
theorem zo_ok {z TI TO : Addr} (q : IsZip h z TI TO .none) : ObjOk P w H h z (ZO z TI TO) := ⟨q, ⟨_, q⟩, fun h1 h2 q k => k _ q⟩
theorem po_ok {T : Addr} {x y : Value} (q : IsPair h T x y) : ObjOk P w H h T (PO T x y) := ⟨q, ⟨_, q⟩, fun h1 h2 q k => k _ q⟩
theorem to_ok {i a : Addr} (q : h.IsTupleIter i a 0) : ObjOk P w H h i (TO' i a) := ⟨q, (let ⟨o, e, _⟩ := q; ⟨o, e⟩), fun h1 h2 q k => q.at fun o e => k o e⟩
end
theorem na {i j : Nat} (h : i < j ∨ j < i) : @Ne Addr i j := fun e => by
  have e : i = j := e
  omega
def lay5 (H : Hp) (z TI TO i1 i2 a b : Addr) : Hp := upd (upd (upd (upd (upd H i1 (TO' i1 a)) i2 (TO' i2 b)) TI (PO TI (.ref i1) (.ref i2))) TO (PO TO .none .none)) z (ZO z TI TO)
def lay6 (H : Hp) (e z TI TO i1 i2 a b : Addr) : Hp := upd (lay5 H z TI TO i1 i2 a b) e (EO e z)
/-- five new ones -/
structure New5 (H : Hp) (n : Nat) (z TI TO i1 i2 : Addr) : Prop where
  z0 : H z = none
  TI0 : H TI = none
  TO0 : H TO = none
  i10 : H i1 = none
  i20 : H i2 = none
  zn : n ≤ z
  TIn : n ≤ TI
  TOn : n ≤ TO
  i1n : n ≤ i1
  i2n : n ≤ i2
section
variable {X : Cx} {j k : Nat} {xj xk : Str} {p1 p2 p3 p4 pos1 pos2 : Pos}
def tZp (K : PySem.W.Frag) (n j k : Nat) : TE := fun σ H Q => ∃ (a b : Addr) (xs ys : List V), σ[j]? = some (some (.ref a)) ∧ σ[k]? = some (some (.ref b)) ∧ SqT K H a xs ∧ SqT K H b ys ∧
  ∀ z TI TO i1 i2, ZipApart z TI TO i1 i2 a b → New5 H n z TI TO i1 i2 → Q (.ref z) (lay5 H z TI TO i1 i2 a b)
theorem pe_zp (hg : Gl X "zip") (hm : X.mg "zip" = none) (hj : X.N[j]? = some xj) (hk : X.N[k]? = some xk) (vj : Vis X.env.scope xj) (vk : Vis X.env.scope xk) (dj : (xj == ("__debug__" : Str)) = false) (dk : (xk == ("__debug__" : Str)) = false) (cj : (xj == ("__classdict__" : Str)) = false) (ck : (xk == ("__classdict__" : Str)) = false)
    (hs : starEach [.Name xj p3, .Name xk p4] X.env = (false, eval (.Name xj p3) X.env) :: starEach [.Name xk p4] X.env := by rfl) (hpl : (backTo pos2 (starEach [.Name xk p4] X.env)).any (·.1) = false := by rfl) :
    PE X (.Call (.Name "zip" p2) [.Name xj p3, .Name xk p4] [] pos2) (tZp X.K X.s_0.heap.objs.size j k) := by
  refine ⟨fun pins s σ H Q I h => ?_⟩
  obtain ⟨a, b, xs, ys, ea, eb, hqx, hqy, q⟩ := h
  have ha : PA X [.Name xj p3, .Name xk p4] _ := pa_cons (pe_var (pos := p3) (i := j) hj vj dj cj) (pa_cons (pe_var (pos := p4) (i := k) hk vk dk ck) pa_nil)
  refine Call_ (ld_blt I hg hm PyProof.Rows.boot_zip (PyProof.Rows.callWith_type1 (thn (ha.run pos2 pins s σ H (fun vs H1 => vs = [V.ref a, V.ref b] ∧ H1 = H) I ⟨_, ea, _, eb, rfl, rfl⟩) fun us s1 ⟨vs, H1, I1, r1, ev, eH⟩ => ?_) hs hpl))
  subst ev
  rw [eH] at I1
  cases r1 with
  | cons r rr =>
    cases rr with
    | cons r' rr =>
      cases rr
      cases r
      cases r'
      obtain ⟨its, rv, q1, _⟩ := I1.tuple hqx
      obtain ⟨its2, rv2, q2, _⟩ := I1.tuple hqy
      obtain ⟨o1, ho1, _⟩ := id q1
      obtain ⟨o2, ho2, _⟩ := id q2
      refine RZ.call_zipT (show s1.heap.IsTuple a its.toArray from q1) (show s1.heap.IsTuple b its2.toArray from q2) fun h' hz hTI hTO h1 h2 hsz hk' => ?_
      have I2 : Inv X pins σ H { s1 with heap := h' } := I1.kept (t' := s1.toks) hk'
      have fr : ∀ n, s1.heap.objs.size ≤ n → H n = none := fun n hn => I1.hok.fresh hn
      have D := PySem.W.ktu_apart s1.heap.objs.size a b (Heap.lt_size ho1) (Heap.lt_size ho2)
      have fp : ∀ (H' : Hp) n, s1.heap.objs.size ≤ n → H' n = none → FpOk X pins H' n := fun H' n hn e => I1.fpOk hn e
      generalize hn : s1.heap.objs.size = n at *
      have e1 : H n = none := fr _ (Nat.le_refl _)
      have J1 := I2.take (t' := s1.toks) (o := TO' n a) (fun _ _ _ e => e) (fp H n (Nat.le_refl _) e1) (to_ok h1)
      have e2 : upd H n (TO' n a) (n + 1) = none := by rw [upd_ne (na (by omega))]; exact fr _ (by omega)
      have J2 := J1.take (t' := s1.toks) (o := TO' (n + 1) b) (fun _ _ _ e => e) (fp _ (n + 1) (by omega) e2) (to_ok h2)
      have e3 : upd (upd H n (TO' n a)) (n + 1) (TO' (n + 1) b) (n + 2) = none := by rw [upd_ne (na (by omega)), upd_ne (na (by omega))]; exact fr _ (by omega)
      have J3 := J2.take (t' := s1.toks) (o := PO (n + 2) (.ref n) (.ref (n + 1))) (fun _ _ _ e => e) (fp _ (n + 2) (by omega) e3) (po_ok hTI)
      have e4 : upd (upd (upd H n (TO' n a)) (n + 1) (TO' (n + 1) b)) (n + 2) (PO (n + 2) (.ref n) (.ref (n + 1))) (n + 3) = none := by rw [upd_ne (na (by omega)), upd_ne (na (by omega)), upd_ne (na (by omega))]; exact fr _ (by omega)
      have J4 := J3.take (t' := s1.toks) (o := PO (n + 3) .none .none) (fun _ _ _ e => e) (fp _ (n + 3) (by omega) e4) (po_ok hTO)
      have e5 : upd (upd (upd (upd H n (TO' n a)) (n + 1) (TO' (n + 1) b)) (n + 2) (PO (n + 2) (.ref n) (.ref (n + 1)))) (n + 3) (PO (n + 3) .none .none) (n + 4) = none := by rw [upd_ne (na (by omega)), upd_ne (na (by omega)), upd_ne (na (by omega)), upd_ne (na (by omega))]; exact fr _ (by omega)
      have J5 := J4.take (t' := s1.toks) (o := ZO (n + 4) (n + 2) (n + 3)) (fun _ _ _ e => e) (fp _ (n + 4) (by omega) e5) (zo_ok hz)
      have sz : X.s_0.heap.objs.size ≤ n := by rw [← hn]; exact I1.sz
      exact ⟨.ref (n + 4), _, J5, rfl, q (n + 4) (n + 2) (n + 3) n (n + 1) D ⟨fr _ (by omega), fr _ (by omega), fr _ (by omega), fr _ (by omega), fr _ (by omega), by omega, by omega, by omega, by omega, by omega⟩⟩
def tEn (n : Nat) (te : TE) : TE := fun σ H Q => te σ H fun v H1 => ∃ z TI TO, v = .ref z ∧ H1 z = some (ZO z TI TO) ∧ ∀ e, H1 e = none → n ≤ e → Q (.ref e) (upd H1 e (EO e z))
theorem pe_en1 {e0 : Expr} {te : TE} (hg : Gl X "enumerate") (hm : X.mg "enumerate" = none) (he : PE X e0 te) (hs : starEach [e0] X.env = (false, eval e0 X.env) :: starEach [] X.env := by rfl) :
    PE X (.Call (.Name "enumerate" p1) [e0] [] pos1) (tEn X.s_0.heap.objs.size te) := by
  refine ⟨fun pins s σ H Q I h => ?_⟩
  have ha : PA X [e0] _ := pa_cons he pa_nil hs
  refine Call_ (ld_blt I hg hm boot_enumerate (callWith_type1 (thn (ha.run pos1 pins s σ H (fun vs H1 => match vs with
    | [v] => ∃ z TI TO, v = .ref z ∧ H1 z = some (ZO z TI TO) ∧ ∀ e, H1 e = none → X.s_0.heap.objs.size ≤ e → Q (.ref e) (upd H1 e (EO e z))
    | _ => False) I h) fun us s1 ⟨vs, H1, I1, r1, q0⟩ => ?_) hs rfl))
  dsimp only at q0
  split at q0
  · obtain ⟨z, TI, TO, rfl, hz, q⟩ := q0
    cases r1 with
    | cons r rr =>
      cases rr
      cases r
      refine callZ (I1.hok z _ hz).1 fun h' he' hk' => ?_
      have J := I1.laid (t' := s1.toks) (o := EO s1.heap.objs.size z) hk' (Nat.le_refl _) (eo_ok he')
      exact ⟨.ref s1.heap.objs.size, _, J, rfl, q _ (I1.hok.fresh (Nat.le_refl _)) I1.sz⟩
  · exact q0.elim
/-! ### the walk -/
def ItEZ (K : PySem.W.Frag) (a b : Addr) : It :=
  ⟨fun i H => ∃ (xs ys : List V) (x y : V), SqT K H a xs ∧ SqT K H b ys ∧ xs[i]? = some x ∧ ys[i]? = some y,
    fun i H v H' => ∃ (T U : Addr) (x y : V), v = .ref U ∧ H T = none ∧ upd H T (.tup [x, y]) U = none ∧ H' = upd (upd H T (.tup [x, y])) U (.tup [.int (i : Nat), .ref T]) ∧ (∀ xs, SqT K H a xs → xs[i]? = some x) ∧ ∀ ys, SqT K H b ys → ys[i]? = some y,
    fun i H => ∃ xs ys : List V, SqT K H a xs ∧ SqT K H b ys ∧ (xs.length ≤ i ∨ ys.length ≤ i)⟩
theorem turnEZ {P : Program} {w : World} {K : PySem.W.Frag} {elts : List Expr} {kk : Nat} {tpos : Pos} {e z TI TO i1 i2 a b : Addr} (D : Apart6 e z TI TO i1 i2 a b) :
    Turn P w K (.Tuple elts kk tpos) (ItEZ K a b) [e, z, TI, TO, i1, i2] e (fun i h => Six h e z TI TO i1 i2 a b i) where
  mem := by simp
  obj := fun i h st c hc => by
    obtain ⟨⟨old, he⟩, ⟨f0, fb, hf, hz⟩, hTI, ⟨tx, ty, hTO⟩, ⟨o1, q1, _, d1⟩, ⟨o2, q2, _, d2⟩⟩ := st
    have e' : c = e ∨ c = z ∨ c = TI ∨ c = TO ∨ c = i1 ∨ c = i2 := by simpa using hc
    rcases e' with q | q | q | q | q | q
    · rw [q]; exact ⟨_, he, fun v q => nomatch q⟩
    · rw [q]; exact ⟨_, hz, fun v q => nomatch q⟩
    · rw [q]; exact ⟨_, hTI, fun v q => nomatch q⟩
    · rw [q]; exact ⟨_, hTO, fun v q => nomatch q⟩
    · rw [q]; exact ⟨o1, q1, fun v q => by rw [d1] at q; cases q⟩
    · rw [q]; exact ⟨o2, q2, fun v q => by rw [d2] at q; cases q⟩
  keep := fun i h h' st k => by
    obtain ⟨⟨old, he⟩, ⟨f0, fb, hf, hz⟩, hTI, ⟨tx, ty, hTO⟩, h1, h2⟩ := st
    exact ⟨⟨old, k e (by simp) _ he⟩, ⟨f0, fb, hf, k z (by simp) _ hz⟩, k TI (by simp) _ hTI, ⟨tx, ty, k TO (by simp) _ hTO⟩, h1.at fun o q => k i1 (by simp) o q, h2.at fun o q => k i2 (by simp) o q⟩
  item := by
    intro X hP hw hK hc i pins s σ H E I hf st hg
    subst hP hw hK
    obtain ⟨xs, ys, x, y, hqx, hqy, hx, hy⟩ := hg
    obtain ⟨its, rv, p, _⟩ := I.tuple hqx
    obtain ⟨its2, rv2, p2, _⟩ := I.tuple hqy
    obtain ⟨u, hu, ru⟩ := rv.get hx
    obtain ⟨u2, hu2, ru2⟩ := rv2.get hy
    have lts : ∀ c ∈ [e, z, TI, TO, i1, i2], c < s.heap.objs.size := by
      obtain ⟨⟨old, he⟩, ⟨f0, fb, hf, hz⟩, hTI, ⟨tx, ty, hTO⟩, ⟨o1, q1, _, d1⟩, ⟨o2, q2, _, d2⟩⟩ := st
      intro c hc
      have e' : c = e ∨ c = z ∨ c = TI ∨ c = TO ∨ c = i1 ∨ c = i2 := by simpa using hc
      rcases e' with q | q | q | q | q | q
      · rw [q]; exact Heap.lt_size he
      · rw [q]; exact Heap.lt_size hz
      · rw [q]; exact Heap.lt_size hTI
      · rw [q]; exact Heap.lt_size hTO
      · rw [q]; exact Heap.lt_size q1
      · rw [q]; exact Heap.lt_size q2
    have hel := lts e (by simp)
    refine pyNext_item D st p p2 (x := u) (y := u2) (by simpa using hu) (by simpa using hu2) fun h₁ h' hk1 hT1 hs1 hk2 he' hU hs2 q1 q2 q3 q4 q5 => ?_
    refine ⟨_, rfl, wpAny_letOwnedTupleGo_enum (s := { s with heap := h', toks := s.toks + 1 }) he' fun h'' he'' sb => ?_⟩
    generalize hn : s.heap.objs.size = n at *
    have up1 : ∀ c o, c ∉ [e, z, TI, TO, i1, i2] → s.heap.get? c = some o → h₁.get? c = some o := fun c o hc q => hk1 c o (fun z => hc (by simp [z])) (fun z => hc (by simp [z])) (fun z => hc (by simp [z])) (fun z => hc (by simp [z])) q
    have new1 : ObjOk X.prog X.w (upd H n (.tup [x, y])) h₁ n (.tup [x, y]) := ⟨by show 2 ≤ sizeLine; decide, [u, u2], .cons ru (.cons ru2 .nil), ⟨_, hT1, rfl, _, rfl⟩⟩
    have I1 : Inv X pins σ (upd H n (.tup [x, y])) { s with heap := h₁ } := I.turnedNew (t' := s.toks) (ch := [e, z, TI, TO, i1, i2]) up1 hf (Nat.le_of_eq hn) new1
    have fe : ∀ c ∈ [e], FpOk X pins (upd H n (.tup [x, y])) c := fun c hc => by
      have ec : c = e := by simpa using hc
      subst ec
      obtain ⟨f0, f1⟩ := hf c (by simp)
      exact ⟨by rw [upd_ne (Nat.ne_of_lt hel)]; exact f0, f1⟩
    have hU2 : h''.get? (n + 1) = some { cls := .type "tuple", data := .seq #[.int i s.toks, .ref n] } := (sb.2 _ (Nat.ne_of_gt (Nat.lt_succ_of_lt hel))).trans hU
    have new2 : ObjOk X.prog X.w (upd (upd H n (.tup [x, y])) (n + 1) (.tup [.int (i : Nat), .ref n])) h'' (n + 1) (.tup [.int (i : Nat), .ref n]) :=
      ⟨by show 2 ≤ sizeLine; decide, [.int i s.toks, .ref n], .cons ⟨_, rfl⟩ (.cons rfl .nil), ⟨_, hU2, rfl, _, rfl⟩⟩
    have I2 : Inv X pins σ (upd (upd H n (.tup [x, y])) (n + 1) (.tup [.int (i : Nat), .ref n])) { s with heap := h'', toks := s.toks + 1 } :=
      I1.turnedNew (t' := s.toks + 1) (ch := [e]) (fun c o hc q => (sb.2 c fun z => hc (by simp [z])).trans (hk2 c o (fun z => hc (by simp [z])) q)) fe (Nat.le_of_eq hs1) new2
    have hT0 : H n = none := I.hok.fresh (Nat.le_of_eq hn)
    refine ⟨.ref (n + 1), _, I2, rfl, ⟨n, n + 1, x, y, rfl, hT0, I1.hok.fresh (Nat.le_of_eq hs1), rfl, fun l hl => by rw [I.tuple_inj hl hqx]; exact hx, fun l hl => by rw [I.tuple_inj hl hqy]; exact hy⟩, ?_, fun c hcm => ?_⟩
    · have sb2 : ∀ c o, c ≠ e → h'.get? c = some o → h''.get? c = some o := fun c o hc q => (sb.2 c hc).trans q
      obtain ⟨g0, gb, gi, gz⟩ := q1
      obtain ⟨gx, gy, gT⟩ := q3
      refine ⟨⟨.ref n, ?_⟩, ⟨g0, gb, gi, sb2 _ _ D.ez.symm gz⟩, sb2 _ _ D.eTI.symm q2, ⟨gx, gy, sb2 _ _ D.eTO.symm gT⟩, q4.at fun o q => sb2 _ o D.ei1.symm q, q5.at fun o q => sb2 _ o D.ei2.symm q⟩
      · rw [show ((i + 1 : Nat) : Int) = (i : Int) + 1 by omega]; exact he''
    · have hlt := lts c hcm
      rw [upd_ne (Nat.ne_of_lt (Nat.lt_succ_of_lt hlt)), upd_ne (Nat.ne_of_lt hlt)]
      exact (hf c hcm).1
  done := by
    intro X hP hw hK hc i pins s σ H E I hf st hg
    subst hP hw hK
    obtain ⟨xs, ys, hqx, hqy, hend⟩ := hg
    obtain ⟨its, rv, p, _⟩ := I.tuple hqx
    obtain ⟨its2, rv2, p2, _⟩ := I.tuple hqy
    have l1 := rv.length
    have l2 := rv2.length
    have he : its.toArray[i]? = none ∨ its2.toArray[i]? = none := by
      rcases hend with q | q
      · exact .inl (by simp; omega)
      · exact .inr (by simp; omega)
    exact pyNext_end (I.ok.hd hc) D st p p2 he fun h' hk => ⟨rfl, I.turnedL (t' := s.toks) (ch := [e, z, TI, TO, i1, i2]) (fun c o hb q =>
      hk c o (fun q' => hb (by simp [q'])) (fun q' => hb (by simp [q'])) (fun q' => hb (by simp [q'])) (fun q' => hb (by simp [q'])) q) hf⟩
  self := fun A i s Q E st h => let ⟨⟨_, he⟩, _⟩ := st; wpAny_pyIter_enum he h
theorem walkEZ {K : PySem.W.Frag} {a b : Addr} {xs ys : List V} {n : Nat} (hn : n = min xs.length ys.length) : Walk (ItEZ K a b) n (fun H => SqT K H a xs ∧ SqT K H b ys)
    (fun i H v H' => ∃ (T U : Addr) (x y : V), v = .ref U ∧ H T = none ∧ upd H T (.tup [x, y]) U = none ∧ H' = upd (upd H T (.tup [x, y])) U (.tup [.int (i : Nat), .ref T]) ∧ xs[i]? = some x ∧ ys[i]? = some y) := by
  subst hn
  refine ⟨fun i _ hi q => ⟨xs, ys, xs[i]'(by omega), ys[i]'(by omega), q.1, q.2, List.getElem?_eq_getElem _, List.getElem?_eq_getElem _⟩, fun _ q => ⟨xs, ys, q.1, q.2, by omega⟩, fun i H v H' _ q y => ?_⟩
  obtain ⟨T, U, x, z, h1, h2, h3, h4, h5, h6⟩ := y
  exact ⟨T, U, x, z, h1, h2, h3, h4, h5 xs q.1, h6 ys q.2⟩
/-- i holds such an enumerate over what j and k hold -/
def Held (n i j k : Nat) (σ : L2.St) (H H1 : Hp) : Prop := ∃ (e z TI TO i1 i2 a b : Addr), σ[i]? = some (some (.ref e)) ∧ σ[j]? = some (some (.ref a)) ∧ σ[k]? = some (some (.ref b)) ∧ Apart6 e z TI TO i1 i2 a b ∧ New5 H1 n z TI TO i1 i2 ∧ H1 e = none ∧ n ≤ e ∧ H = lay6 H1 e z TI TO i1 i2 a b
/-- .. walked -/
def iHl (K : PySem.W.Frag) (n i j k : Nat) (w : TI) : TI := fun σ H R => ∃ H1, Held n i j k σ H H1 ∧ w σ H1 fun J H2 => H2 = H1 ∧ ∃ a b : Addr, σ[j]? = some (some (.ref a)) ∧ σ[k]? = some (some (.ref b)) ∧ R (ItEZ K a b) H1
theorem pi_hl {i : Nat} {x : Str} {p tpos : Pos} {elts : List Expr} {kk : Nat} (hN : X.N[i]? = some x) (hv : Vis X.env.scope x) (hd : (x == ("__debug__" : Str)) = false := by decide) (hcd : (x == ("__classdict__" : Str)) = false := by decide) :
    PI X (.Tuple elts kk tpos) (.Name x p) (fun σ H R => ∃ (H1 : Hp) (a b : Addr), Held X.s_0.heap.objs.size i j k σ H H1 ∧ σ[j]? = some (some (.ref a)) ∧ σ[k]? = some (some (.ref b)) ∧ R (ItEZ X.K a b) H1) := by
  refine ⟨fun pins s σ H R I h => ?_⟩
  obtain ⟨H1, a, b, ⟨e, z, TI, TO, i1, i2, a', b', si, sj, sk, D, N5, e0, en, eH⟩, sa, sb, q⟩ := h
  rw [sj] at sa; cases sa
  rw [sk] at sb; cases sb
  refine thn ((pe_var (pos := p) (i := i) hN hv hd hcd).run pins s σ H (fun v H2 => v = .ref e ∧ H2 = H) I ⟨.ref e, si, rfl, rfl⟩) fun u s1 ⟨v, H2, I1, r1, ev, eH2⟩ => ?_
  subst ev
  rw [eH2, eH] at I1
  cases r1
  obtain ⟨z0, TI0, TO0, i10, i20, zn, TIn, TOn, i1n, i2n⟩ := N5
  unfold lay6 lay5 at I1
  have ge : lay6 H1 e z TI TO i1 i2 a b e = some (EO e z) := upd_same
  have n1 := D.i12
  have k2 : upd H1 i1 (TO' i1 a) i2 = none := by rw [upd_ne n1.symm]; exact i20
  have k3 : upd (upd H1 i1 (TO' i1 a)) i2 (TO' i2 b) TI = none := by rw [upd_ne D.TIi2, upd_ne D.TIi1]; exact TI0
  have k4 : upd (upd (upd H1 i1 (TO' i1 a)) i2 (TO' i2 b)) TI (PO TI (.ref i1) (.ref i2)) TO = none := by rw [upd_ne D.TITO.symm, upd_ne D.TOi2, upd_ne D.TOi1]; exact TO0
  have k5 : upd (upd (upd (upd H1 i1 (TO' i1 a)) i2 (TO' i2 b)) TI (PO TI (.ref i1) (.ref i2))) TO (PO TO .none .none) z = none := by rw [upd_ne D.TOz.symm, upd_ne D.TIz.symm, upd_ne D.i2z.symm, upd_ne D.i1z.symm]; exact z0
  have k6 : upd (upd (upd (upd (upd H1 i1 (TO' i1 a)) i2 (TO' i2 b)) TI (PO TI (.ref i1) (.ref i2))) TO (PO TO .none .none)) z (ZO z TI TO) e = none := by rw [upd_ne D.ez, upd_ne D.eTO, upd_ne D.eTI, upd_ne D.ei2, upd_ne D.ei1]; exact e0
  have J6 := ItX.inv_drop I1 (a := e) (φ := fun h => IsEnum h e z 0 .none) upd_same
  have F6 := ItX.inv_fp I1 (a := e) upd_same en
  rw [ItX.dropH_upd k6] at J6 F6
  have J5 := ItX.inv_drop J6 (a := z) (φ := fun h => IsZip h z TI TO .none) upd_same
  have F5 := ItX.inv_fp J6 (a := z) upd_same zn
  rw [ItX.dropH_upd k5] at J5 F5
  have J4 := ItX.inv_drop J5 (a := TO) (φ := fun h => IsPair h TO .none .none) upd_same
  have F4 := ItX.inv_fp J5 (a := TO) upd_same TOn
  rw [ItX.dropH_upd k4] at J4 F4
  have J3 := ItX.inv_drop J4 (a := TI) (φ := fun h => IsPair h TI (.ref i1) (.ref i2)) upd_same
  have F3 := ItX.inv_fp J4 (a := TI) upd_same TIn
  rw [ItX.dropH_upd k3] at J3 F3
  have J2 := ItX.inv_drop J3 (a := i2) (φ := fun h => h.IsTupleIter i2 b 0) upd_same
  have F2 := ItX.inv_fp J3 (a := i2) upd_same i2n
  rw [ItX.dropH_upd k2] at J2 F2
  have J1 := ItX.inv_drop J2 (a := i1) (φ := fun h => h.IsTupleIter i1 a 0) upd_same
  have F1 := ItX.inv_fp J2 (a := i1) upd_same i1n
  rw [ItX.dropH_upd i10] at J1 F1
  have q6 := (I1.hok e _ upd_same).1
  have q5 := (J6.hok z _ upd_same).1
  have q4 := (J5.hok TO _ upd_same).1
  have q3 := (J4.hok TI _ upd_same).1
  have q2 := (J3.hok i2 _ upd_same).1
  have q1 := (J2.hok i1 _ upd_same).1
  have st : Six s1.heap e z TI TO i1 i2 a b 0 := ⟨⟨_, q6⟩, ⟨.none, false, .inl rfl, q5⟩, q3, ⟨_, _, q4⟩, q1, q2⟩
  refine wpAny_pyIter_enum q6 ?_
  refine ⟨e, [e, z, TI, TO, i1, i2], _, _, H1, rfl, J1, turnEZ D, st, fun c hc => ?_, q⟩
  have e' : c = e ∨ c = z ∨ c = TI ∨ c = TO ∨ c = i1 ∨ c = i2 := by simpa using hc
  rcases e' with q | q | q | q | q | q
  · rw [q]; exact ⟨e0, F6.2⟩
  · rw [q]; exact ⟨z0, F5.2⟩
  · rw [q]; exact ⟨TI0, F3.2⟩
  · rw [q]; exact ⟨TO0, F4.2⟩
  · rw [q]; exact ⟨i10, F1.2⟩
  · rw [q]; exact ⟨i20, F2.2⟩
end
end EZ

/-! DL29: x = enumerate(zip(a, b)); return [.. for i, (y, z) in x ..][..]. -/
namespace DL
open PySem PySem.Spec PyProof.Rows L2 EZ
/-- numbered pairs -/
def ezD (ds es : List D) : List D := zpD (idD (zpD ds es)) (zpD ds es)
theorem ezD_len (ds es : List D) : (ezD ds es).length = min ds.length es.length := by
  unfold ezD zpD idD
  simp
theorem ezD_get {ds es : List D} {i : Nat} {d : D} (h : (ezD ds es)[i]? = some d) : ∃ x y, ds[i]? = some x ∧ es[i]? = some y ∧ d = .tup [.int i, .tup [x, y]] := by
  obtain ⟨u, v, h1, h2, rfl⟩ := zpD_get h
  obtain ⟨x, y, h3, h4, rfl⟩ := zpD_get h2
  unfold idD at h1
  rw [List.getElem?_map] at h1
  obtain ⟨j, h5, h6⟩ := Option.map_eq_some_iff.mp h1
  obtain ⟨h7, h8⟩ := List.getElem?_eq_some_iff.mp h5
  rw [List.getElem_range] at h8
  subst h8 h6
  exact ⟨x, y, h3, h4, rfl⟩
theorem dw_ez {K : PySem.W.Frag} {α : Al} {H : Hp} {C : Cells} {a b : Addr} {xs ys : List V} {ds es : List D} (c : CR K α H C) (k1 : ∀ α' H', ExtW α H α' H' → SqT K H' a xs) (k2 : ∀ α' H', ExtW α H α' H' → SqT K H' b ys) (z1 : xs.length ≤ sizeLine)
    (r1 : VRs K α H xs ds) (r2 : VRs K α H ys es) : DWalk K α H (ItEZ K a b) ⟨ezD ds es, none⟩ (fun H => SqT K H a xs ∧ SqT K H b ys)
      (fun i H v H' => ∃ (T U : Addr) (x y : V), v = .ref U ∧ H T = none ∧ upd H T (.tup [x, y]) U = none ∧ H' = upd (upd H T (.tup [x, y])) U (.tup [.int (i : Nat), .ref T]) ∧ xs[i]? = some x ∧ ys[i]? = some y) where
  walk := walkEZ (by show (ezD ds es).length = _; rw [ezD_len, r1.length, r2.length])
  len := by show (ezD ds es).length ≤ _; rw [ezD_len, ← r1.length]; omega
  good := fun α' H' C' e _ _ => ⟨k1 α' H' e, k2 α' H' e⟩
  gives := fun i x H1 H2 α' C' d e c' _ y hd => by
    obtain ⟨T, U, u, v, rfl, hT, hU, rfl, h1, h2⟩ := y
    obtain ⟨dx, dy, e1, e2, rfl⟩ := ezD_get hd
    obtain ⟨d1, f1, g1⟩ := r1.get h1
    rw [e1] at f1; cases f1
    obtain ⟨d2, f2, g2⟩ := r2.get h2
    rw [e2] at f2; cases f2
    have c2 : CR K α' (upd H1 T (.tup [u, v])) C' := c'.new hT
    have v1 : VR K α' (upd H1 T (.tup [u, v])) (.ref T) (.tup [dx, dy]) := vrNewT c' hT (by show 2 ≤ sizeLine; decide) (.cons (g1.extW c e) (.cons (g2.extW c e) .nil))
    exact ⟨(Ext.new c' hT).trans' c' c2 (Ext.new c2 hU), c2.new hU, vrNewT c2 hU (by show 2 ≤ sizeLine; decide) (.cons (.int _) (.cons v1 .nil))⟩
/-- what j and k hold, zipped and numbered -/
def iEz (j k : Nat) : IX := fun ρ => bnd (xV j ρ) fun x => bnd (xV k ρ) fun y => lft fun _ => match x, y with
  | .tup ds, .tup es => some ⟨ezD ds es, none⟩
  | _, _ => none
def tHl (n i j k : Nat) (te : TE) : TE := fun σ H Q => ∃ H1, Held n i j k σ H H1 ∧ te σ H1 Q
section
variable {X : Cx} {W : WX} {i j k : Nat}
theorem deh_lc {elt : Expr} {elts : List Expr} {kk : Nat} {tpos p lpos : Pos} {x : Str} {ifs : List Expr} {scope : Scope} {t : TX} {q : BX} {f : EX} (own : List (Str × Nat)) {ix : List Nat} (hc : X.calm = true) (hN : X.N.Nodup) (hi : X.N[i]? = some x := by rfl)
    (hg : Blk X scope fun Y => DG Y (.Tuple elts kk tpos) ix t) (ht : Blk X scope fun Y => DTs Y W0 ifs q) (he : Blk X scope fun Y => DE Y W0 elt f) (hv : Vis X.env.scope x := by first | exact .inl rfl | exact .inr (.inl rfl)) (ok : blkC X.N X.env.scope scope own = true := by decide +kernel) (hix : ∀ i ∈ ix, i ∈ own.map (·.2) := by decide)
    (hs : ∀ v, foldedSetIterable (.Name x p) X.env v = pure v := by intro _; rfl) (hd : (x == ("__debug__" : Str)) = false := by decide) (hcd : (x == ("__classdict__" : Str)) = false := by decide) :
    PE X (.ListComp elt [⟨.Tuple elts kk tpos, .Name x p, ifs, 0⟩] scope lpos) (tHl X.s_0.heap.objs.size i j k (tD X W (xLc (iEz j k) (own.map (·.2)) t q f))) :=
  peImp (pe_lc (g := gD X ix t) (tt := tDT X W0 q) (te := tD X W0 f) hc hN (pi_hl (j := j) (k := k) hi hv hd hcd) (blkOk_by ok) hg ht he hs) fun σ H Q ⟨H1, held, h⟩ => by
    have h := tLc_of (g := gD X ix t) (tt := tDT X W0 q) (te := tD X W0 f) hix h
    obtain ⟨α, C, ρ, c, r, w⟩ := h
    obtain ⟨x1, hx1, w2⟩ := (WpO.bnd c w).lft
    obtain ⟨x2, hx2, w4⟩ := (WpO.bnd c (w2 α H1 (Ext.refl _ _) c)).lft
    obtain ⟨s, hs, w6⟩ := (w4 α H1 (Ext.refl _ _) c).lft
    have w7 := w6 α H1 (Ext.refl _ _) c
    split at hs
    · rename_i ds es
      cases hs
      obtain ⟨e, z, TI, TO, i1, i2, a, b, si, sj, sk, rest⟩ := id held
      have at_ : ∀ (m : Nat) (y : List D), ρ.getD m none = some (.tup y) → ∃ l xs, σ[m]? = some (some (.ref l)) ∧ SqT X.K H1 l xs ∧ (∀ α' H', ExtW α H1 α' H' → SqT X.K H' l xs) ∧ xs.length ≤ sizeLine ∧ VRs X.K α H1 xs y := fun m y hm => by
        have hm2 : ρ[m]? = some (some (.tup y)) := by
          rw [List.getD_eq_getElem?_getD] at hm
          cases q : ρ[m]? with
          | none => rw [q] at hm; cases hm
          | some o => rw [q] at hm; exact congrArg some hm
        obtain ⟨v, h1, h2⟩ := r.at_ m _ hm2
        obtain ⟨l, xs, rfl, s1, k1, z1, r1⟩ := stT c h2
        exact ⟨l, xs, h1, s1, k1, z1, r1⟩
      obtain ⟨l1, xs, g1, q1, k1, z1, r1⟩ := at_ j ds hx1
      obtain ⟨l2, ys, g2, q2, k2, z2, r2⟩ := at_ k es hx2
      rw [sj] at g1; cases g1
      rw [sk] at g2; cases g2
      exact ⟨H1, a, b, held, sj, sk, w7 _ _ _ (dw_ez c k1 k2 z1 r1 r2)⟩
    · cases hs
theorem deh_sl {e : Expr} {lo hi : Option Expr} {n : Nat} {f : EX} {fl fh : OX} {p2 pos : Pos} (he : PE X e (tHl n i j k (tD X W f))) (hl : DO X W lo fl) (hh : DO X W hi fh) : PE X (.Subscript e (.Slice lo hi none p2) pos) (tHl n i j k (tD X W (xSl f fl fh))) :=
  peImp (pe_slice (sl_tupA.or sl_list) he hl hh) fun σ H Q ⟨Hh, held, α, C, ρ, c, r, h⟩ => by
  refine ⟨Hh, held, ?_⟩
  refine ⟨α, C, ρ, c, r, (WpO.bnd c h).mono fun α1 H1 C1 x e1 c1 h1 v rv => ?_⟩
  refine ⟨α1, C1, ρ, c1, r.ext c e1, (WpO.bnd c1 h1).mono fun α2 H2 C2 l e2 c2 h2 => ?_⟩
  refine ⟨α2, C2, ρ, c2, (r.ext c e1).ext c1 e2, (WpO.bnd c2 h2).mono fun α3 H3 C3 u e3 c3 h3 => ?_⟩
  obtain ⟨z, hz, q⟩ := h3.lft
  have ans : Ans X.K α3 H3 C3 Q z := q
  have rv3 := (rv.ext c1 e2).ext c2 e3
  unfold sl at hz
  split at hz
  · rename_i ds hl
    cases hz
    obtain ⟨a, xs, rfl, ha, za, ra⟩ := rv3.asT c3 hl
    refine .inl ⟨a, xs, rfl, SqT.of ha, fun hw => ?_, fun hw p hp => ans.new c3 hp (vrNewT c3 hp (cutV_len _ _ _ za) (ra.cut l u))⟩
    rw [ra.length] at hw
    rw [cut_whole _ _ _ hw] at ans
    exact ans.here c3 (.tup ha za ra)
  · rename_i ds hl
    cases hz
    obtain ⟨a, xs, rfl, ha, za, ra⟩ := rv3.asL c3 hl
    exact .inr ⟨a, xs, rfl, SqL.of ha, fun p hp => ans.new c3 hp (vrNew c3 hp (cutV_len _ _ _ za) (ra.cut l u))⟩
  · rename_i ds hl
    cases hz
    obtain ⟨a, xs, rfl, ha, za, ra⟩ := rv3.asScr hl
    exact .inr ⟨a, xs, rfl, ha, fun p hp => ans.new c3 hp (vrNew c3 hp (cutV_len _ _ _ za) (ra.cut l u))⟩
  · cases hz
/-- the two statements -/
def sHd (i j k : Nat) (f : EX) : SX := fun ρ C => match ρ.getD j none, ρ.getD k none with
  | some (.tup _), some (.tup _) => if i < ρ.length ∧ j ≠ i ∧ k ≠ i then sRet f (ρ.set i none) C else .bad
  | _, _ => .bad
theorem neOf {F : Hp} {a b : Addr} {u : HO} (h : F a = none) (h2 : F b = some u) : a ≠ b := fun e => by
  rw [e, h2] at h
  cases h
theorem dss_held {y xj xk : Str} {py p1 p2 p3 p4 pos1 pos2 spos rpos : Pos} {e2 : Expr} {f : EX} (hN : X.N.Nodup) (he : PE X e2 (tHl X.s_0.heap.objs.size i j k (tD X W f))) (hmz : X.mg "zip" = none) (hme : X.mg "enumerate" = none) (hi : X.N[i]? = some y := by rfl) (hj : X.N[j]? = some xj := by rfl) (hk : X.N[k]? = some xk := by rfl)
    (hy : Loc X.env.scope y := by first | exact Or.inl rfl | exact Or.inr rfl) (vj : Vis X.env.scope xj := by first | exact .inl rfl | exact .inr (.inl rfl)) (vk : Vis X.env.scope xk := by first | exact .inl rfl | exact .inr (.inl rfl))
    (hgz : Gl X "zip" := by rfl) (hge : Gl X "enumerate" := by rfl)
    (dj : (xj == ("__debug__" : Str)) = false := by decide) (dk : (xk == ("__debug__" : Str)) = false := by decide) (cj : (xj == ("__classdict__" : Str)) = false := by decide) (ck : (xk == ("__classdict__" : Str)) = false := by decide)
    (h1 : starEach [.Name xj p3, .Name xk p4] X.env = (false, eval (.Name xj p3) X.env) :: starEach [.Name xk p4] X.env := by rfl) (h2 : (backTo pos2 (starEach [.Name xk p4] X.env)).any (·.1) = false := by rfl)
    (h3 : starEach [.Call (.Name "zip" p2) [.Name xj p3, .Name xk p4] [] pos2] X.env = (false, eval (.Call (.Name "zip" p2) [.Name xj p3, .Name xk p4] [] pos2) X.env) :: starEach [] X.env := by rfl)
    (hs : swapsWith (.Call (.Name "enumerate" p1) [.Call (.Name "zip" p2) [.Name xj p3, .Name xk p4] [] pos2] [] pos1) (some (.Name y py)) spos.line X.env = pure false := by rfl)
    (hf : X.fn y = true ∨ X.env.scope.names.lookup y = some .local := by first | exact .inl rfl | exact .inr rfl) :
    DSs X W [.Assign [.Name y py] (.Call (.Name "enumerate" p1) [.Call (.Name "zip" p2) [.Name xj p3, .Name xk p4] [] pos2] [] pos1) spos, .Return (some e2) rpos] (sHd i j k f) :=
  pssImp (pss_cons (ps_set hN hi hy (pe_en1 hge hme (pe_zp hgz hmz hj hk vj vk dj dk cj ck h1 h2) h3) hs hf) (pss_cons (ps_ret he) pss_nil)) fun E σ H ⟨α, C, ρ, c, r, h⟩ => by
    unfold sHd at h
    split at h
    · rename_i ds es hx1 hx2
      split at h
      · rename_i hl
        have at_ : ∀ (m : Nat) (y : List D), ρ.getD m none = some (.tup y) → ∃ l xs, σ[m]? = some (some (.ref l)) ∧ SqT X.K H l xs := fun m y hm => by
          have hm2 : ρ[m]? = some (some (.tup y)) := by
            rw [List.getD_eq_getElem?_getD] at hm
            cases q : ρ[m]? with
            | none => rw [q] at hm; cases hm
            | some o => rw [q] at hm; exact congrArg some hm
          obtain ⟨v, h1, h2⟩ := r.at_ m _ hm2
          obtain ⟨l, xs, rfl, s1, _⟩ := stT c h2
          exact ⟨l, xs, h1, s1⟩
        obtain ⟨a, xs, g1, q1⟩ := at_ j ds hx1
        obtain ⟨b, ys, g2, q2⟩ := at_ k es hx2
        refine ⟨a, b, xs, ys, g1, g2, q1, q2, fun z TI TO i1 i2 D5 N5 => ⟨z, TI, TO, rfl, upd_same, fun e e0 en => ?_⟩⟩
        have lz : lay5 H z TI TO i1 i2 a b z = some (ZO z TI TO) := upd_same
        have lTO : lay5 H z TI TO i1 i2 a b TO = some (PO TO .none .none) := by unfold lay5; rw [upd_ne D5.TOz, upd_same]
        have lTI : lay5 H z TI TO i1 i2 a b TI = some (PO TI (.ref i1) (.ref i2)) := by unfold lay5; rw [upd_ne D5.TIz, upd_ne D5.TITO, upd_same]
        have l2 : lay5 H z TI TO i1 i2 a b i2 = some (TO' i2 b) := by unfold lay5; rw [upd_ne D5.i2z, upd_ne D5.TOi2.symm, upd_ne D5.TIi2.symm, upd_same]
        have l1 : lay5 H z TI TO i1 i2 a b i1 = some (TO' i1 a) := by unfold lay5; rw [upd_ne D5.i1z, upd_ne D5.TOi1.symm, upd_ne D5.TIi1.symm, upd_ne D5.i12, upd_same]
        have D6 : Apart6 e z TI TO i1 i2 a b := ⟨D5, neOf e0 lz, neOf e0 lTI, neOf e0 lTO, neOf e0 l1, neOf e0 l2⟩
        have he0 : H e = none := by
          have q := e0
          unfold lay5 at q
          rw [upd_ne D6.ez, upd_ne D6.eTO, upd_ne D6.eTI, upd_ne D6.ei2, upd_ne D6.ei1] at q
          exact q
        have hlen : i < σ.length := by rw [r.len]; exact hl.1
        refine ⟨H, ⟨e, z, TI, TO, i1, i2, a, b, List.getElem?_set_self hlen, ?_, ?_, D6, N5, he0, en, rfl⟩, α, C, ρ.set i none, c, r.unset i _, ?_⟩
        · rw [List.getElem?_set_ne (Ne.symm hl.2.1)]; exact g1
        · rw [List.getElem?_set_ne (Ne.symm hl.2.2)]; exact g2
        · exact (WpS.sE c (r.unset i (some (.ref e))) h).mono fun α1 H1 C1 x e1 c1 h1 v rv => h1 α1 H1 _ (Ext.refl α1 H1) c1 ((r.unset i (some (.ref e))).ext c e1) v rv
      · exact h.elim
    · exact h.elim
/-! ### enumerate of a list or of a tuple -/
theorem pi_enumA {e : Expr} {ta : TA} {p pos tpos : Pos} {elts : List Expr} {kk : Nat} (hg : Gl X "enumerate") (hm : X.mg "enumerate" = none) (ha : PA X [e] ta) (hs : starEach [e] X.env = [(false, eval e X.env)] := by rfl) :
    PI X (.Tuple elts kk tpos) (.Call (.Name "enumerate" p) [e] [] pos) (fun σ H R => ta σ H fun vs H1 => ∃ a, vs = [.ref a] ∧ ((∃ xs, SqL X.K H1 a xs ∧ R (Ite X.K a) H1) ∨ ∃ xs, SqT X.K H1 a xs ∧ R (ET.IteT X.K a) H1)) := by
  refine ⟨fun pins s σ H R I h => ?_⟩
  refine Call_ (ld_blt I hg hm boot_enumerate (callWith_type1 (thn (ha.run pos pins s σ H _ I h) fun us s1 ⟨vs, H1, I1, r1, q1⟩ => ?_) hs rfl))
  obtain ⟨a, rfl, q⟩ := q1
  cases r1 with
  | cons r rr =>
    cases rr
    cases r
    rcases q with ⟨xs, hq, q⟩ | ⟨xs, hq, q⟩
    · obtain ⟨its, rv, p', hz⟩ := I1.list hq
      refine call_enumerate_list p'.isList fun h' he hit hsz hk => wpAny_pyIter_enum he ?_
      have I2 : Inv X pins σ H1 { s1 with heap := h' } := I1.kept (t' := s1.toks) hk
      refine ⟨s1.heap.objs.size + 1, [s1.heap.objs.size + 1, s1.heap.objs.size], _, _, H1, rfl, I2, turn_enum a (s1.heap.objs.size + 1) s1.heap.objs.size, ⟨⟨.none, he⟩, hit, Nat.succ_ne_self _⟩, fun b hb => ?_, q⟩
      have e' : b = s1.heap.objs.size + 1 ∨ b = s1.heap.objs.size := by simpa using hb
      have hle : s1.heap.objs.size ≤ b := by
        rcases e' with z | z
        · rw [z]; exact Nat.le_add_right _ _
        · rw [z]; exact Nat.le_refl _
      exact I1.fpOk hle (I1.hok.fresh hle)
    · obtain ⟨its, rv, p', hz⟩ := I1.tuple hq
      have pt : s1.heap.IsTuple a its.toArray := p'
      have hal : a < s1.heap.objs.size := by obtain ⟨_, q, _⟩ := pt; exact Heap.lt_size q
      refine ET.callT pt fun h' he hit hk => wpAny_pyIter_enum he ?_
      have I2 : Inv X pins σ H1 { s1 with heap := h' } := I1.kept (t' := s1.toks) hk
      refine ⟨s1.heap.objs.size + 1, [s1.heap.objs.size + 1, s1.heap.objs.size], _, _, H1, rfl, I2, ET.turnT a (s1.heap.objs.size + 1) s1.heap.objs.size (Nat.ne_of_lt hal) (Nat.ne_of_lt (Nat.lt_succ_of_lt hal)), ⟨⟨.none, he⟩, hit, Nat.succ_ne_self _⟩, fun b hb => ?_, q⟩
      have le : s1.heap.objs.size ≤ b := by
        rcases (show b = s1.heap.objs.size + 1 ∨ b = s1.heap.objs.size by simpa using hb) with z | z
        · rw [z]; exact Nat.le_succ _
        · rw [z]; exact Nat.le_refl _
      exact I1.fpOk le (I1.hok.fresh le)
def enOf : D → Option (List D)
  | .tup ds => some ds
  | x => lstOf x
def iEnA (fa : AX) : IX := fun ρ => bnd (fa ρ) fun xs => lft fun _ => match xs with
  | [x] => (enOf x).map fun ds => ⟨zpD (idD ds) ds, none⟩
  | _ => none
theorem di_enumA {e : Expr} {fa : AX} {pos : Pos} {elts : List Expr} {kk : Nat} {tpos p : Pos} (hm : X.mg "enumerate" = none) (ha : DA X W [e] fa) (hg : Gl X "enumerate" := by rfl) (hs : starEach [e] X.env = (false, eval e X.env) :: starEach [] X.env := by rfl) :
    DI X W (.Tuple elts kk tpos) (.Call (.Name "enumerate" p) [e] [] pos) (iEnA fa) := piImp (pi_enumA hg hm ha hs) fun σ H R ⟨α, C, ρ, c, r, h⟩ => by
  refine ⟨α, C, ρ, c, r, (WpO.bnd c h).mono fun α1 H1 C1 xs e1 c1 h1 vs rvs => ?_⟩
  obtain ⟨s, hs, q⟩ := h1.lft
  have q := q α1 H1 (Ext.refl _ _) c1
  have num : ∀ (ds : List D) i x d α' H' C', some (V.int (i : Nat)) = some x → (idD ds)[i]? = some d → ExtW α1 H1 α' H' → CR X.K α' H' C' → VR X.K α' H' x d := by
    intro ds i x d α' H' C' h1 h2 e c'
    cases h1
    unfold idD at h2
    rw [List.getElem?_map] at h2
    obtain ⟨j, h3, h4⟩ := Option.map_eq_some_iff.mp h2
    obtain ⟨h5, h6⟩ := List.getElem?_eq_some_iff.mp h3
    rw [List.getElem_range] at h6
    subst h6 h4
    exact .int _
  split at hs
  · rename_i x
    obtain ⟨ds, hd, hs⟩ := Option.map_eq_some_iff.mp hs
    subst hs
    obtain ⟨v, rfl, rv⟩ := vrs1 rvs
    unfold enOf at hd
    split at hd
    · cases hd
      obtain ⟨l, xs, rfl, s1, k1, z1, r1⟩ := stT c1 rv
      refine ⟨l, rfl, .inr ⟨xs, s1, q _ _ _ (dw_pair (K := X.K) (n := xs.length) ET.walkT ?_ z1 (fun α' H' e => k1 α' H' e) (num _) ?_)⟩⟩
      · unfold zpD idD; rw [List.length_zipWith, r1.length]; simp
      · intro i x d α' H' C' h1 h2 e c'
        obtain ⟨d', h3, h4⟩ := r1.get h1
        rw [h2] at h3; cases h3
        exact h4.extW c1 e
    · obtain ⟨l, xs, rfl, s1, k1, z1, r1⟩ := stL c1 rv hd
      refine ⟨l, rfl, .inl ⟨xs, s1, q _ _ _ (dw_pair (K := X.K) (n := xs.length) walk_enum ?_ z1 (fun α' H' e => k1 α' H' e) (num _) ?_)⟩⟩
      · unfold zpD idD; rw [List.length_zipWith, r1.length]; simp
      · intro i x d α' H' C' h1 h2 e c'
        obtain ⟨d', h3, h4⟩ := r1.get h1
        rw [h2] at h3; cases h3
        exact h4.extW c1 e
  · cases hs
end
end DL

/-! DL30: a tuple so many times. -/
namespace L2
open PySem PySem.Spec PyProof.Rows
open AutoSeq1 (wpAny_loadPart')
theorem tuple_mul1 (l : Addr) (items : Array Value) (n : Nat) (dd : Option Addr) (sl : Array (Option Value)) (u : Tok) :
    Meets (Builtin.«tuple.__mul__» ⟨[.ref l, .int 1 u], []⟩) (fun _ R s => s.heap.get? l = some { cls := .type "tuple", dict := dd, data := .seq items n, slots := sl } ∧ R (.ok (.ret (.ref l))) s) :=
  .of_wp fun prog w A R s h => by
    obtain ⟨hp, g, d, tk, os⟩ := s
    obtain ⟨hl, h⟩ := h
    have f1 := AutoSeq1.idx_int
    have c0 : (decide ((1 : Int) < -(2 ^ 63)) || decide ((1 : Int) ≥ 2 ^ 63)) = false := by decide
    have c1 : (items.isEmpty || (1 : Int) == 1) = true := by simp
    wp_walk using wpAny_loadPart' hl
    repeat (first
      | (refine wpAny_ite_false (decide_eq_false (by rw [c0]; exact Bool.false_ne_true)) ?_; wp_walk using wpAny_loadPart' hl)
      | (refine wpAny_ite_true (decide_eq_true (by rw [c1])) ?_; wp_walk using wpAny_loadPart' hl))
    exact ⟨_, rfl, h⟩
def rRepT1 (K : PySem.W.Frag) : R2 := fun x y H Q => ∃ l xs, x = .ref l ∧ y = .int 1 ∧ SqT K H l xs ∧ Q (.ref l) H
section
variable {X : Cx}
theorem op_repT1 : OpR X (binaryOp .Mult) (rRepT1 X.K) := by
  intro pins s σ H x y v u Q I rx ry h
  obtain ⟨l, xs, rfl, rfl, hT, q⟩ := h
  cases rx
  obtain ⟨t, rfl⟩ := ry
  obtain ⟨its, r, ⟨⟨cls, dd, data, sl⟩, ho, hc, n, hd⟩, hs⟩ := I.tuple hT
  simp only at hc hd
  subst hc hd
  refine wpAny_binaryOp_repeat_ref (T := "tuple") (U := "int") (by decide) ⟨_, ho, rfl⟩ (fun s' => typeIs_int s' 1 t) noFill_tuple_mul F.fills_int_mul F.slot_int_rmul repeat_tuple F.slot_int_index.lookup
    (call_meets F.slot_int_rmul (typeIs_int s 1 t) F.entry_int_rmul (F.args_int_rmul_2 _ _) (int_rmul_tuple 1 t l its.toArray n dd sl)
      ⟨ho, rfl, ⟨_, ho, rfl⟩, call_meets F.slot_tuple_mul ⟨_, ho, rfl⟩ F.entry_tuple_mul (F.args_tuple_mul_2 _ _) (tuple_mul1 l its.toArray n dd sl t) ⟨ho, ?_⟩⟩)
  exact ⟨.ref l, _, I, rfl, q⟩
end
end L2
namespace DL
open PySem PySem.Spec PyProof.Rows L2
section
variable {X : Cx}
/-- a tuple so many times: once or more -/
def oMulT : Op2 := fun C x y => match look C x, look C y with
  | .tup a, .int k => if 1 ≤ k ∧ k ≤ 1000 ∧ a ≠ [] ∧ a.length ≤ 1000 then some (.tup (List.replicate k.toNat a).flatten) else none
  | _, _ => none
theorem r_mulT : OpR X (binaryOp .Mult) (rD2 X.K oMulT) := by
  refine opImp (op_repT.or op_repT1) fun x y H Q ⟨α, C, dx, dy, dz, c, rx, ry, h, ans⟩ => ?_
  unfold oMulT at h
  split at h
  · rename_i as k h1 h2
    split at h
    · rename_i hl
      cases h
      obtain ⟨a, xs, rfl, ha, za, ra⟩ := rx.asT c h1
      have l1 := ra.length
      by_cases hk : k = 1
      · subst hk
        refine .inr ⟨a, xs, rfl, ry.asI h2, SqT.of ha, ?_⟩
        have e : (List.replicate (1 : Int).toNat as).flatten = as := by simp [List.replicate]
        rw [e] at ans
        exact ans.here c (.tup ha za ra)
      · refine .inl ⟨a, k, xs, rfl, ry.asI h2, SqT.of ha, fun z => ?_, by omega, hl.2.1, by rw [l1]; exact hl.2.2.2, fun p hp => ans.new c hp (vrNewT c hp ?_ (ra.rep _))⟩
        · rw [z] at l1
          exact hl.2.2.1 (List.eq_nil_of_length_eq_zero l1.symm)
        · rw [List.length_flatten, List.map_replicate, List.sum_replicate_nat, l1]
          have a1 : k.toNat * as.length ≤ 1000 * 1000 := Nat.mul_le_mul (by omega) hl.2.2.2
          exact Nat.le_trans a1 (by decide)
    · cases h
  · cases h
end
end DL

/-! DL31: sorted(set(xs)) of fewer than 64 numbers, told more often. -/
namespace DL
open PySem PySem.Spec PyProof.Rows L2
theorem setR_card {w : World} {h : Heap} {a : Addr} {ns : List Int} {c : Nat} (R : SetR w h a (fun j => decide (j ∈ ns)) c) : c = (dsort ns).length := by
  obtain ⟨o, es, ep, t, ho, _, _, _, hn, hs, _, _, hz, _⟩ := R
  have p : (es.toList.map keyOf).Perm (dsort ns) := by
    rw [List.perm_ext_iff_of_nodup hn ((pw_dsort ns).imp fun h => Int.ne_of_lt h)]
    intro k
    rw [← hs k, decide_eq_true_eq]
    exact mem_dsort.symm
  have := p.length_eq
  rw [List.length_map, Array.length_toList, hz] at this
  exact this
section
variable {X : Cx} {W : WX} {e : Expr} {f : EX} {pos : Pos}
def rSetI2 (K : PySem.W.Frag) (w : World) : List V → Hp → VK → Prop := fun xs H Q => ∃ (l : Addr) (ns : List Int), xs = [V.ref l] ∧ (SqL K H l (ns.map V.int) ∨ SqT K H l (ns.map V.int)) ∧ ns.length ≤ 1000 ∧
  ∀ p, H p = none → Q (.ref p) (upd H p (SetO w p (fun j => decide (j ∈ ns)) (dsort ns).length))
theorem cr_setI2 (hc : X.calm = true) : CallR X (.type "set") (rSetI2 X.K X.w) := by
  intro pins s σ H xs us Q I r h
  obtain ⟨l, ns, rfl, hq, hl, q⟩ := h
  rw [Vals.ref1 r]
  have fin : ∀ (h' : Heap) (tk c : Nat), SetR X.w h' s.heap.objs.size (fun j => decide (j ∈ ns)) c → (∀ b o, s.heap.get? b = some o → h'.get? b = some o) → EP X pins σ Q (.ref s.heap.objs.size) { s with heap := h', toks := tk } := fun h' tk c R k => by
    have np : H s.heap.objs.size = none := I.hok.fresh (Nat.le_refl _)
    have hc := setR_card R
    subst hc
    refine ⟨.ref s.heap.objs.size, _, I.call (ch := []) (Un.laid k (Nat.le_refl _) np) (I.hok.laid k (Nat.le_refl _) (setO_new R)) (by exact I.bare) (fun _ z => nomatch z), rfl, q _ np⟩
  rcases hq with hq | hq
  · obtain ⟨its, rv, pl, hz⟩ := I.list hq
    exact DLS.call_setL ns (I.ok.hd hc) pl.isList (by simpa using rv.ints) (by unfold scanBound; omega) fun h' tk c ft => fin h' tk c ft.1 ft.2.2
  · obtain ⟨its, rv, pl, hz⟩ := I.tuple hq
    exact call_set_tupI ns (I.ok.hd hc) pl (by simpa using rv.ints) (by unfold scanBound; omega) fun h' tk c R hcl k => fin h' tk c R k
/-- sorted(set(xs)) -/
def oSset2 : Op1 := fun C x => (seqInts C x).bind fun ns => if (dsort ns).length < 64 ∧ ns.length ≤ 1000 then some (.lst ((dsort ns).map D.int)) else none
theorem de_sset2 {p p2 pos2 : Pos} (hc : X.calm = true) (hm : X.mg "sorted" = none) (hm2 : X.mg "set" = none) (ha : DE X W e f) (hg : Gl X "sorted" := by rfl) (hg2 : Gl X "set" := by rfl)
    (n1 : starEach [.Call (.Name "set" p2) [e] [] pos2] X.env = (false, eval (.Call (.Name "set" p2) [e] [] pos2) X.env) :: starEach [] X.env := by rfl) (n2 : starEach [e] X.env = (false, eval e X.env) :: starEach [] X.env := by rfl) : DE X W (.Call (.Name "sorted" p) [.Call (.Name "set" p2) [e] [] pos2] [] pos) (x1 oSset2 f) :=
  peImp (pe_callB (cr_sortedSet hc) hg hm (by rfl) (pa_cons (pe_callTy (cr_setI2 hc) hg2 hm2 (by rfl) (pa_cons ha pa_nil n2) (by decide) (by decide) n2 (by rfl)) pa_nil n1) (by decide) (by decide) n1 (by rfl)) fun σ H Q h => by
  obtain ⟨α, C, ρ, c, r, h⟩ := tD_x1 h
  refine ⟨α, C, ρ, c, r, h.mono fun α1 H1 C1 x e1 c1 h1 v rv => ?_⟩
  obtain ⟨α2, C2, dx, dz, c2, rx, hz, ans⟩ := h1 v rv
  obtain ⟨ns, hn, hz⟩ := Option.bind_eq_some_iff.mp hz
  split at hz
  · rename_i hl
    cases hz
    obtain ⟨l, rfl, hq⟩ := rx.asInts c2 hn
    refine ⟨l, ns, rfl, hq, hl.2, fun p hp => ?_⟩
    refine ⟨p, _, (dsort ns).length, rfl, upd_same, hl.1, fun ms q h1 h2 _ hq => ?_⟩
    have e : ms = dsort ns := rise_eq h1 (pw_dsort ns) fun k => (h2 k).trans (by rw [decide_eq_true_eq]; exact mem_dsort.symm)
    subst e
    have c3 := c2.new (o := SetO X.w p (fun j => decide (j ∈ ns)) (dsort ns).length) hp
    have e3 := Ext.new (o := SetO X.w p (fun j => decide (j ∈ ns)) (dsort ns).length) c2 hp
    have ans3 : Ans X.K α2 (upd H1 p (SetO X.w p (fun j => decide (j ∈ ns)) (dsort ns).length)) C2 Q (.lst ((dsort ns).map D.int)) := fun α4 H4 e4 c4 v rv => ans α4 H4 (e3.trans' c2 c3 e4) c4 v rv
    refine ans3.new c3 hq (vrNew c3 hq ?_ (VRs.ints _))
    rw [List.length_map]
    exact Nat.le_trans (Nat.le_of_lt hl.1) (by decide)
  · cases hz
end
end DL

/-! DLP: what the data's functions answer: a calculus for the plain laws. -/
namespace DL
open PySem L2
def Ok {β : Type} (m : Mo β) (C : Cells) (P : β → Cells → Prop) : Prop := match m C with
  | .ok (x, C') => P x C'
  | _ => False
def OkS (o : SO) (P : Fl → Ro → Cells → Prop) : Prop := match o with
  | .ok f ρ C => P f ρ C
  | _ => False
def opt {β : Type} (o : Option β) (P : β → Prop) : Prop := match o with
  | some z => P z
  | none => False
/-- one way or the other -/
def iff2 (t : Bool) (A B : Prop) : Prop := match t with
  | true => A
  | false => B
section
variable {β γ : Type} {m : Mo β} {k : β → Mo γ} {C : Cells} {f g : EX} {fa : AX} {p q : BX} {ρ : Ro} {a b : SX}
@[simp] theorem opt_some (z : β) (P : β → Prop) : opt (some z) P = P z := rfl
@[simp] theorem opt_none (P : β → Prop) : opt (none : Option β) P = False := rfl
@[simp] theorem iff2_t (A B : Prop) : iff2 true A B = A := rfl
@[simp] theorem iff2_f (A B : Prop) : iff2 false A B = B := rfl
@[simp] theorem iff2_same (t : Bool) (A : Prop) : iff2 t A A = A := by cases t <;> rfl
@[simp] theorem iff2_not (t : Bool) (A B : Prop) : iff2 (!t) A B = iff2 t B A := by cases t <;> rfl
theorem iff2_of {t : Bool} {A B : Prop} (h : t = true → A) (h' : t = false → B) : iff2 t A B := by
  cases t
  · exact h' rfl
  · exact h rfl
theorem iff2_dec {A B : Prop} {c : Prop} [Decidable c] (h : c → A) (h' : ¬ c → B) : iff2 (decide c) A B := by
  by_cases hc : c
  · rw [decide_eq_true hc]; exact h hc
  · rw [decide_eq_false hc]; exact h' hc
theorem ite_2 (t : Bool) (m m' : Mo β) (P : β → Cells → Prop) : Ok (if t = true then m else m') C P = iff2 t (Ok m C P) (Ok m' C P) := by cases t <;> rfl
theorem ite_S (t : Bool) (m m' : SO) (P : Fl → Ro → Cells → Prop) : OkS (if t = true then m else m') P = iff2 t (OkS m P) (OkS m' P) := by cases t <;> rfl
theorem Ok.ex {m : Mo β} {P : β → Cells → Prop} (h : Ok m C P) : ∃ x C', m C = .ok (x, C') ∧ P x C' := by
  unfold Ok at h
  cases hm : m C with
  | ok p => rw [hm] at h; exact ⟨p.1, p.2, rfl, h⟩
  | err _ _ => rw [hm] at h; exact h.elim
  | bad => rw [hm] at h; exact h.elim
theorem Ok.of {m : Mo β} {P : β → Cells → Prop} {x : β} {C' : Cells} (e : m C = .ok (x, C')) (h : P x C') : Ok m C P := by unfold Ok; rw [e]; exact h
theorem Ok.mono {m : Mo β} {P P' : β → Cells → Prop} (h : Ok m C P) (i : ∀ x C', P x C' → P' x C') : Ok m C P' := by
  obtain ⟨x, C', e, h⟩ := h.ex
  exact .of e (i _ _ h)
theorem OkS.mono {o : SO} {P P' : Fl → Ro → Cells → Prop} (h : OkS o P) (i : ∀ f ρ C, P f ρ C → P' f ρ C) : OkS o P' := by
  unfold OkS at h ⊢
  cases o with
  | ok f ρ C => exact i _ _ _ h
  | err _ _ _ => exact h.elim
  | bad => exact h.elim
@[simp] theorem Ok_bnd (P : γ → Cells → Prop) : Ok (bnd m k) C P = Ok m C fun x C' => Ok (k x) C' P := by
  unfold Ok bnd
  cases m C with
  | ok p => rfl
  | err _ _ => rfl
  | bad => rfl
@[simp] theorem Ok_ret (x : β) (P : β → Cells → Prop) : Ok (ret x) C P = P x C := rfl
@[simp] theorem Ok_bad (P : β → Cells → Prop) : Ok (bad : Mo β) C P = False := rfl
@[simp] theorem Ok_lft (o : Cells → Option β) (P : β → Cells → Prop) : Ok (lft o) C P = opt (o C) fun z => P z C := by
  unfold Ok lft
  cases o C <;> rfl
@[simp] theorem Ok_nb (P : β → Cells → Prop) : Ok (nb m) C P = Ok m C P := by
  unfold Ok nb
  cases m C <;> rfl
/-! expressions -/
@[simp] theorem Ok_x1 (op : Op1) (P : D → Cells → Prop) : Ok (x1 op f ρ) C P = Ok (f ρ) C fun x C => opt (op C x) fun z => P z C := by simp [x1]
@[simp] theorem Ok_x2 (op : Op2) (P : D → Cells → Prop) : Ok (x2 op f g ρ) C P = Ok (f ρ) C fun x C => Ok (g ρ) C fun y C => opt (op C x y) fun z => P z C := by simp [x2]
@[simp] theorem Ok_xN (op : OpN) (P : D → Cells → Prop) : Ok (xN op fa ρ) C P = Ok (fa ρ) C fun x C => opt (op C x) fun z => P z C := by simp [xN]
@[simp] theorem Ok_xV (i : Nat) (P : D → Cells → Prop) : Ok (xV i ρ) C P = opt (ρ.getD i none) fun z => P z C := by simp [xV]
@[simp] theorem Ok_xC (d : D) (P : D → Cells → Prop) : Ok (xC d ρ) C P = P d C := rfl
@[simp] theorem Ok_aNil (P : List D → Cells → Prop) : Ok (aNil ρ) C P = P [] C := rfl
@[simp] theorem Ok_aCons (P : List D → Cells → Prop) : Ok (aCons f fa ρ) C P = Ok (f ρ) C fun x C => Ok (fa ρ) C fun xs C => P (x :: xs) C := by simp [aCons]
@[simp] theorem Ok_aStar (P : List D → Cells → Prop) : Ok (aStar f fa ρ) C P = Ok (f ρ) C fun x C => opt (itemsD C x) fun xs => Ok (fa ρ) C fun ys C => P (xs ++ ys) C := by simp [aStar]
@[simp] theorem Ok_aCap (P : List D → Cells → Prop) : Ok (aCap fa ρ) C P = Ok (fa ρ) C fun xs C => xs.length ≤ 1000 ∧ P xs C := by
  simp only [aCap, Ok_bnd]
  congr 1
  funext xs C
  by_cases h : xs.length ≤ 1000 <;> simp [h]
theorem items_tup (ds : List D) : itemsD C (.tup ds) = some ds := rfl
theorem items_lst (ds : List D) : itemsD C (.lst ds) = some ds := rfl
@[simp] theorem Ok_bV (P : Bool → Cells → Prop) : Ok (bV f ρ) C P = Ok (f ρ) C fun x C => opt (truth C x) fun z => P z C := by simp [bV]
@[simp] theorem Ok_bO (o : Op2) (P : Bool → Cells → Prop) : Ok (bO o f g ρ) C P = Ok (f ρ) C fun x C => Ok (g ρ) C fun y C => opt ((o C x y).bind boolOf) fun z => P z C := by simp [bO]
@[simp] theorem Ok_bAnd (P : Bool → Cells → Prop) : Ok (bAnd p q ρ) C P = Ok (p ρ) C fun t C => iff2 t (Ok (q ρ) C P) (P false C) := by simp [bAnd, ite_2]
@[simp] theorem Ok_bOr (P : Bool → Cells → Prop) : Ok (bOr p q ρ) C P = Ok (p ρ) C fun t C => iff2 t (P true C) (Ok (q ρ) C P) := by simp [bOr, ite_2]
@[simp] theorem Ok_bNot (P : Bool → Cells → Prop) : Ok (bNot p ρ) C P = Ok (p ρ) C fun t C => P (!t) C := by simp [bNot]
@[simp] theorem Ok_bYes (P : Bool → Cells → Prop) : Ok (bYes ρ) C P = P true C := rfl
@[simp] theorem Ok_xIf (P : D → Cells → Prop) : Ok (xIf p f g ρ) C P = Ok (p ρ) C fun t C => iff2 t (Ok (f ρ) C P) (Ok (g ρ) C P) := by simp [xIf, ite_2]
@[simp] theorem Ok_xAnd (P : D → Cells → Prop) : Ok (xAnd f g ρ) C P = Ok (f ρ) C fun x C => opt (truth C x) fun t => iff2 t (Ok (g ρ) C P) (P x C) := by simp [xAnd, ite_2]
@[simp] theorem Ok_xOr (P : D → Cells → Prop) : Ok (xOr f g ρ) C P = Ok (f ρ) C fun x C => opt (truth C x) fun t => iff2 t (P x C) (Ok (g ρ) C P) := by simp [xOr, ite_2]
@[simp] theorem Ok_xNot (P : D → Cells → Prop) : Ok (xNot f ρ) C P = Ok (f ρ) C fun x C => opt (truth C x) fun t => P (.bl (!t)) C := by simp [xNot]
@[simp] theorem Ok_xTup (P : D → Cells → Prop) : Ok (xTup fa ρ) C P = Ok (fa ρ) C fun xs C => P (.tup xs) C := by simp [xTup]
@[simp] theorem Ok_xLst (P : D → Cells → Prop) : Ok (xLst fa ρ) C P = Ok (fa ρ) C fun xs C => P (.lst xs) C := by simp [xLst]
@[simp] theorem Ok_xCell (P : D → Cells → Prop) : Ok (xCell fa ρ) C P = Ok (fa ρ) C fun xs C => P (.hnd C.length) (C ++ [.lst xs]) := by simp [xCell] <;> rfl
@[simp] theorem Ok_xSl (lo hi : OX) (P : D → Cells → Prop) : Ok (xSl f lo hi ρ) C P = Ok (f ρ) C fun x C => Ok (lo ρ) C fun l C => Ok (hi ρ) C fun u C => opt (sl C x l u) fun z => P z C := by simp [xSl]
def toI : D → Option Int
  | .int i => some i
  | _ => none
@[simp] theorem toI_int (i : Int) : toI (.int i) = some i := rfl
@[simp] theorem Ok_oN (P : Option Int → Cells → Prop) : Ok (oN ρ) C P = P none C := rfl
@[simp] theorem Ok_oS (P : Option Int → Cells → Prop) : Ok (oS f ρ) C P = Ok (f ρ) C fun x C => opt (toI x) fun z => P (some z) C := by
  simp only [oS, Ok_bnd, Ok_lft]
  congr 1
  funext x C
  cases x <;> rfl
@[simp] theorem Ok_xCall (n : Nat) (g : List D → Mo D) (P : D → Cells → Prop) : Ok (xCall n g fa ρ) C P = Ok (fa ρ) C fun ds C => ds.length = n ∧ Ok (g ds) C P := by
  simp only [xCall, Ok_bnd]
  congr 1
  funext ds C'
  by_cases h : ds.length = n
  · simp [h]
  · simp [h]
@[simp] theorem Ok_xCallK (n nu nk : Nat) (perm : List Nat) (g : List D → Mo D) {fk : AX} (P : D → Cells → Prop) : Ok (xCallK n nu nk perm g fa fk ρ) C P = Ok (fa ρ) C fun us C => us.length = nu ∧ Ok (fk ρ) C fun ws C => (ws.length = nk ∧ perm.length = n) ∧ Ok (g (perm.map fun i => (us ++ ws).getD i .non)) C P := by
  simp only [xCallK, Ok_bnd]
  congr 1
  funext us C'
  by_cases h : us.length = nu
  · simp only [h, if_true, Ok_bnd, true_and]
    congr 1
    funext ws C2
    by_cases h2 : ws.length = nk ∧ perm.length = n
    · simp [h2]
    · simp [h2]
  · simp [h]
@[simp] theorem Ok_xCh (o o' : Op2) {h : EX} (P : Bool → Cells → Prop) : Ok (xCh o o' f g h ρ) C P = Ok (f ρ) C fun x C => Ok (g ρ) C fun y C => opt ((o C x y).bind boolOf) fun b => iff2 b (Ok (h ρ) C fun z C => opt ((o' C y z).bind boolOf) fun b => P b C) (P false C) := by
  simp only [xCh, Ok_bnd]
  congr 1
  funext x C
  congr 1
  funext y C
  rw [Ok_lft]
  congr 1
  funext b
  cases b <;> simp
@[simp] theorem Ok_xB (P : D → Cells → Prop) : Ok (xB p ρ) C P = Ok (p ρ) C fun t C => P (.bl t) C := by simp [xB]
@[simp] theorem Ok_fnD (n : Nat) (b : SX) (ds : List D) (P : D → Cells → Prop) : Ok (fnD n b ds) C P = OkS (b (ds.map some ++ List.replicate (n - ds.length) none) C) fun f _ C' => match f with
    | .rt d => P d C'
    | .nx => P .non C'
    | _ => False := by
  unfold Ok OkS fnD
  cases b (ds.map some ++ List.replicate (n - ds.length) none) C with
  | ok f ρ C => cases f <;> rfl
  | err _ _ _ => rfl
  | bad => rfl
/-! statements -/
@[simp] theorem OkS_sE (k : β → Cells → SO) (P : Fl → Ro → Cells → Prop) : OkS (sE m ρ k C) P = Ok m C fun x C' => OkS (k x C') P := by
  unfold OkS sE Ok
  cases m C <;> rfl
@[simp] theorem OkS_ok (f : Fl) (P : Fl → Ro → Cells → Prop) : OkS (.ok f ρ C) P = P f ρ C := rfl
@[simp] theorem OkS_bad (P : Fl → Ro → Cells → Prop) : OkS .bad P = False := rfl
@[simp] theorem OkS_nil (P : Fl → Ro → Cells → Prop) : OkS (sNil ρ C) P = P .nx ρ C := rfl
@[simp] theorem OkS_seq (P : Fl → Ro → Cells → Prop) : OkS (sSeq a b ρ C) P = OkS (a ρ C) fun f ρ' C' => match f with
    | .nx => OkS (b ρ' C') P
    | f => P f ρ' C' := by
  unfold OkS sSeq
  cases a ρ C with
  | ok f ρ C => cases f <;> rfl
  | err _ _ _ => rfl
  | bad => rfl
@[simp] theorem OkS_expr (P : Fl → Ro → Cells → Prop) : OkS (sExpr f ρ C) P = Ok (f ρ) C fun _ C' => P .nx ρ C' := by simp [sExpr]
@[simp] theorem OkS_ret (P : Fl → Ro → Cells → Prop) : OkS (sRet f ρ C) P = Ok (f ρ) C fun x C' => P (.rt x) ρ C' := by simp [sRet]
@[simp] theorem OkS_retN (P : Fl → Ro → Cells → Prop) : OkS (sRetN ρ C) P = P (.rt .non) ρ C := rfl
@[simp] theorem OkS_brk (P : Fl → Ro → Cells → Prop) : OkS (sBrk ρ C) P = P .bk ρ C := rfl
@[simp] theorem OkS_cnt (P : Fl → Ro → Cells → Prop) : OkS (sCnt ρ C) P = P .ct ρ C := rfl
@[simp] theorem OkS_if (P : Fl → Ro → Cells → Prop) : OkS (sIf p a b ρ C) P = Ok (p ρ) C fun t C' => iff2 t (OkS (a ρ C') P) (OkS (b ρ C') P) := by simp [sIf, ite_S]
@[simp] theorem OkS_set (i : Nat) (P : Fl → Ro → Cells → Prop) : OkS (sSet i f ρ C) P = Ok (f ρ) C fun x C' => P .nx (ρ.set i (some x)) C' := by simp [sSet]
@[simp] theorem OkS_asg (t : TX) (P : Fl → Ro → Cells → Prop) : OkS (sAsg f t ρ C) P = Ok (f ρ) C fun x C' => Ok (t x ρ) C' fun ρ' C'' => P .nx ρ' C'' := by simp [sAsg]
@[simp] theorem OkS_par (i j : Nat) (P : Fl → Ro → Cells → Prop) : OkS (sPar i j fa ρ C) P = Ok (fa ρ) C fun xs C' => OkS (match xs with
  | [x, y] => .ok .nx ((ρ.set i (some x)).set j (some y)) C'
  | _ => .bad) P := by simp [sPar] <;> rfl
@[simp] theorem Ok_gN (i : Nat) (d : D) (P : Ro → Cells → Prop) : Ok (gN i d ρ) C P = P (ρ.set i (some d)) C := rfl
@[simp] theorem Ok_gTup (n : Nat) (t : List D → Ro → Mo Ro) (ds : List D) (P : Ro → Cells → Prop) : Ok (gTupD n t (.tup ds) ρ) C P = (ds.length = n ∧ Ok (t ds ρ) C P) := by
  unfold gTupD
  by_cases h : ds.length = n
  · simp [h]
  · simp [h]
@[simp] theorem Ok_gNil (P : Ro → Cells → Prop) : Ok (gNilD [] ρ) C P = P ρ C := rfl
@[simp] theorem Ok_gCons (t : TX) (u : List D → Ro → Mo Ro) (d : D) (ds : List D) (P : Ro → Cells → Prop) : Ok (gConsD t u (d :: ds) ρ) C P = Ok (t d ρ) C fun ρ' C' => Ok (u ds ρ') C' P := by simp [gConsD]
@[simp] theorem Ok_gSub (d : D) (P : Ro → Cells → Prop) : Ok (gSubD f g d ρ) C P = Ok (f ρ) C fun o C => Ok (g ρ) C fun i C => Ok (setD o i d) C fun _ C => P ρ C := by simp [gSubD]
@[simp] theorem OkS_for (fi : IX) (t : TX) (b : SX) (P : Fl → Ro → Cells → Prop) : OkS (sFor fi t b ρ C) P = Ok (fi ρ) C fun s C' => OkS (forD s t b s.items ρ C') P := by simp [sFor]
@[simp] theorem Ok_iSeq (P : Src → Cells → Prop) : Ok (iSeq f ρ) C P = Ok (f ρ) C fun x C => Ok (srcSeq x) C P := by simp [iSeq]
@[simp] theorem Ok_iR1 (P : Src → Cells → Prop) : Ok (iR1 fa ρ) C P = Ok (fa ρ) C fun xs C => opt (match xs with
  | [.int j] => if -1000000 ≤ j ∧ j ≤ 1000000 then some ⟨rgD 0 j, none⟩ else none
  | _ => none) fun s => P s C := by simp [iR1] <;> rfl
@[simp] theorem Ok_iR2 (P : Src → Cells → Prop) : Ok (iR2 fa ρ) C P = Ok (fa ρ) C fun xs C => opt (match xs with
  | [.int i, .int j] => if -1000000000 ≤ i ∧ j ≤ 1000000000 ∧ -1000000000 ≤ j ∧ i ≤ 1000000000 ∧ j - i ≤ 1000000 then some ⟨rgD i j, none⟩ else none
  | _ => none) fun s => P s C := by simp [iR2] <;> rfl
@[simp] theorem src_tup (ds : List D) (P : Src → Cells → Prop) : Ok (srcSeq (.tup ds)) C P = P ⟨ds, none⟩ C := by simp [srcSeq]
@[simp] theorem src_lst (ds : List D) (P : Src → Cells → Prop) : Ok (srcSeq (.lst ds)) C P = P ⟨ds, none⟩ C := by simp [srcSeq]
@[simp] theorem src_scr (ds : List D) (P : Src → Cells → Prop) : Ok (srcSeq (.scr ds)) C P = P ⟨ds, none⟩ C := by simp [srcSeq]
@[simp] theorem src_ktp (ds : List D) (P : Src → Cells → Prop) : Ok (srcSeq (.ktp ds)) C P = P ⟨ds, none⟩ C := by simp [srcSeq]
/-! loops -/
def FlP (I P : Fl → Ro → Cells → Prop) : Fl → Ro → Cells → Prop
  | .nx, ρ, C => I .nx ρ C
  | .ct, ρ, C => I .nx ρ C
  | .bk, ρ, C => P .nx ρ C
  | .rt d, ρ, C => P (.rt d) ρ C
@[simp] theorem FlP_nx (I P : Fl → Ro → Cells → Prop) (ρ : Ro) (C : Cells) : FlP I P .nx ρ C = I .nx ρ C := rfl
@[simp] theorem FlP_ct (I P : Fl → Ro → Cells → Prop) (ρ : Ro) (C : Cells) : FlP I P .ct ρ C = I .nx ρ C := rfl
@[simp] theorem FlP_bk (I P : Fl → Ro → Cells → Prop) (ρ : Ro) (C : Cells) : FlP I P .bk ρ C = P .nx ρ C := rfl
@[simp] theorem FlP_rt (I P : Fl → Ro → Cells → Prop) (d : D) (ρ : Ro) (C : Cells) : FlP I P (.rt d) ρ C = P (.rt d) ρ C := rfl
theorem for_cons {ds xs : List D} {x : D} {t : TX} (P : Fl → Ro → Cells → Prop) : OkS (forD ⟨ds, none⟩ t b (x :: xs) ρ C) P = Ok (t x ρ) C fun ρ1 C1 => OkS (b ρ1 C1) (FlP (fun _ ρ C => OkS (forD ⟨ds, none⟩ t b xs ρ C) P) P) := by
  conv => lhs; unfold forD
  simp only [Src.chk, OkS_sE]
  congr 1
  funext ρ1 C1
  unfold OkS
  cases b ρ1 C1 with
  | ok f ρ C => cases f <;> rfl
  | err _ _ _ => rfl
  | bad => rfl
@[simp] theorem for_nil {ds : List D} {t : TX} (P : Fl → Ro → Cells → Prop) : OkS (forD ⟨ds, none⟩ t b [] ρ C) P = P .nx ρ C := by
  conv => lhs; unfold forD
  rfl
/-- THE RULE of a loop over what does not change -/
theorem for_ok {ds : List D} {t : TX} {P : Fl → Ro → Cells → Prop} (I : List D → Ro → Cells → Prop) (hi : ∀ x xs ρ C, x ∈ ds → I (x :: xs) ρ C → ∀ J : Ro → Cells → Prop, (∀ ρ C, I xs ρ C → J ρ C) → Ok (t x ρ) C fun ρ1 C1 => OkS (b ρ1 C1) (FlP (fun _ => J) P)) (hd : ∀ ρ C, I [] ρ C → P .nx ρ C) :
    ∀ (xs : List D) (ρ : Ro) (C : Cells), (∀ x ∈ xs, x ∈ ds) → I xs ρ C → OkS (forD ⟨ds, none⟩ t b xs ρ C) P
  | [], ρ, C, _, h => by rw [for_nil]; exact hd ρ C h
  | x :: xs, ρ, C, hx, h => by
    rw [for_cons]
    refine (hi x xs ρ C (hx x List.mem_cons_self) h _ fun _ _ h => h).mono fun ρ1 C1 h1 => h1.mono fun f ρ2 C2 h2 => ?_
    cases f with
    | nx => exact for_ok I hi hd xs ρ2 C2 (fun y hy => hx y (List.mem_cons_of_mem _ hy)) h2
    | ct => exact for_ok I hi hd xs ρ2 C2 (fun y hy => hx y (List.mem_cons_of_mem _ hy)) h2
    | bk => exact h2
    | rt d => exact h2
/-- .. with one invariant -/
theorem for_inv {ds : List D} {t : TX} {P : Fl → Ro → Cells → Prop} (I : Ro → Cells → Prop) (h0 : I ρ C) (hi : ∀ x ρ C, x ∈ ds → I ρ C → ∀ J : Ro → Cells → Prop, (∀ ρ C, I ρ C → J ρ C) → Ok (t x ρ) C fun ρ1 C1 => OkS (b ρ1 C1) (FlP (fun _ => J) P)) (hd : ∀ ρ C, I ρ C → P .nx ρ C) : OkS (forD ⟨ds, none⟩ t b ds ρ C) P :=
  for_ok (fun _ => I) (fun x _ ρ C hx h => hi x ρ C hx h) hd ds ρ C (fun _ h => h) h0
/-- .. over a list that stands in a cell -/
theorem forC_inv {k : Nat} {ds : List D} {t : TX} {P : Fl → Ro → Cells → Prop} (I : Ro → Cells → Prop) (hc : ∀ ρ C, I ρ C → C[k]? = some (.lst ds)) (hi : ∀ x ρ C, x ∈ ds → I ρ C → ∀ J : Ro → Cells → Prop, (∀ ρ C, I ρ C → J ρ C) → Ok (t x ρ) C fun ρ1 C1 => OkS (b ρ1 C1) (FlP (fun _ => J) P)) (hd : ∀ ρ C, I ρ C → P .nx ρ C) :
    ∀ (xs : List D) (ρ : Ro) (C : Cells), (∀ x ∈ xs, x ∈ ds) → I ρ C → OkS (forD ⟨ds, some (k, ds)⟩ t b xs ρ C) P
  | [], ρ, C, _, h => by
    unfold forD
    simp only [Src.chk, hc ρ C h, if_true, OkS_ok]
    exact hd ρ C h
  | x :: xs, ρ, C, hx, h => by
    unfold forD
    simp only [Src.chk, hc ρ C h, if_true, OkS_sE]
    refine (hi x ρ C (hx x List.mem_cons_self) h _ fun _ _ h => h).mono fun ρ1 C1 h1 => ?_
    unfold OkS at h1 ⊢
    cases hb : b ρ1 C1 with
    | ok f ρ2 C2 =>
      rw [hb] at h1
      cases f with
      | nx => exact forC_inv I hc hi hd xs ρ2 C2 (fun y hy => hx y (List.mem_cons_of_mem _ hy)) h1
      | ct => exact forC_inv I hc hi hd xs ρ2 C2 (fun y hy => hx y (List.mem_cons_of_mem _ hy)) h1
      | bk => exact h1
      | rt d => exact h1
    | err _ _ _ => rw [hb] at h1; exact h1.elim
    | bad => rw [hb] at h1; exact h1.elim
theorem mem_rg {i j : Int} {d : D} (h : d ∈ rgD i j) : ∃ n : Int, d = .int n ∧ i ≤ n ∧ n < j := by
  unfold rgD at h
  obtain ⟨k, hk, rfl⟩ := List.mem_map.mp h
  have := List.mem_range.mp hk
  exact ⟨i + k, rfl, by omega, by omega⟩
/-! comprehensions -/
@[simp] theorem wipeD_nil (ρ : Ro) : wipeD ρ [] = ρ := rfl
@[simp] theorem wipeD_cons (ρ : Ro) (v : Nat) (vs : List Nat) : wipeD ρ (v :: vs) = (wipeD ρ vs).set v none := rfl
@[simp] theorem Ok_xLc (fi : IX) (vs : List Nat) (t : TX) (P : D → Cells → Prop) : Ok (xLc fi vs t p f ρ) C P = Ok (fi ρ) C fun s C => Ok (lcD s t p f (wipeD ρ vs) s.items []) C fun ds C => P (.lst ds) C := by simp [xLc]
@[simp] theorem lc_nil {ds acc : List D} {t : TX} {ρw : Ro} (P : List D → Cells → Prop) : Ok (lcD ⟨ds, none⟩ t p f ρw [] acc) C P = P acc C := by
  unfold Ok lcD
  rfl
theorem lc_cons {ds xs acc : List D} {x : D} {t : TX} {ρw : Ro} (P : List D → Cells → Prop) : Ok (lcD ⟨ds, none⟩ t p f ρw (x :: xs) acc) C P = Ok (t x ρw) C fun ρ1 C => Ok (p ρ1) C fun b C => iff2 b (Ok (f ρ1) C fun y C => Ok (lcD ⟨ds, none⟩ t p f ρw xs (acc ++ [y])) C P) (Ok (lcD ⟨ds, none⟩ t p f ρw xs acc) C P) := by
  have e : Ok (lcD ⟨ds, none⟩ t p f ρw (x :: xs) acc) C P = Ok (bnd (t x ρw) (fun ρ1 => bnd (p ρ1) fun b => if b = true then bnd (f ρ1) fun y => lcD ⟨ds, none⟩ t p f ρw xs (acc ++ [y]) else lcD ⟨ds, none⟩ t p f ρw xs acc)) C P := by
    unfold Ok
    conv => lhs; unfold lcD
    rfl
  rw [e]
  simp only [Ok_bnd, ite_2]
/-- a comprehension by what each item gives (no cell changes) -/
theorem lc_map {ds : List D} {t : TX} {ρw : Ro} {Q : List D → Cells → Prop} (F : D → Option D) (h : ∀ x ∈ ds, Ok (t x ρw) C fun ρ1 C1 => Ok (p ρ1) C1 fun b C2 => iff2 b (Ok (f ρ1) C2 fun y C3 => C3 = C ∧ F x = some y) (C2 = C ∧ F x = none)) :
    ∀ (xs acc : List D), (∀ x ∈ xs, x ∈ ds) → Q (acc ++ xs.filterMap F) C → Ok (lcD ⟨ds, none⟩ t p f ρw xs acc) C Q := by
  intro xs
  induction xs with
  | nil => intro acc _ q; rw [lc_nil]; simpa using q
  | cons x xs ih =>
    intro acc hx q
    rw [lc_cons]
    refine (h x (hx x List.mem_cons_self)).mono fun ρ1 C1 h1 => h1.mono fun b C2 h2 => ?_
    cases b with
    | true =>
      rw [iff2_t] at h2 ⊢
      refine h2.mono fun y C3 ⟨e, hy⟩ => ?_
      subst e
      refine ih (acc ++ [y]) (fun z hz => hx z (List.mem_cons_of_mem _ hz)) ?_
      rw [List.filterMap_cons, hy] at q
      simpa using q
    | false =>
      rw [iff2_f] at h2 ⊢
      obtain ⟨e, hy⟩ := h2
      subst e
      refine ih acc (fun z hz => hx z (List.mem_cons_of_mem _ hz)) ?_
      rw [List.filterMap_cons, hy] at q
      exact q
/-- THE RULE of a comprehension that changes cells -/
theorem lc_ok {ds : List D} {t : TX} {ρw : Ro} {Q : List D → Cells → Prop} (I : List D → List D → Cells → Prop) (hi : ∀ x xs acc C, x ∈ ds → I (x :: xs) acc C → ∀ J : List D → Cells → Prop, (∀ acc C, I xs acc C → J acc C) → Ok (t x ρw) C fun ρ1 C1 => Ok (p ρ1) C1 fun b C2 => iff2 b (Ok (f ρ1) C2 fun y C3 => J (acc ++ [y]) C3) (J acc C2))
    (hd : ∀ acc C, I [] acc C → Q acc C) : ∀ (xs acc : List D) (C : Cells), (∀ x ∈ xs, x ∈ ds) → I xs acc C → Ok (lcD ⟨ds, none⟩ t p f ρw xs acc) C Q := by
  intro xs
  induction xs with
  | nil => intro acc C _ q; rw [lc_nil]; exact hd acc C q
  | cons x xs ih =>
    intro acc C hx q
    rw [lc_cons]
    refine (hi x xs acc C (hx x List.mem_cons_self) q (fun acc C => I xs acc C) fun _ _ h => h).mono fun ρ1 C1 h1 => h1.mono fun b C2 h2 => ?_
    cases b with
    | true =>
      rw [iff2_t] at h2 ⊢
      exact h2.mono fun y C3 h3 => ih _ _ (fun z hz => hx z (List.mem_cons_of_mem _ hz)) h3
    | false =>
      rw [iff2_f] at h2 ⊢
      exact ih _ _ (fun z hz => hx z (List.mem_cons_of_mem _ hz)) h2
/-! operations -/
@[simp] theorem look_int (i : Int) : look C (.int i) = .int i := rfl
@[simp] theorem look_str (i : Str) : look C (.str i) = .str i := rfl
@[simp] theorem look_bl (i : Bool) : look C (.bl i) = .bl i := rfl
@[simp] theorem look_non : look C .non = .non := rfl
@[simp] theorem look_tup (ds : List D) : look C (.tup ds) = .tup ds := rfl
@[simp] theorem look_lst (ds : List D) : look C (.lst ds) = .lst ds := rfl
@[simp] theorem look_scr (ds : List D) : look C (.scr ds) = .scr ds := rfl
@[simp] theorem look_dct (ds es : List D) : look C (.dct ds es) = .dct ds es := rfl
theorem look_hnd {k : Nat} {ds : List D} (h : C[k]? = some (.lst ds)) : look C (.hnd k) = .lst ds := by simp only [look, h]
@[simp] theorem bl_of (b : Bool) : boolOf (.bl b) = some b := rfl
variable (i j : Int)
@[simp] theorem oAdd_int : oAdd C (.int i) (.int j) = some (.int (i + j)) := rfl
@[simp] theorem oSub_int : oSub C (.int i) (.int j) = some (.int (i - j)) := rfl
@[simp] theorem oLt_int : oLt C (.int i) (.int j) = some (.bl (decide (i < j))) := rfl
@[simp] theorem oLe_int : oLe C (.int i) (.int j) = some (.bl (decide (i ≤ j))) := rfl
@[simp] theorem oGt_int : oGt C (.int i) (.int j) = some (.bl (decide (j < i))) := rfl
@[simp] theorem oGe_int : oGe C (.int i) (.int j) = some (.bl (decide (j ≤ i))) := rfl
@[simp] theorem oNeg_int : oNeg C (.int i) = some (.int (-i)) := rfl
@[simp] theorem oEq_int : oEq C (.int i) (.int j) = some (.bl (decide (i = j))) := by
  have e : eqD (.int i) (.int j) = (i == j) := rfl
  show some (D.bl (eqD (.int i) (.int j))) = _
  rw [e]
  rfl
@[simp] theorem oNe_int : oNe C (.int i) (.int j) = some (.bl (!decide (i = j))) := by
  have e : eqD (.int i) (.int j) = (i == j) := rfl
  show some (D.bl (!eqD (.int i) (.int j))) = _
  rw [e]
  rfl
theorem oMul_r (h : -(2 ^ 64) < j ∧ j < 2 ^ 64) : oMul C (.int i) (.int j) = some (.int (i * j)) := by
  show (if CMul i j then some (D.int (i * j)) else none) = _
  rw [if_pos (.inr h)]
theorem oMul_l (h : -(2 ^ 64) < i ∧ i < 2 ^ 64) : oMul C (.int i) (.int j) = some (.int (i * j)) := by
  show (if CMul i j then some (D.int (i * j)) else none) = _
  rw [if_pos (.inl h)]
theorem oMod_pos (h : 0 < j) : oMod C (.int i) (.int j) = some (.int (i % j)) := by
  show (if 0 < j then some (D.int (i % j)) else none) = _
  rw [if_pos h]
theorem oFdv_pos (h : 0 < j ∧ j < 1073741824) : oFdv C (.int i) (.int j) = some (.int (i / j)) := by
  show (if 0 < j ∧ j < 1073741824 then some (D.int (i / j)) else none) = _
  rw [if_pos h]
theorem oDivm_pos (h : 0 < j ∧ j < 1073741824) : oDivm C [.int i, .int j] = some (.tup [.int (i / j), .int (i % j)]) := by
  show (if 0 < j ∧ j < 1073741824 then some (D.tup [.int (i / j), .int (i % j)]) else none) = _
  rw [if_pos h]
@[simp] theorem oInt_int : oInt C [.int i] = some (.int i) := rfl
@[simp] theorem oInt_bl (b : Bool) : oInt C [.bl b] = some (.int (if b then 1 else 0)) := rfl
@[simp] theorem oAbs_int : oAbs C [.int i] = some (.int (if i < 0 then -i else i)) := rfl
@[simp] theorem oMax2_int : oMax2 C [.int i, .int j] = some (.int (max i j)) := by
  show some (D.int (if j > i then j else i)) = _
  congr 2
  split <;> omega
@[simp] theorem oMin2_int : oMin2 C [.int i, .int j] = some (.int (min i j)) := by
  show some (D.int (if j < i then j else i)) = _
  congr 2
  split <;> omega
@[simp] theorem oLen_tup (ds : List D) : oLen C [.tup ds] = some (.int ds.length) := rfl
@[simp] theorem oLen_lst (ds : List D) : oLen C [.lst ds] = some (.int ds.length) := rfl
@[simp] theorem oLen_scr (ds : List D) : oLen C [.scr ds] = some (.int ds.length) := rfl
@[simp] theorem truth_bl (b : Bool) : truth C (.bl b) = some b := rfl
@[simp] theorem truth_int : truth C (.int i) = some (i != 0) := rfl
@[simp] theorem truth_tup (ds : List D) : truth C (.tup ds) = some (!ds.isEmpty) := rfl
@[simp] theorem truth_lst (ds : List D) : truth C (.lst ds) = some (!ds.isEmpty) := rfl
@[simp] theorem truth_non : truth C .non = some false := rfl
@[simp] theorem oIsB_bl (a b : Bool) : oIsB C (.bl a) (.bl b) = some (.bl (decide (a = b))) := rfl
@[simp] theorem oIsY_bl (a b : Bool) : oIsY C (.bl a) (.bl b) = some (.bl (decide (a = b))) := rfl
@[simp] theorem oIsY_lst (a : List D) (b : Bool) : oIsY C (.lst a) (.bl b) = some (.bl false) := rfl
@[simp] theorem oIsY_tup (a : List D) (b : Bool) : oIsY C (.tup a) (.bl b) = some (.bl false) := rfl
@[simp] theorem oNotB_bl (a b : Bool) : oNotB C (.bl a) (.bl b) = some (.bl (!decide (a = b))) := rfl
theorem oIsi_eq {n t : String} {x : D} (h : tyN C x = some t) : oIsi n C [x, .ty n] = some (.bl (t == n || (t == "bool" && n == "int"))) := by
  show (if n = n then (tyN C x).map _ else none) = _
  rw [if_pos rfl, h]
  rfl
/-- data that has a kind wherever it stands -/
def fine : D → Bool
  | .hnd _ => false
  | .ref _ => false
  | .fn _ => false
  | .ty _ => false
  | .ktp _ => false
  | _ => true
def isT : D → Bool
  | .tup _ => true
  | _ => false
def isI : D → Bool
  | .int _ => true
  | _ => false
def isBl : D → Bool
  | .bl _ => true
  | _ => false
def isS : D → Bool
  | .str _ => true
  | _ => false
def isL : D → Bool
  | .lst _ => true
  | .scr _ => true
  | _ => false
theorem isi_tup {x : D} (h : fine x = true) : oIsi "tuple" C [x, .ty "tuple"] = some (.bl (isT x)) := by cases x <;> first | (cases h; done) | exact (oIsi_eq rfl).trans (congrArg (fun b => some (D.bl b)) (by simp [isT, isI, isBl, isS, isL])) | cases h
theorem isi_int {x : D} (h : fine x = true) : oIsi "int" C [x, .ty "int"] = some (.bl (isI x || isBl x)) := by cases x <;> first | (cases h; done) | exact (oIsi_eq rfl).trans (congrArg (fun b => some (D.bl b)) (by simp [isT, isI, isBl, isS, isL])) | cases h
theorem isi_bool {x : D} (h : fine x = true) : oIsi "bool" C [x, .ty "bool"] = some (.bl (isBl x)) := by cases x <;> first | (cases h; done) | exact (oIsi_eq rfl).trans (congrArg (fun b => some (D.bl b)) (by simp [isT, isI, isBl, isS, isL])) | cases h
theorem isi_str {x : D} (h : fine x = true) : oIsi "str" C [x, .ty "str"] = some (.bl (isS x)) := by cases x <;> first | (cases h; done) | exact (oIsi_eq rfl).trans (congrArg (fun b => some (D.bl b)) (by simp [isT, isI, isBl, isS, isL])) | cases h
theorem isi_lst {x : D} (h : fine x = true) : oIsi "list" C [x, .ty "list"] = some (.bl (isL x)) := by cases x <;> first | (cases h; done) | exact (oIsi_eq rfl).trans (congrArg (fun b => some (D.bl b)) (by simp [isT, isI, isBl, isS, isL])) | cases h
end
/-! ### pools -/
def PoolAt (k : Nat) (C : Cells) : Prop := ∃ a b c : Int, C[k]? = some (.lst [.int a, .int b, .int c])
/-- from C to C': the pool at k goes on, all else stands, there may be more -/
structure Gr (k : Nat) (C C' : Cells) : Prop where
  pool : PoolAt k C'
  len : C.length ≤ C'.length
  same : ∀ j, j ≠ k → j < C.length → C'[j]? = C[j]?
theorem Gr.refl {k : Nat} {C : Cells} (h : PoolAt k C) : Gr k C C := ⟨h, Nat.le_refl _, fun _ _ _ => rfl⟩
theorem Gr.trans {k : Nat} {C C1 C2 : Cells} (a : Gr k C C1) (b : Gr k C1 C2) : Gr k C C2 :=
  ⟨b.pool, Nat.le_trans a.len b.len, fun j h1 h2 => (b.same j h1 (Nat.lt_of_lt_of_le h2 a.len)).trans (a.same j h1 h2)⟩
theorem PoolAt.lt {k : Nat} {C : Cells} (h : PoolAt k C) : k < C.length := by
  obtain ⟨a, b, c, h⟩ := h
  exact (List.getElem?_eq_some_iff.mp h).1
theorem Gr.push {k : Nat} {C C1 : Cells} (a : Gr k C C1) (cl : Cell) : Gr k C (C1 ++ [cl]) := by
  obtain ⟨x, y, z, h⟩ := a.pool
  refine ⟨⟨x, y, z, ?_⟩, ?_, fun j h1 h2 => ?_⟩
  · rw [List.getElem?_append_left a.pool.lt]; exact h
  · simp; have := a.len; omega
  · rw [List.getElem?_append_left (Nat.lt_of_lt_of_le h2 a.len)]; exact a.same j h1 h2
theorem Gr.set {k j : Nat} {C C1 : Cells} (a : Gr k C C1) (cl : Cell) (h : C.length ≤ j) (hk : k < C.length) : Gr k C (C1.set j cl) := by
  obtain ⟨x, y, z, hp⟩ := a.pool
  refine ⟨⟨x, y, z, ?_⟩, ?_, fun i h1 h2 => ?_⟩
  · rw [List.getElem?_set_ne (by omega)]; exact hp
  · simp; exact a.len
  · rw [List.getElem?_set_ne (by omega)]; exact a.same i h1 h2
theorem setD_ok {k m : Nat} {j : Int} {C : Cells} {ds : List D} {d : D} {P : Unit → Cells → Prop} (h : C[k]? = some (.lst ds)) (hm : ixN ds.length j = some m) (q : P () (C.set k (.lst (ds.set m d)))) : Ok (setD (.hnd k) (.int j) d) C P := by
  unfold Ok setD
  simp only [h, hm]
  exact q
theorem oIx_hnd {k : Nat} {C : Cells} {ds : List D} {i : Int} (h : C[k]? = some (.lst ds)) : oIx C (.hnd k) (.int i) = atI ds i := by
  show (match look C (.hnd k) with | .tup ds => atI ds i | .lst ds => atI ds i | .scr ds => atI ds i | .ktp ds => atI ds i | .str s => if s.length ≤ sizeLine then (atI s.cps.toList i).map fun c => D.str ⟨#[c]⟩ else none | _ => none) = _
  rw [look_hnd h]
theorem oIx_tup {C : Cells} {ds : List D} {i : Int} : oIx C (.tup ds) (.int i) = atI ds i := rfl
theorem oIx_lst {C : Cells} {ds : List D} {i : Int} : oIx C (.lst ds) (.int i) = atI ds i := rfl
theorem oIx_ktp {C : Cells} {ds : List D} {i : Int} : oIx C (.ktp ds) (.int i) = atI ds i := rfl
theorem oIx_scr {C : Cells} {ds : List D} {i : Int} : oIx C (.scr ds) (.int i) = atI ds i := rfl
theorem PoolAt.put {k : Nat} {C : Cells} {ds : List D} (a b c : Int) (h : C[k]? = some (.lst ds)) : (C.set k (.lst [.int a, .int b, .int c]))[k]? = some (.lst [.int a, .int b, .int c]) := List.getElem?_set_self (List.getElem?_eq_some_iff.mp h).1
theorem Gr.put {k : Nat} {C C1 : Cells} (g : Gr k C C1) (a b c : Int) : Gr k C (C1.set k (.lst [.int a, .int b, .int c])) := by
  obtain ⟨x, y, z, hp⟩ := g.pool
  refine ⟨⟨a, b, c, List.getElem?_set_self g.pool.lt⟩, ?_, fun i h1 h2 => ?_⟩
  · simp; exact g.len
  · rw [List.getElem?_set_ne (by omega)]; exact g.same i h1 h2
/-- one step of an item's place, by what is known -/
theorem atI_ok {ds : List D} {i : Int} (h1 : 0 ≤ i) (h2 : i < ds.length) : ∃ d, atI ds i = some d ∧ d ∈ ds := by
  have e : ixN ds.length i = some i.toNat := by
    unfold ixN
    rw [if_pos h1, if_pos h2]
  unfold atI
  rw [e]
  have hl : i.toNat < ds.length := by omega
  exact ⟨ds[i.toNat], by simp [hl], List.getElem_mem hl⟩
theorem oPow_ok {C : Cells} (i j : Int) (h : 0 ≤ j ∧ j ≤ 1000000 ∧ i.natAbs < 2 ^ 64) : oPow C (.int i) (.int j) = some (.int (i ^ j.toNat)) := by
  show (if CPow i j then some (D.int (i ^ j.toNat)) else none) = _
  rw [if_pos (show CPow i j from h)]
theorem atI_map {ns : List Int} {i : Int} (h1 : 0 ≤ i) (h2 : i < ns.length) : ∃ n, atI (ns.map D.int) i = some (.int n) := by
  obtain ⟨d, h, hm⟩ := atI_ok (ds := ns.map D.int) h1 (by simpa using h2)
  obtain ⟨n, _, rfl⟩ := List.mem_map.mp hm
  exact ⟨n, h⟩
theorem mem_cut {ds : List D} {d : D} {lo hi : Option Int} (h : d ∈ cutL ds lo hi) : d ∈ ds := List.mem_of_mem_drop (List.mem_of_mem_take h)
@[simp] theorem sl_scr {C : Cells} {ds : List D} {lo hi : Option Int} : sl C (.scr ds) lo hi = some (.lst (cutL ds lo hi)) := rfl
@[simp] theorem sl_lst {C : Cells} {ds : List D} {lo hi : Option Int} : sl C (.lst ds) lo hi = some (.lst (cutL ds lo hi)) := rfl
@[simp] theorem sl_tup {C : Cells} {ds : List D} {lo hi : Option Int} : sl C (.tup ds) lo hi = some (.tup (cutL ds lo hi)) := rfl
/-- a whole number, no truth, from i to j -/
def btw (d : D) (i j : Int) : Bool := match d with
  | .int n => decide (i ≤ n) && decide (n ≤ j)
  | _ => false
theorem btw_int {d : D} {i j : Int} (h : btw d i j = true) : ∃ n, d = .int n ∧ i ≤ n ∧ n ≤ j := by
  cases d with
  | int n => exact ⟨n, rfl, by simpa [btw] using h⟩
  | _ => cases h
def num : D → Int
  | .int n => n
  | _ => 0
@[simp] theorem num_int (n : Int) : num (.int n) = n := rfl
theorem okL_all (n : Nat) : ∀ ds : List D, okL n ds = ds.all (okD n)
  | [] => by cases n <;> rfl
  | d :: ds => by
    show (okD n d && okL n ds) = _
    rw [okL_all n ds, List.all_cons]
/-- fine, fit for == -/
def itm (d : D) : Bool := fine d && okD 59 d
/-- fine, its items too -/
def good (d : D) : Bool := fine d && match d with
  | .tup ds => ds.all itm
  | _ => true
theorem itm_fine {d : D} (h : itm d = true) : fine d = true := (Bool.and_eq_true_iff.mp h).1
theorem itm_ok {d : D} (h : itm d = true) : okD 59 d = true := (Bool.and_eq_true_iff.mp h).2
theorem okQ_lst {ds : List D} (h : ∀ d ∈ ds, okD 59 d = true) : okQ (.lst ds) = true := by
  show okL 59 ds = true
  rw [okL_all, List.all_eq_true]
  exact h
theorem eqD_nil (ds : List D) : eqD (.lst ds) (.lst []) = ds.isEmpty := by cases ds <;> rfl
theorem oNe_nil {C : Cells} {ds : List D} (h : ∀ d ∈ ds, okD 59 d = true) : oNe C (.lst ds) (.lst []) = some (.bl (!ds.isEmpty)) := by
  show (if okQ (.lst ds) && okQ (.lst []) then some (D.bl (!eqD (.lst ds) (.lst []))) else none) = _
  rw [okQ_lst h, eqD_nil]
  rfl
theorem oEq_nil {C : Cells} {ds : List D} (h : ∀ d ∈ ds, okD 59 d = true) : oEq C (.lst ds) (.lst []) = some (.bl ds.isEmpty) := by
  show (if okQ (.lst ds) && okQ (.lst []) then some (D.bl (eqD (.lst ds) (.lst []))) else none) = _
  rw [okQ_lst h, eqD_nil]
  rfl
theorem isI_int {d : D} (h : isI d = true) : ∃ n, d = .int n := by
  cases d with
  | int n => exact ⟨n, rfl⟩
  | _ => cases h
theorem btw_not {d : D} (h : isI d = false) (i j : Int) : btw d i j = false := by
  cases d with
  | int n => cases h
  | _ => rfl
theorem leaf {P : D → Cells → Prop} {C : Cells} {b b' : Bool} (h : P (.bl b) C) (e : b = b') : P (.bl b') C := e ▸ h
theorem okD_ofString (n : Nat) (s : String) : okD n (.str (Str.ofString s)) = true := by
  have e : okD n (.str (Str.ofString s)) = PyData.strOk (Str.ofString s) := by cases n <;> rfl
  rw [e, Str.ofString_eq_toList]
  unfold PyData.strOk
  simp only [List.all_toArray, List.all_map, List.all_eq_true, Function.comp, decide_eq_true_eq]
  intro c _
  have h := c.valid
  have e2 : c.toNat = c.val.toNat := rfl
  rw [e2]
  rcases h with h | ⟨_, h⟩
  · exact Nat.lt_trans h (by decide)
  · exact h
theorem oStrI_ok {C : Cells} {i : Int} (h : i.natAbs < 2 ^ 64) : oStrI C [.int i] = some (.str (Str.ofString (toString i))) := by
  show (if i.natAbs.log2 < 1920 then _ else _) = _
  rw [if_pos]
  by_cases h0 : i.natAbs = 0
  · rw [h0]; decide
  · exact Nat.lt_of_lt_of_le ((Nat.log2_lt h0).mpr h) (by decide)
theorem oAdd_tup {C : Cells} {a b : List D} (h : a.length + b.length ≤ 1000000) : oAdd C (.tup a) (.tup b) = some (.tup (a ++ b)) := by
  show (if a.length + b.length ≤ sizeLine then some (D.tup (a ++ b)) else none) = _
  rw [if_pos (Nat.le_trans h (by decide))]
theorem oAdd_lst {C : Cells} {a b : List D} {x y : D} (hx : look C x = .lst a) (hy : look C y = .lst b) (h : a.length + b.length ≤ 1000000) : oAdd C x y = some (.lst (a ++ b)) := by
  unfold oAdd
  rw [hx, hy]
  show (if a.length + b.length ≤ sizeLine then some (D.lst (a ++ b)) else none) = _
  rw [if_pos (Nat.le_trans h (by decide))]
theorem catL_ok {C : Cells} {a b : List D} {x y : D} {P : D → Cells → Prop} (hx : look C x = .lst a) (hy : look C y = .lst b) (h : a.length + b.length ≤ 1000000) : Ok (catL x y) C P = P (.hnd C.length) (C ++ [.lst (a ++ b)]) := by
  unfold Ok catL
  simp only [hx, hy]
  rw [if_pos (Nat.le_trans h (by decide))]
  rfl
@[simp] theorem Ok_xCat {f g : EX} {ρ : Ro} {C : Cells} (P : D → Cells → Prop) : Ok (xCat f g ρ) C P = Ok (f ρ) C fun x C => Ok (g ρ) C fun y C => Ok (catL x y) C P := by simp [xCat]
@[simp] theorem Ok_xApp {f : EX} {fa : AX} {ρ : Ro} {C : Cells} (P : D → Cells → Prop) : Ok (xApp f fa ρ) C P = Ok (f ρ) C fun o C => Ok (chkL o) C fun _ C => Ok (fa ρ) C fun ys C => Ok (app1 o ys) C P := by simp [xApp]
theorem chkL_ok {k : Nat} {C : Cells} {ds : List D} {P : Unit → Cells → Prop} (h : C[k]? = some (.lst ds)) : Ok (chkL (.hnd k)) C P = P () C := by
  unfold Ok chkL
  simp only [h]
theorem app_ok {k : Nat} {C : Cells} {ds : List D} {y : D} {P : D → Cells → Prop} (h : C[k]? = some (.lst ds)) (hl : ds.length < 1000000) : Ok (app1 (.hnd k) [y]) C P = P .non (C.set k (.lst (ds ++ [y]))) := by
  unfold Ok app1 appD
  simp only [h]
  rw [if_pos (Nat.lt_of_lt_of_le hl (by decide))]
theorem cut_len {ds : List D} {lo hi : Option Int} : (cutL ds lo hi).length ≤ ds.length := by
  unfold cutL
  rw [List.length_take, List.length_drop]
  omega
@[simp] theorem Ok_xRevT {f : EX} {ρ : Ro} {C : Cells} (P : D → Cells → Prop) : Ok (xRevT f ρ) C P = Ok (f ρ) C fun x C => opt (match look C x with | .tup ds => some (.tup ds.reverse) | _ => none) fun z => P z C := by
  simp only [xRevT, Ok_x1] <;> rfl
@[simp] theorem oList_tup {C : Cells} {ds : List D} : oList C [.tup ds] = some (.lst ds) := rfl
@[simp] theorem oTuple_lst {C : Cells} {ds : List D} : oTuple C [.lst ds] = some (.tup ds) := rfl
@[simp] theorem oTuple_tup {C : Cells} {ds : List D} : oTuple C [.tup ds] = some (.tup ds) := rfl
@[simp] theorem oList_lst {C : Cells} {ds : List D} : oList C [.lst ds] = some (.lst ds) := rfl
theorem good_tup {ds : List D} (h : ∀ d ∈ ds, itm d = true) : good (.tup ds) = true := by
  show (true && ds.all itm) = true
  simpa using h
/-! rows, ranges, zip -/
section
variable {C : Cells} {f g : EX} {fa : AX} {ρ : Ro}
@[simp] theorem Ok_iZp (P : Src → Cells → Prop) : Ok (iZp fa ρ) C P = Ok (fa ρ) C fun xs C => opt (match xs with
  | [x, y] => zipO x y
  | _ => none) fun s => P s C := by simp [iZp] <;> rfl
@[simp] theorem Ok_iEn (P : Src → Cells → Prop) : Ok (iEn fa ρ) C P = Ok (fa ρ) C fun xs C => opt (match xs with
  | [x] => (lstOf x).map fun ds => ⟨zpD (idD ds) ds, none⟩
  | _ => none) fun s => P s C := by simp [iEn] <;> rfl
@[simp] theorem zip_tt (a b : List D) : zipO (.tup a) (.tup b) = some ⟨zpD a b, none⟩ := rfl
@[simp] theorem zip_ll (a b : List D) : zipO (.lst a) (.lst b) = some ⟨zpD a b, none⟩ := rfl
@[simp] theorem Ok_xLcC {p : BX} (fi : IX) (vs : List Nat) (t : TX) (P : D → Cells → Prop) : Ok (xLcC fi vs t p f ρ) C P = Ok (fi ρ) C fun s C => Ok (lcD s t p f (wipeD ρ vs) s.items []) C fun ds C => P (.hnd C.length) (C ++ [.lst ds]) := by
  simp only [xLcC, Ok_bnd, Ok_nb]
  rfl
theorem intsO_map : ∀ ns : List Int, intsO (ns.map D.int) = some ns
  | [] => rfl
  | n :: ns => by show (intsO (ns.map D.int)).map _ = _; rw [intsO_map ns]; rfl
theorem blsO_map : ∀ ns : List Bool, blsO (ns.map D.bl) = some ns
  | [] => rfl
  | n :: ns => by show (blsO (ns.map D.bl)).map _ = _; rw [blsO_map ns]; rfl
theorem oSset_ok {x : D} {ns : List Int} (h : seqOf (look C x) = some (ns.map D.int)) (hl : ns.length < 64) : oSset C x = some (.lst ((dsort ns).map D.int)) := by
  unfold oSset seqInts
  rw [h, Option.bind_some, intsO_map, Option.bind_some, if_pos hl]
theorem oSset2_ok {x : D} {ns : List Int} (h : seqOf (look C x) = some (ns.map D.int)) (hl : (dsort ns).length < 64) (h2 : ns.length ≤ 1000) : oSset2 C x = some (.lst ((dsort ns).map D.int)) := by
  unfold oSset2 seqInts
  rw [h, Option.bind_some, intsO_map, Option.bind_some, if_pos ⟨hl, h2⟩]
theorem oAll_ok (bs : List Bool) : oAll C [.lst (bs.map D.bl)] = some (.bl (bs.all id)) := by
  show ((blsO (bs.map D.bl)).bind fun ns => some (D.bl (ns.all id))) = _
  rw [blsO_map]; rfl
theorem oAny_ok (bs : List Bool) : oAny C [.lst (bs.map D.bl)] = some (.bl (bs.any id)) := by
  show ((blsO (bs.map D.bl)).bind fun ns => some (D.bl (ns.any id))) = _
  rw [blsO_map]; rfl
theorem cut1 {β : Type} (ds : List β) : cutL ds (some 1) none = ds.drop 1 := by
  show (ds.drop (min 1 ds.length)).take (ds.length - min 1 ds.length) = _
  cases ds with
  | nil => rfl
  | cons x r => simp
theorem cutTo {β : Type} (ds : List β) (n : Nat) : cutL ds none (some (n : Int)) = ds.take n := by
  unfold cutL
  rw [HT.sIx_nat]
  show (ds.drop 0).take (min n ds.length - 0) = _
  simp
theorem eqL_ints : ∀ ns ms : List Int, eqL (ns.map D.int) (ms.map D.int) = decide (ns = ms)
  | [], [] => rfl
  | [], _ :: _ => rfl
  | _ :: _, [] => rfl
  | n :: ns, m :: ms => by
    show ((n == m) && eqL (ns.map D.int) (ms.map D.int)) = _
    rw [eqL_ints ns ms, Bool.eq_iff_iff]
    simp
theorem okL_ints (n : Nat) (ns : List Int) : okL n (ns.map D.int) = true := by
  rw [okL_all, List.all_eq_true]
  intro d hd
  obtain ⟨x, _, rfl⟩ := List.mem_map.mp hd
  cases n <;> rfl
theorem eqD_refl {d : D} {n : Nat} (h : okD n d = true) : eqD d d = true := PySem.SeqAt.eqv_refl _ (okD_lay n d h).1
theorem oNe_ints (ns ms : List Int) : oNe C (.lst (ns.map D.int)) (.lst (ms.map D.int)) = some (.bl (!decide (ns = ms))) := by
  show (if okL 59 (ns.map D.int) && okL 59 (ms.map D.int) then some (D.bl (!eqL (ns.map D.int) (ms.map D.int))) else none) = _
  rw [okL_ints, okL_ints, eqL_ints]
  rfl
theorem oEq_ints (ns ms : List Int) : oEq C (.lst (ns.map D.int)) (.lst (ms.map D.int)) = some (.bl (decide (ns = ms))) := by
  show (if okL 59 (ns.map D.int) && okL 59 (ms.map D.int) then some (D.bl (eqL (ns.map D.int) (ms.map D.int))) else none) = _
  rw [okL_ints, okL_ints, eqL_ints]
  rfl
/-- strictly rising -/
def ris : List D → Bool
  | x :: y :: r => decide (num x < num y) && ris (y :: r)
  | _ => true
theorem ris_pw : ∀ ns : List Int, ris (ns.map D.int) = decide (ns.Pairwise (· < ·))
  | [] => by simp [ris]
  | [x] => by simp [ris]
  | x :: y :: r => by
    have ih := ris_pw (y :: r)
    show (decide (x < y) && ris ((y :: r).map D.int)) = _
    rw [ih, Bool.eq_iff_iff]
    simp only [Bool.and_eq_true, decide_eq_true_eq]
    rw [List.pairwise_cons (a := x)]
    constructor
    · rintro ⟨h1, h2⟩
      refine ⟨fun k hk => ?_, h2⟩
      rcases List.mem_cons.mp hk with rfl | hk
      · exact h1
      · exact Int.lt_trans h1 ((List.pairwise_cons.mp h2).1 k hk)
    · rintro ⟨h1, h2⟩
      exact ⟨h1 y List.mem_cons_self, h2⟩
theorem dsort_id {ns : List Int} (h : ns.Pairwise (· < ·)) : dsort ns = ns := rise_eq (pw_dsort ns) h fun _ => mem_dsort
theorem dsort_iff {ns : List Int} : ns = dsort ns ↔ ns.Pairwise (· < ·) := ⟨fun h => h ▸ pw_dsort ns, fun h => (dsort_id h).symm⟩
theorem btw_all {lo hi : Int} : ∀ {ds : List D}, ds.all (fun d => btw d lo hi) = true → ∃ ns : List Int, ds = ns.map D.int ∧ ∀ n ∈ ns, lo ≤ n ∧ n ≤ hi
  | [], _ => ⟨[], rfl, fun _ h => nomatch h⟩
  | d :: ds, h => by
    simp only [List.all_cons, Bool.and_eq_true] at h
    obtain ⟨n, rfl, h1⟩ := btw_int h.1
    obtain ⟨ns, rfl, h2⟩ := btw_all h.2
    refine ⟨n :: ns, rfl, fun k hk => ?_⟩
    rcases List.mem_cons.mp hk with rfl | hk
    · exact h1
    · exact h2 k hk
theorem all_btw {lo hi : Int} {ns : List Int} (h : ∀ n ∈ ns, lo ≤ n ∧ n ≤ hi) : (ns.map D.int).all (fun d => btw d lo hi) = true := by
  rw [List.all_eq_true]
  intro d hd
  obtain ⟨n, hn, rfl⟩ := List.mem_map.mp hd
  have := h n hn
  simp [btw, this]
/-- what are_rising compares -/
def lesO : D → Option D
  | .tup [.int i, .int j] => some (.bl (decide (i < j)))
  | _ => none
theorem les_ris : ∀ ns : List Int, ∃ bs : List Bool, (zpD (ns.map D.int) ((ns.map D.int).drop 1)).filterMap lesO = bs.map D.bl ∧ bs.all id = ris (ns.map D.int)
  | [] => ⟨[], rfl, rfl⟩
  | [x] => ⟨[], rfl, rfl⟩
  | x :: y :: r => by
    obtain ⟨bs, h1, h2⟩ := les_ris (y :: r)
    refine ⟨decide (x < y) :: bs, ?_, ?_⟩
    · show (D.bl (decide (x < y)) :: (zpD ((y :: r).map D.int) (((y :: r).map D.int).drop 1)).filterMap lesO) = _
      rw [h1]; rfl
    · show (decide (x < y) && bs.all id) = (decide (x < y) && ris ((y :: r).map D.int))
      rw [h2]
theorem mem_zp {ds es : List D} {d : D} (h : d ∈ zpD ds es) : ∃ x y, d = .tup [x, y] ∧ x ∈ ds ∧ y ∈ es := by
  obtain ⟨i, hi⟩ := List.mem_iff_getElem?.mp h
  obtain ⟨x, y, h1, h2, rfl⟩ := zpD_get hi
  exact ⟨x, y, rfl, List.mem_iff_getElem?.mpr ⟨i, h1⟩, List.mem_iff_getElem?.mpr ⟨i, h2⟩⟩
end
/-! two clauses, dicts -/
section
variable {C : Cells} {f g : EX} {fa : AX} {ρ : Ro} {A : Type} {t : TX} {p : BX} {body : Ro → A → Mo A} {ρw : Ro} {ds : List D}
@[simp] theorem lp_nil (a : A) (P : A → Cells → Prop) : Ok (lp ⟨ds, none⟩ t p ρw body [] a) C P = P a C := by
  unfold Ok lp
  rfl
theorem lp_cons (x : D) (xs : List D) (a : A) (P : A → Cells → Prop) : Ok (lp ⟨ds, none⟩ t p ρw body (x :: xs) a) C P = Ok (t x ρw) C fun ρ1 C => Ok (p ρ1) C fun b C => iff2 b (Ok (body ρ1 a) C fun a' C => Ok (lp ⟨ds, none⟩ t p ρw body xs a') C P) (Ok (lp ⟨ds, none⟩ t p ρw body xs a) C P) := by
  have e : Ok (lp ⟨ds, none⟩ t p ρw body (x :: xs) a) C P = Ok (bnd (t x ρw) (fun ρ1 => bnd (p ρ1) fun b => if b = true then bnd (body ρ1 a) fun a' => lp ⟨ds, none⟩ t p ρw body xs a' else lp ⟨ds, none⟩ t p ρw body xs a)) C P := by
    unfold Ok
    conv => lhs; unfold lp
    rfl
  rw [e]
  simp only [Ok_bnd, ite_2]
theorem lp_ok {Q : A → Cells → Prop} (I : List D → A → Cells → Prop) (hi : ∀ x xs a C, x ∈ ds → I (x :: xs) a C → ∀ J : A → Cells → Prop, (∀ a C, I xs a C → J a C) → Ok (t x ρw) C fun ρ1 C1 => Ok (p ρ1) C1 fun b C2 => iff2 b (Ok (body ρ1 a) C2 J) (J a C2))
    (hd : ∀ a C, I [] a C → Q a C) : ∀ (xs : List D) (a : A) (C : Cells), (∀ x ∈ xs, x ∈ ds) → I xs a C → Ok (lp ⟨ds, none⟩ t p ρw body xs a) C Q := by
  intro xs
  induction xs with
  | nil => intro a C _ q; rw [lp_nil]; exact hd a C q
  | cons x xs ih =>
    intro a C hx q
    rw [lp_cons]
    refine (hi x xs a C (hx x List.mem_cons_self) q (fun a C => I xs a C) fun _ _ h => h).mono fun ρ1 C1 h1 => h1.mono fun b C2 h2 => ?_
    cases b with
    | true =>
      rw [iff2_t] at h2 ⊢
      exact h2.mono fun y C3 h3 => ih _ _ (fun z hz => hx z (List.mem_cons_of_mem _ hz)) h3
    | false =>
      rw [iff2_f] at h2 ⊢
      exact ih _ _ (fun z hz => hx z (List.mem_cons_of_mem _ hz)) h2
@[simp] theorem Ok_xDc2 (fi : IX) (vs : List Nat) (fi1 : IX) (ws : List Nat) (t1 : TX) (p1 : BX) (P : D → Cells → Prop) : Ok (xDc2 fi vs t p fi1 ws t1 p1 f g ρ) C P = Ok (fi ρ) C fun s C => Ok (lp s t p (wipeD ρ vs) (fun ρ1 acc => bnd (fi1 ρ1) fun s1 => lp s1 t1 p1 (wipeD ρ1 ws) (putT f g) s1.items acc) s.items []) C fun acc C => P (.dct (acc.map fun e => ktD e.1) (acc.map (·.2))) C := by
  simp only [xDc2, Ok_bnd, Ok_nb, Ok_ret]
@[simp] theorem Ok_iEnT (P : Src → Cells → Prop) : Ok (iEnT fa ρ) C P = Ok (fa ρ) C fun xs C => opt (match xs with
  | [x] => (tupOf x).map fun ds => ⟨zpD (idD ds) ds, none⟩
  | _ => none) fun s => P s C := by simp [iEnT] <;> rfl
@[simp] theorem Ok_gUnp (n : Nat) (t : List D → Ro → Mo Ro) (es : List D) (P : Ro → Cells → Prop) : Ok (gUnpD n t (.lst es) ρ) C P = (es.length = n ∧ Ok (t es ρ) C P) := by
  unfold gUnpD
  by_cases h : es.length = n
  · simp [h]
  · simp [h]
theorem inD_ints (neg : Bool) (n : Int) (ns : List Int) {y : D} (hy : seqOf (look C y) = some (ns.map D.int)) : inD neg C (.int n) y = some (.bl (if neg then !decide (n ∈ ns) else decide (n ∈ ns))) := by
  unfold inD
  rw [hy]
  have h1 : (ns.map D.int).all flatD = true := by
    rw [List.all_eq_true]
    intro d hd
    obtain ⟨x, _, rfl⟩ := List.mem_map.mp hd
    rfl
  have h2 : (ns.map D.int).any (fun d => eqD d (look C (.int n))) = decide (n ∈ ns) := by
    rw [Bool.eq_iff_iff, List.any_eq_true, decide_eq_true_eq]
    constructor
    · rintro ⟨d, hd, e⟩
      obtain ⟨x, hx, rfl⟩ := List.mem_map.mp hd
      have e : (x == n) = true := e
      rw [beq_iff_eq] at e
      exact e ▸ hx
    · intro h
      exact ⟨.int n, List.mem_map.mpr ⟨n, h, rfl⟩, by show (n == n) = true; simp⟩
  simp only [h1, h2]
  rfl
theorem prsO_map : ∀ ps : List (Int × Int), prsO (ps.map pD) = some ps
  | [] => rfl
  | (i, j) :: ps => by
    show (prsO (ps.map pD)).map ((i, j) :: ·) = _
    rw [prsO_map ps]; rfl
theorem oSortedP_ok (ps : List (Int × Int)) {x : D} (hx : lstOf (look C x) = some (ps.map pD)) : oSortedP C [x] = some (.lst ((sortP ps).map pD)) := by
  unfold oSortedP
  simp only [hx, Option.bind_some]
  cases ps with
  | nil =>
    show some (D.lst ((sortI []).map D.int)) = _
    rw [show sortI [] = [] by simp [sortI], show sortP [] = [] by simp [sortP]]
    rfl
  | cons p ps =>
    have e : intsO ((p :: ps).map pD) = none := rfl
    rw [e]
    simp only [prsO_map, Option.map_some]
theorem sortP_perm (ps : List (Int × Int)) : (sortP ps).Perm ps := List.mergeSort_perm ps _
theorem sortP_pw (ps : List (Int × Int)) : (sortP ps).Pairwise fun p q => (!SrtO.lexB q p) = true :=
  List.pairwise_mergeSort (le := fun p q : Int × Int => !SrtO.lexB q p) (fun a b c h1 h2 => by
    have h1 := lex_no.mp h1
    have h2 := lex_no.mp h2
    refine lex_no.mpr ?_
    omega) (fun a b => by
    rw [Bool.or_eq_true, lex_no, lex_no]
    omega) ps
/-- the seconds of a sorted row of unlike pairs, by their first: they rise -/
theorem side_pw {ps : List (Int × Int)} (hn : ps.Nodup) (s : Int) : (((sortP ps).filter fun p => decide (p.1 = s)).map (·.2)).Pairwise (· < ·) := by
  have h1 := (sortP_pw ps).filter (fun p => decide (p.1 = s))
  have h2 : ((sortP ps).filter fun p => decide (p.1 = s)).Nodup := ((sortP_perm ps).nodup_iff.mpr hn).filter _
  rw [List.pairwise_map]
  refine (h1.and h2).imp_of_mem fun {p q} hp hq ⟨a, b⟩ => ?_
  have e1 : p.1 = s := by simpa using (List.mem_filter.mp hp).2
  have e2 : q.1 = s := by simpa using (List.mem_filter.mp hq).2
  have a := lex_no.mp a
  by_cases h : p.2 = q.2
  · exact absurd (Prod.ext (e1.trans e2.symm) h) b
  · omega
theorem side_mem {ps : List (Int × Int)} {s k : Int} : k ∈ ((sortP ps).filter fun p => decide (p.1 = s)).map (·.2) ↔ (s, k) ∈ ps := by
  rw [List.mem_map]
  constructor
  · rintro ⟨⟨i, j⟩, hm, rfl⟩
    obtain ⟨h1, h2⟩ := List.mem_filter.mp hm
    have e : i = s := by simpa using h2
    subst e
    exact (sortP_perm ps).mem_iff.mp h1
  · intro h
    exact ⟨(s, k), List.mem_filter.mpr ⟨(sortP_perm ps).mem_iff.mpr h, by simp⟩, rfl⟩
/-! keys of pairs -/
def kp (p : Int × Int) : List Key := [.inl p.1, .inl p.2]
theorem kp_inj {p q : Int × Int} (h : kp p = kp q) : p = q := by
  obtain ⟨a, b⟩ := p
  obtain ⟨c, d⟩ := q
  unfold kp at h
  simp only [List.cons.injEq, Sum.inl.injEq, and_true] at h
  exact Prod.ext h.1 h.2
theorem ktD_kp (p : Int × Int) : ktD (kp p) = pD p := rfl
theorem keysD_pair (i j : Int) : keysD [.int i, .int j] = some (kp (i, j)) := rfl
/-- what a dict of pairs holds: its keys -/
structure Ks (acc : List (List Key × D)) (ps : List (Int × Int)) : Prop where
  eq : acc.map (·.1) = ps.map kp
  nd : ps.Nodup
theorem Ks.put {acc : List (List Key × D)} {ps : List (Int × Int)} (h : Ks acc ps) (p : Int × Int) (v : D) : ∃ qs, Ks (putD acc (kp p) v) qs ∧ (∀ q, q ∈ qs ↔ q ∈ ps ∨ q = p) ∧ qs.length ≤ ps.length + 1 := by
  have hany : (acc.any fun e => decide (e.1 = kp p)) = decide (p ∈ ps) := by
    have e : (acc.any fun e => decide (e.1 = kp p)) = (acc.map (·.1)).any fun k => decide (k = kp p) := by rw [List.any_map]; rfl
    rw [e, h.eq, List.any_map, Bool.eq_iff_iff, List.any_eq_true, decide_eq_true_eq]
    constructor
    · rintro ⟨q, hq, e⟩
      have := kp_inj (of_decide_eq_true e)
      exact this ▸ hq
    · intro hq
      exact ⟨p, hq, by simp⟩
  unfold putD
  rw [hany]
  by_cases hp : p ∈ ps
  · rw [if_pos (decide_eq_true hp)]
    refine ⟨ps, ⟨?_, h.nd⟩, fun q => ⟨.inl, fun z => z.elim id fun e => e ▸ hp⟩, Nat.le_succ _⟩
    rw [← h.eq, List.map_map]
    refine List.map_congr_left fun e _ => ?_
    show (if e.1 = kp p then (e.1, v) else e).1 = e.1
    split <;> rfl
  · rw [if_neg (by simpa using hp)]
    refine ⟨ps ++ [p], ⟨by rw [List.map_append, List.map_append, h.eq]; rfl, ?_⟩, fun q => by simp, by simp⟩
    rw [List.nodup_append]
    exact ⟨h.nd, by simp, fun a ha b hb => by rw [List.mem_singleton.mp hb]; exact fun e => hp (e ▸ ha)⟩
theorem oListD_ks {acc : List (List Key × D)} {ps : List (Int × Int)} {vs : List D} (h : Ks acc ps) (hl : ps.length ≤ 1000000) : oListD C [.dct (acc.map fun e => ktD e.1) vs] = some (.lst (ps.map pD)) := by
  have e : (acc.map fun e => ktD e.1) = ps.map pD := by
    rw [show (acc.map fun e => ktD e.1) = (acc.map (·.1)).map ktD by rw [List.map_map]; rfl, h.eq, List.map_map]
    rfl
  rw [e]
  unfold oListD
  simp only [look]
  rw [if_pos]
  rw [Bool.and_eq_true, List.all_eq_true]
  refine ⟨fun d hd => ?_, by simpa using hl⟩
  obtain ⟨p, _, rfl⟩ := List.mem_map.mp hd
  rfl
theorem mem_en {xs : List D} {d : D} (h : d ∈ zpD (idD xs) xs) : ∃ (i : Nat) (x : D), d = .tup [.int i, x] ∧ xs[i]? = some x := by
  obtain ⟨i, hi⟩ := List.mem_iff_getElem?.mp h
  obtain ⟨u, x, h1, h2, rfl⟩ := zpD_get hi
  unfold idD at h1
  rw [List.getElem?_map] at h1
  obtain ⟨j, h3, h4⟩ := Option.map_eq_some_iff.mp h1
  obtain ⟨h5, h6⟩ := List.getElem?_eq_some_iff.mp h3
  rw [List.getElem_range] at h6
  subst h6 h4
  exact ⟨i, x, rfl, h2⟩
end
/-! loops over any source -/
theorem Src.chk_eq {β : Type} {s : Src} {C : Cells} {o b : β} (h : s.ok C) : s.chk C o b = o := by
  unfold Src.ok at h
  unfold Src.chk
  cases hs : s.cell with
  | none => rfl
  | some p => simp only [hs] at h ⊢; rw [if_pos h]
theorem forS_ok {s : Src} {t : TX} {b : SX} {P : Fl → Ro → Cells → Prop} (I : List D → Ro → Cells → Prop) (hok : ∀ xs ρ C, I xs ρ C → s.ok C) (hi : ∀ x xs ρ C, x ∈ s.items → I (x :: xs) ρ C → ∀ J : Ro → Cells → Prop, (∀ ρ C, I xs ρ C → J ρ C) → Ok (t x ρ) C fun ρ1 C1 => OkS (b ρ1 C1) (FlP (fun _ => J) P)) (hd : ∀ ρ C, I [] ρ C → P .nx ρ C) :
    ∀ (xs : List D) (ρ : Ro) (C : Cells), (∀ x ∈ xs, x ∈ s.items) → I xs ρ C → OkS (forD s t b xs ρ C) P
  | [], ρ, C, _, h => by
    unfold forD
    rw [Src.chk_eq (hok _ _ _ h), OkS_ok]
    exact hd ρ C h
  | x :: xs, ρ, C, hx, h => by
    unfold forD
    rw [Src.chk_eq (hok _ _ _ h)]
    simp only [OkS_sE]
    refine (hi x xs ρ C (hx x List.mem_cons_self) h _ fun _ _ h => h).mono fun ρ1 C1 h1 => ?_
    unfold OkS at h1 ⊢
    cases hb : b ρ1 C1 with
    | ok f ρ2 C2 =>
      rw [hb] at h1
      cases f with
      | nx => exact forS_ok I hok hi hd xs ρ2 C2 (fun y hy => hx y (List.mem_cons_of_mem _ hy)) h1
      | ct => exact forS_ok I hok hi hd xs ρ2 C2 (fun y hy => hx y (List.mem_cons_of_mem _ hy)) h1
      | bk => exact h1
      | rt d => exact h1
    | err _ _ _ => rw [hb] at h1; exact h1.elim
    | bad => rw [hb] at h1; exact h1.elim
theorem src_hnd {k : Nat} {C : Cells} {ds : List D} {P : Src → Cells → Prop} (h : C[k]? = some (.lst ds)) : Ok (srcSeq (.hnd k)) C P = P ⟨ds, some (k, ds)⟩ C := by simp [srcSeq, h]
theorem oLen_hnd {k : Nat} {C : Cells} {ds : List D} (h : C[k]? = some (.lst ds)) : oLen C [.hnd k] = some (.int ds.length) := by
  unfold oLen
  simp only [look_hnd h]
theorem oTuple_hnd {k : Nat} {C : Cells} {ds : List D} (h : C[k]? = some (.lst ds)) : oTuple C [.hnd k] = some (.tup ds) := by
  unfold oTuple
  simp only [look_hnd h]
  rfl
/-- a value that is walked as a row, as long as no cell of before changes -/
structure RowAt (k : Nat) (C0 : Cells) (y : D) (ds : List D) : Prop where
  run : ∀ C', Gr k C0 C' → ∃ s : Src, s.items = ds ∧ (∀ P : Src → Cells → Prop, Ok (srcSeq y) C' P = P s C') ∧ ∀ C'', Gr k C0 C'' → s.ok C''
theorem RowAt.tup {k : Nat} {C0 : Cells} {ds : List D} : RowAt k C0 (.tup ds) ds := ⟨fun C' _ => ⟨⟨ds, none⟩, rfl, fun P => src_tup ds P, fun _ _ => trivial⟩⟩
theorem RowAt.lst {k : Nat} {C0 : Cells} {ds : List D} : RowAt k C0 (.lst ds) ds := ⟨fun C' _ => ⟨⟨ds, none⟩, rfl, fun P => src_lst ds P, fun _ _ => trivial⟩⟩
theorem RowAt.hnd {k m : Nat} {C0 : Cells} {ds : List D} (h : C0[m]? = some (.lst ds)) (hm : m ≠ k) : RowAt k C0 (.hnd m) ds := ⟨fun C' g => by
  have st : ∀ C'', Gr k C0 C'' → C''[m]? = some (.lst ds) := fun C'' g'' => (g''.same m hm (List.getElem?_eq_some_iff.mp h).1).trans h
  exact ⟨⟨ds, some (m, ds)⟩, rfl, fun P => src_hnd (st C' g), fun C'' g'' => st C'' g''⟩⟩
theorem callP_ok {i n : Nat} {tbl : Str → Option (List D → Mo D)} {fa : AX} {ρ : Ro} {C : Cells} {P : D → Cells → Prop} {x : Str} {g : List D → Mo D} (h : ρ.getD i none = some (.fn x)) (ht : tbl x = some g) : Ok (xCallP i n tbl fa ρ) C P = Ok (xCall n g fa ρ) C P := by
  simp only [xCallP, Ok_bnd, Ok_xV, h, opt_some, ht]
theorem atI_neg {β : Type} {xs : List β} {k : Nat} (h0 : 0 < k) (h : k ≤ xs.length) : atI xs (-(k : Int)) = xs[xs.length - k]? := by
  unfold atI ixN
  rw [if_neg (by omega), if_pos (by omega)]
  show xs[(-(k : Int) + xs.length).toNat]? = _
  rw [show (-(k : Int) + xs.length).toNat = xs.length - k by omega]
/-- a comprehension that changes no cell, over any source -/
theorem lcS_map {s : Src} {t : TX} {p : BX} {f : EX} {ρw : Ro} {C : Cells} {Q : List D → Cells → Prop} (F : D → Option D) (hok : s.ok C) (h : ∀ x ∈ s.items, Ok (t x ρw) C fun ρ1 C1 => Ok (p ρ1) C1 fun b C2 => iff2 b (Ok (f ρ1) C2 fun y C3 => C3 = C ∧ F x = some y) (C2 = C ∧ F x = none)) :
    ∀ (xs acc : List D), (∀ x ∈ xs, x ∈ s.items) → Q (acc ++ xs.filterMap F) C → Ok (lcD s t p f ρw xs acc) C Q := by
  intro xs
  induction xs with
  | nil =>
    intro acc _ q
    have e : Ok (lcD s t p f ρw [] acc) C Q = Q acc C := by
      unfold Ok
      conv => lhs; unfold lcD
      rw [Src.chk_eq hok]
    rw [e]
    simpa using q
  | cons x xs ih =>
    intro acc hx q
    have e : Ok (lcD s t p f ρw (x :: xs) acc) C Q = Ok (bnd (t x ρw) (fun ρ1 => bnd (p ρ1) fun b => if b = true then bnd (f ρ1) fun y => lcD s t p f ρw xs (acc ++ [y]) else lcD s t p f ρw xs acc)) C Q := by
      unfold Ok
      conv => lhs; unfold lcD
      rw [Src.chk_eq hok]
    rw [e]
    simp only [Ok_bnd, ite_2]
    refine (h x (hx x List.mem_cons_self)).mono fun ρ1 C1 h1 => h1.mono fun b C2 h2 => ?_
    cases b with
    | true =>
      rw [iff2_t] at h2 ⊢
      refine h2.mono fun y C3 ⟨e, hy⟩ => ?_
      subst e
      refine ih (acc ++ [y]) (fun z hz => hx z (List.mem_cons_of_mem _ hz)) ?_
      rw [List.filterMap_cons, hy] at q
      simpa using q
    | false =>
      rw [iff2_f] at h2 ⊢
      obtain ⟨e, hy⟩ := h2
      subst e
      refine ih acc (fun z hz => hx z (List.mem_cons_of_mem _ hz)) ?_
      rw [List.filterMap_cons, hy] at q
      exact q
/-! comprehensions of several clauses, dicts of one -/
theorem sz_lt {n : Nat} (h : n ≤ 900000) : n < sizeLine := Nat.lt_of_le_of_lt h (by decide)
section
variable {p p1 p2 : BX} {f g : EX} {ρ : Ro} {C : Cells}
theorem Ok_xLc2 (fi : IX) (vs : List Nat) (t : TX) (fi1 : IX) (ws : List Nat) (t1 : TX) (P : D → Cells → Prop) : Ok (xLc2 fi vs t p fi1 ws t1 p1 f ρ) C P = Ok (fi ρ) C fun s C => Ok (lp s t p (wipeD ρ vs) (fun ρ1 acc => bnd (fi1 ρ1) fun s1 => lp s1 t1 p1 (wipeD ρ1 ws) (addL f) s1.items acc) s.items []) C fun ds C => ds.length ≤ sizeLine ∧ P (.lst ds) C := by
  simp only [xLc2, Ok_bnd, Ok_nb]
  congr 1
  funext s C
  congr 1
  funext ds C
  by_cases h : ds.length ≤ sizeLine
  · rw [if_pos (show ds.length ≤ sizeLine from h), Ok_ret]; simp [h]
  · rw [if_neg (show ¬ ds.length ≤ sizeLine from h), Ok_bad]; simp [h]
theorem Ok_xLc3 (fi : IX) (vs : List Nat) (t : TX) (fi1 : IX) (ws : List Nat) (t1 : TX) (fi2 : IX) (us : List Nat) (t2 : TX) (P : D → Cells → Prop) : Ok (xLc3 fi vs t p fi1 ws t1 p1 fi2 us t2 p2 f ρ) C P = Ok (fi ρ) C fun s C => Ok (lp s t p (wipeD ρ vs) (fun ρ1 acc => bnd (fi1 ρ1) fun s1 => lp s1 t1 p1 (wipeD ρ1 ws) (fun ρ2 acc => bnd (fi2 ρ2) fun s2 => lp s2 t2 p2 (wipeD ρ2 us) (addL f) s2.items acc) s1.items acc) s.items []) C fun ds C => ds.length ≤ sizeLine ∧ P (.lst ds) C := by
  simp only [xLc3, Ok_bnd, Ok_nb]
  congr 1
  funext s C
  congr 1
  funext ds C
  by_cases h : ds.length ≤ sizeLine
  · rw [if_pos (show ds.length ≤ sizeLine from h), Ok_ret]; simp [h]
  · rw [if_neg (show ¬ ds.length ≤ sizeLine from h), Ok_bad]; simp [h]
theorem Ok_xDc1T (fi : IX) (vs : List Nat) (t : TX) (P : D → Cells → Prop) : Ok (xDc1T fi vs t p f g ρ) C P = Ok (fi ρ) C fun s C => Ok (lp s t p (wipeD ρ vs) (putT f g) s.items []) C fun acc C => P (.dct (acc.map fun e => ktD e.1) (acc.map (·.2))) C := by
  simp only [xDc1T, Ok_bnd, Ok_nb, Ok_ret]
theorem Ok_xDc1K (fi : IX) (vs : List Nat) (t : TX) (P : D → Cells → Prop) : Ok (xDc1K fi vs t p f g ρ) C P = Ok (fi ρ) C fun s C => Ok (lp s t p (wipeD ρ vs) (putI f g) s.items []) C fun acc C => P (.dct (acc.map fun e => kD e.1) (acc.map (·.2))) C := by
  simp only [xDc1K, Ok_bnd, Ok_nb, Ok_ret]
theorem Ok_addL (acc : List D) (P : List D → Cells → Prop) : Ok (addL f ρ acc) C P = Ok (f ρ) C fun y C => acc.length < sizeLine ∧ P (acc ++ [y]) C := by
  simp only [addL, Ok_bnd]
  congr 1
  funext y C
  by_cases h : acc.length < sizeLine
  · rw [if_pos (show acc.length < sizeLine from h), Ok_ret]; simp [h]
  · rw [if_neg (show ¬ acc.length < sizeLine from h), Ok_bad]; simp [h]
theorem Ok_putI {k : Key} {acc : List (Key × D)} {d : D} (P : List (Key × D) → Cells → Prop) (hf : ∀ P : D → Cells → Prop, Ok (f ρ) C P = P d C) (hk : keyD d = some k) (hl : acc.length < sizeLine) : Ok (putI f g ρ acc) C P = Ok (g ρ) C fun z C => P (putDk acc k z) C := by
  simp only [putI, Ok_bnd, hf, hk]
  congr 1
  funext z C
  rw [if_pos (show acc.length < sizeLine from hl), Ok_ret]
/-- a walk that appends -/
theorem lp_app {ds : List D} {t : TX} {p : BX} {ρw : Ro} {body : Ro → List D → Mo (List D)} {Q : List D → Cells → Prop} (G : D → List D) (N : Nat) (hG : ∀ x ∈ ds, (G x).length ≤ N)
    (h : ∀ x ∈ ds, ∀ acc : List D, acc.length + N ≤ 900000 → Ok (t x ρw) C fun ρ1 C1 => Ok (p ρ1) C1 fun b C2 => iff2 b (Ok (body ρ1 acc) C2 fun a' C3 => C3 = C ∧ a' = acc ++ G x) (C2 = C ∧ G x = [])) :
    ∀ (xs acc : List D), (∀ x ∈ xs, x ∈ ds) → acc.length + xs.length * N ≤ 900000 → Q (acc ++ xs.flatMap G) C → Ok (lp ⟨ds, none⟩ t p ρw body xs acc) C Q := by
  intro xs
  induction xs with
  | nil => intro acc _ _ q; rw [lp_nil]; simpa using q
  | cons x xs ih =>
    intro acc hx hl q
    rw [List.length_cons, Nat.add_mul] at hl
    have hg := hG x (hx x List.mem_cons_self)
    rw [lp_cons]
    refine (h x (hx x List.mem_cons_self) acc (by omega)).mono fun ρ1 C1 h1 => h1.mono fun b C2 h2 => ?_
    have e : acc ++ (x :: xs).flatMap G = (acc ++ G x) ++ xs.flatMap G := by simp
    rw [e] at q
    cases b with
    | true =>
      rw [iff2_t] at h2 ⊢
      refine h2.mono fun a' C3 ⟨e1, e2⟩ => ?_
      subst e1 e2
      exact ih _ (fun z hz => hx z (List.mem_cons_of_mem _ hz)) (by rw [List.length_append]; omega) q
    | false =>
      rw [iff2_f] at h2 ⊢
      obtain ⟨e1, e2⟩ := h2
      subst e1
      rw [e2, List.append_nil] at q
      exact ih _ (fun z hz => hx z (List.mem_cons_of_mem _ hz)) (by omega) q
end
theorem Ok_iEnA {fa : AX} {ρ : Ro} {C : Cells} (P : Src → Cells → Prop) : Ok (iEnA fa ρ) C P = Ok (fa ρ) C fun xs C => opt (match xs with
  | [x] => (enOf x).map fun ds => ⟨zpD (idD ds) ds, none⟩
  | _ => none) fun s => P s C := by simp [iEnA] <;> rfl
theorem enOf_tup (ds : List D) : enOf (.tup ds) = some ds := rfl
theorem enOf_lst (ds : List D) : enOf (.lst ds) = some ds := rfl
theorem Ok_iEz {j k : Nat} {ρ : Ro} {C : Cells} {ds es : List D} {P : Src → Cells → Prop} (h1 : ρ.getD j none = some (.tup ds)) (h2 : ρ.getD k none = some (.tup es)) : Ok (iEz j k ρ) C P = P ⟨ezD ds es, none⟩ C := by
  simp only [iEz, Ok_bnd, Ok_xV, h1, h2, opt_some, Ok_lft]
theorem OkS_hd {i j k : Nat} {f : EX} {ρ : Ro} {C : Cells} {ds es : List D} {P : Fl → Ro → Cells → Prop} (h1 : ρ.getD j none = some (.tup ds)) (h2 : ρ.getD k none = some (.tup es)) (hi : i < ρ.length) (hj : j ≠ i) (hk : k ≠ i) : OkS (sHd i j k f ρ C) P = OkS (sRet f (ρ.set i none) C) P := by
  simp only [sHd, h1, h2]
  rw [if_pos ⟨hi, hj, hk⟩]
theorem mem_ez {ds es : List D} {d : D} (h : d ∈ ezD ds es) : ∃ (i : Nat) (x y : D), d = .tup [.int i, .tup [x, y]] ∧ ds[i]? = some x ∧ es[i]? = some y := by
  obtain ⟨i, hi⟩ := List.mem_iff_getElem?.mp h
  obtain ⟨x, y, h1, h2, rfl⟩ := ezD_get hi
  exact ⟨i, x, y, rfl, h1, h2⟩
theorem oMulT_ok {C : Cells} {a : List D} {k : Int} (h1 : 1 ≤ k) (h2 : k ≤ 1000) (h3 : a ≠ []) (h4 : a.length ≤ 1000) : oMulT C (.tup a) (.int k) = some (.tup (List.replicate k.toNat a).flatten) := by
  show (if 1 ≤ k ∧ k ≤ 1000 ∧ a ≠ [] ∧ a.length ≤ 1000 then some (D.tup (List.replicate k.toNat a).flatten) else none) = _
  rw [if_pos ⟨h1, h2, h3, h4⟩]
/-- a dict's keys -/
structure KsG {T : Type} (kf : T → List Key) (acc : List (List Key × D)) (ts : List T) : Prop where
  eq : acc.map (·.1) = ts.map kf
  nd : ts.Nodup
theorem KsG.put {T : Type} [DecidableEq T] {kf : T → List Key} (inj : ∀ p q, kf p = kf q → p = q) {acc : List (List Key × D)} {ts : List T} (h : KsG kf acc ts) (p : T) (v : D) : ∃ qs, KsG kf (putD acc (kf p) v) qs ∧ (∀ q, q ∈ qs ↔ q ∈ ts ∨ q = p) ∧ qs.length ≤ ts.length + 1 := by
  have hany : (acc.any fun e => decide (e.1 = kf p)) = decide (p ∈ ts) := by
    have e : (acc.any fun e => decide (e.1 = kf p)) = (acc.map (·.1)).any fun k => decide (k = kf p) := by rw [List.any_map]; rfl
    rw [e, h.eq, List.any_map, Bool.eq_iff_iff, List.any_eq_true, decide_eq_true_eq]
    constructor
    · rintro ⟨q, hq, e⟩
      have := inj _ _ (of_decide_eq_true e)
      exact this ▸ hq
    · intro hq
      exact ⟨p, hq, by simp⟩
  unfold putD
  rw [hany]
  by_cases hp : p ∈ ts
  · rw [if_pos (decide_eq_true hp)]
    refine ⟨ts, ⟨?_, h.nd⟩, fun q => ⟨.inl, fun z => z.elim id fun e => e ▸ hp⟩, Nat.le_succ _⟩
    rw [← h.eq, List.map_map]
    refine List.map_congr_left fun e _ => ?_
    show (if e.1 = kf p then (e.1, v) else e).1 = e.1
    split <;> rfl
  · rw [if_neg (by simpa using hp)]
    refine ⟨ts ++ [p], ⟨by rw [List.map_append, List.map_append, h.eq]; rfl, ?_⟩, fun q => by simp, by simp⟩
    rw [List.nodup_append]
    exact ⟨h.nd, by simp, fun a ha b hb => by rw [List.mem_singleton.mp hb]; exact fun e => hp (e ▸ ha)⟩
theorem KsG.keys {T : Type} {kf : T → List Key} {acc : List (List Key × D)} {ts : List T} (h : KsG kf acc ts) : (acc.map fun e => ktD e.1) = ts.map fun t => ktD (kf t) := by
  rw [show (acc.map fun e => ktD e.1) = (acc.map (·.1)).map ktD by rw [List.map_map]; rfl, h.eq, List.map_map]
  rfl
/-- whether a key is there -/
theorem hasK_ts {T : Type} [DecidableEq T] {kf : T → List Key} (inj : ∀ p q, kf p = kf q → p = q) (ts : List T) (t : T) : hasK (ts.map fun t => ktD (kf t)) (ktD (kf t)) = some (decide (t ∈ ts)) := by
  have e0 : keyD (ktD (kf t)) = none := rfl
  unfold hasK
  rw [e0]
  simp only [keysT_kt]
  rw [if_pos (by rw [List.all_map, List.all_eq_true]; intro x _; show (keysT (ktD (kf x))).isSome = true; rw [keysT_kt]; rfl)]
  congr 1
  rw [List.any_map, Bool.eq_iff_iff, List.any_eq_true, decide_eq_true_eq]
  constructor
  · rintro ⟨q, hq, e⟩
    have e := of_decide_eq_true e
    rw [keysT_kt] at e
    have := inj _ _ (Option.some.inj e)
    exact this ▸ hq
  · intro hq
    exact ⟨t, hq, by simp [keysT_kt]⟩
theorem inK_ts {T : Type} [DecidableEq T] {kf : T → List Key} (inj : ∀ p q, kf p = kf q → p = q) (ts : List T) (t : T) {vs : List D} {C : Cells} : inK false C (ktD (kf t)) (.dct (ts.map fun t => ktD (kf t)) vs) = some (.bl (decide (t ∈ ts))) := by
  unfold inK
  simp only [look_dct, hasK_ts inj, Option.map_some]
  rfl
theorem hasK_int (ns : List Int) (n : Int) : hasK (ns.map D.int) (.int n) = some (decide (n ∈ ns)) := by
  unfold hasK
  simp only [keyD]
  rw [if_pos (by rw [List.all_map, List.all_eq_true]; intro x _; rfl)]
  congr 1
  rw [List.any_map, Bool.eq_iff_iff, List.any_eq_true, decide_eq_true_eq]
  constructor
  · rintro ⟨q, hq, e⟩
    have e := of_decide_eq_true e
    cases e
    exact hq
  · intro hq
    exact ⟨n, hq, by simp [keyD]⟩
theorem inK_int (ns : List Int) (n : Int) {vs : List D} {C : Cells} : inK false C (.int n) (.dct (ns.map D.int) vs) = some (.bl (decide (n ∈ ns))) := by
  unfold inK
  simp only [look_dct, hasK_int, Option.map_some]
  rfl
theorem atK_int {F : Int → D} {n : Int} : ∀ {ns : List Int}, n ∈ ns → atK (ns.map D.int) (ns.map F) (fun d => decide (keyD d = some (.inl n))) = some (F n)
  | [], h => nomatch h
  | m :: ns, h => by
    rw [List.map_cons, List.map_cons, atK]
    by_cases e : m = n
    · rw [if_pos (by simp [keyD, e]), e]
    · rw [if_neg (by simp [keyD, e])]
      exact atK_int ((List.mem_cons.mp h).resolve_left fun z => e z.symm)
theorem oIxK_int {F : Int → D} {n : Int} {ns : List Int} {C : Cells} (h : n ∈ ns) : oIxK C (.dct (ns.map D.int) (ns.map F)) (.int n) = some (F n) := by
  unfold oIxK
  simp only [look_dct, keyD]
  rw [if_pos (by rw [List.all_map, List.all_eq_true]; intro x _; rfl)]
  exact atK_int h
theorem oLenK_ok {ks vs : List D} {C : Cells} : oLenK C [.dct ks vs] = some (.int ks.length) := rfl
theorem putDk_new {acc : List (Key × D)} {k : Key} {v : D} (h : ∀ e ∈ acc, e.1 ≠ k) : putDk acc k v = acc ++ [(k, v)] := by
  unfold putDk
  rw [if_neg]
  rw [List.any_eq_true]
  rintro ⟨e, he, q⟩
  exact h e he (of_decide_eq_true q)
end DL

namespace Law
open PySem L2 DL

def top (i : Nat) : Stmt := PySem.Challenge.pw_echofolds_k47_whole_possible_with_shifts.main.body.getD i (.Pass ⟨0, 0, 0, 0⟩)
abbrev s_law_same : Stmt := top 74
abbrev s_law_below : Stmt := top 63
abbrev s_law_one : Stmt := top 64
abbrev s_law_sounder : Stmt := top 65
abbrev s_law_lot : Stmt := top 68
abbrev s_law_marks : Stmt := top 66
abbrev s_law_makes : Stmt := top 67
abbrev s_law_bent_heard : Stmt := top 69
abbrev s_law_looks : Stmt := top 72
abbrev s_law_ears : Stmt := top 73
abbrev s_law_possible : Stmt := top 70
abbrev s_law_do_fit : Stmt := top 71
abbrev s_is_whole : Stmt := top 15
abbrev s_is_between : Stmt := top 16
abbrev s_is_up_to : Stmt := top 17
abbrev s_is_tuple_up_to : Stmt := top 18
abbrev s_is_tuple_of : Stmt := top 19
abbrev s_is_period : Stmt := top 29
abbrev s_is_sounder_of : Stmt := top 30
abbrev s_check_sounder : Stmt := top 36
abbrev s_is_pair : Stmt := top 20
abbrev s_is_shift : Stmt := top 47
abbrev s_are_rising : Stmt := top 21
abbrev s_blind_of : Stmt := top 7
abbrev s_period_by : Stmt := top 9
abbrev s_is_rest_of : Stmt := top 31
abbrev s_are_rests_of : Stmt := top 32
abbrev s_is_heard_pair_of : Stmt := top 33
abbrev s_is_shifted_look : Stmt := top 48
abbrev s_wrong_in_looks : Stmt := top 49
abbrev s_check_looks : Stmt := top 57
abbrev s_marked_of : Stmt := top 40
abbrev s_needed_marks : Stmt := top 39
abbrev s_needed_in : Stmt := top 51
abbrev s_rest_by : Stmt := top 10
abbrev s_hears : Stmt := top 11
abbrev s_marks_of : Stmt := top 12
abbrev s_marks_by_shifts : Stmt := top 50
abbrev s_range_of : Stmt := top 8
abbrev s_all_delays : Stmt := top 13
abbrev s_marked_in : Stmt := top 52
abbrev s_possible_shifted_by : Stmt := top 53
abbrev s_possible_shifted : Stmt := top 58
abbrev s_is_delay_of : Stmt := top 34
abbrev s_wrong_in_delays : Stmt := top 35
abbrev s_check_delays : Stmt := top 37
abbrev s_marks_in : Stmt := top 41
abbrev s_do_mark_all : Stmt := top 42
abbrev s_do_fit_shifted_by : Stmt := top 54
abbrev s_do_fit_shifted : Stmt := top 59
abbrev s_can_mark_all : Stmt := top 43
abbrev s_can_be_shifted_by : Stmt := top 55
abbrev s_can_be_shifted : Stmt := top 60
abbrev s_law_right : Stmt := top 75
abbrev s_law_pool : Stmt := top 62
abbrev s_law : Stmt := top 76
/-- the names that the defs read -/
structure Nm (K : PySem.W.Frag) (mg : Str → Option Value) (t_LEAST_PERIOD : Tok) (t_MOST_DELAYS : Tok) (t_MOST_LOOKS : Tok) (t_MOST_PERIOD : Tok) (t_MOST_RANGE : Tok) (t_MOST_RESTS : Tok) (t_MOST_SHIFT : Tok) (t_SOUNDER_SIZE : Tok) : Prop where
  n_abs : mg "abs" = none
  n_all : mg "all" = none
  n_any : mg "any" = none
  n_bool : mg "bool" = none
  n_dict : mg "dict" = none
  n_divmod : mg "divmod" = none
  n_enumerate : mg "enumerate" = none
  n_int : mg "int" = none
  n_isinstance : mg "isinstance" = none
  n_len : mg "len" = none
  n_list : mg "list" = none
  n_max : mg "max" = none
  n_min : mg "min" = none
  n_range : mg "range" = none
  n_set : mg "set" = none
  n_sorted : mg "sorted" = none
  n_str : mg "str" = none
  n_tuple : mg "tuple" = none
  n_zip : mg "zip" = none
  k_LEAST_PERIOD : mg "LEAST_PERIOD" = some (.int 2 t_LEAST_PERIOD)
  k_MOST_DELAYS : mg "MOST_DELAYS" = some (.int 60 t_MOST_DELAYS)
  k_MOST_LOOKS : mg "MOST_LOOKS" = some (.int 6 t_MOST_LOOKS)
  k_MOST_PERIOD : mg "MOST_PERIOD" = some (.int 40 t_MOST_PERIOD)
  k_MOST_RANGE : mg "MOST_RANGE" = some (.int 1600 t_MOST_RANGE)
  k_MOST_RESTS : mg "MOST_RESTS" = some (.int 12 t_MOST_RESTS)
  k_MOST_SHIFT : mg "MOST_SHIFT" = some (.int 1600 t_MOST_SHIFT)
  k_SOUNDER_SIZE : mg "SOUNDER_SIZE" = some (.int 4 t_SOUNDER_SIZE)
  k_SIDES : ∃ u, mg "SIDES" = some u ∧ KV K u (.ktp [(.int 0), (.int 1)])
/-! ### _law_same -/
noncomputable def b_law_same (rec : List D → Mo D) : SX :=
    (sSeq (sIf (bO oIsN (xV 1) (xC .non)) (sSeq (sRet (x2 oIsN (xV 0) (xC .non))) sNil) sNil)
    (sSeq (sIf (bV (xN (oIsi "bool") (aCons (xV 1) (aCons (xC (.ty "bool")) aNil)))) (sSeq (sRet (xAnd (xN (oIsi "bool") (aCons (xV 0) (aCons (xC (.ty "bool")) aNil))) (x2 oEq (xV 0) (xV 1)))) sNil) sNil)
    (sSeq (sIf (bV (xN (oIsi "int") (aCons (xV 1) (aCons (xC (.ty "int")) aNil)))) (sSeq (sRet (xAnd (xN (oIsi "int") (aCons (xV 0) (aCons (xC (.ty "int")) aNil))) (xAnd (xNot (xN (oIsi "bool") (aCons (xV 0) (aCons (xC (.ty "bool")) aNil)))) (x2 oEq (xV 0) (xV 1))))) sNil) sNil)
    (sSeq (sIf (bV (xN (oIsi "str") (aCons (xV 1) (aCons (xC (.ty "str")) aNil)))) (sSeq (sRet (xAnd (xN (oIsi "str") (aCons (xV 0) (aCons (xC (.ty "str")) aNil))) (x2 oEq (xV 0) (xV 1)))) sNil) sNil)
    (sSeq (sIf (bV (xN (oIsi "dict") (aCons (xV 1) (aCons (xC (.ty "dict")) aNil)))) (sSeq (sIf (bOr (bNot (bV (xN (oIsi "dict") (aCons (xV 0) (aCons (xC (.ty "dict")) aNil))))) (bO oNe (xN oLen (aCons (xV 0) aNil)) (xN oLen (aCons (xV 1) aNil)))) (sSeq (sRet (xC (.bl false))) sNil) sNil)
    (sSeq (sRet (xN oAll (aCons (xLc (iSeq (xV 1)) [2] (gN 2) bYes (xAnd (x2 (inD false) (xV 2) (xV 0)) (xCall 2 rec (aCons (x2 oIx (xV 0) (xV 2)) (aCons (x2 oIx (xV 1) (xV 2)) aNil))))) aNil))) sNil)) sNil)
    (sSeq (sIf (bOr (bO oNe (xN (oIsi "tuple") (aCons (xV 1) (aCons (xC (.ty "tuple")) aNil))) (xN (oIsi "tuple") (aCons (xV 0) (aCons (xC (.ty "tuple")) aNil)))) (bO oNe (xN (oIsi "list") (aCons (xV 1) (aCons (xC (.ty "list")) aNil))) (xN (oIsi "list") (aCons (xV 0) (aCons (xC (.ty "list")) aNil))))) (sSeq (sRet (xC (.bl false))) sNil) sNil)
    (sSeq (sRet (xAnd (x2 oEq (xN oLen (aCons (xV 0) aNil)) (xN oLen (aCons (xV 1) aNil))) (xN oAll (aCons (xLc (iZp (aCons (xV 0) (aCons (xV 1) aNil))) [3, 4] (gTupD 2 (gConsD (gN 3) (gConsD (gN 4) gNilD))) bYes (xCall 2 rec (aCons (xV 3) (aCons (xV 4) aNil)))) aNil)))) sNil)))))))
noncomputable def m_law_same : Nat → List D → Mo D
  | 0 => fun _ => bad
  | k + 1 => fnD 5 (b_law_same (m_law_same k))
/-! ### _law_below -/
noncomputable def b_law_below : SX :=
    (sSeq (sIf (bO oGt (x2 oIx (xV 0) (xC (.int 0))) (xC (.int 0))) (sSeq (sAsg (xN oDivm (aCons (x2 oIx (xV 0) (xC (.int 0))) (aCons (xV 1) aNil))) (gTupD 2 (gConsD (gSubD (xV 0) (xC (.int 0))) (gConsD (gN 3) gNilD))))
    (sSeq (sRet (xV 3)) sNil)) sNil)
    (sSeq (sAsg (x2 oAdd (x2 oIx (xV 0) (xC (.int 2))) (xC (.int 1))) (gSubD (xV 0) (xC (.int 2))))
    (sSeq (sSet 2 (x2 oMod (xN oInt (aCons (x2 oAdd (x2 oAdd (x2 oMul (x2 oIx (xV 0) (xC (.int 1))) (xC (.int 43925))) (x2 oMul (xC (.int 6187)) (x2 oIx (xV 0) (xC (.int 2))))) (xC (.int 71))) aNil)) (xC (.int 2147483563))))
    (sSeq (sAsg (x2 oMod (xN oInt (aCons (x2 oAdd (x2 oMul (xV 2) (x2 oAdd (x2 oMod (xN oInt (aCons (xV 2) aNil)) (xC (.int 3989))) (xC (.int 17531)))) (x2 oIx (xV 0) (xC (.int 2)))) aNil)) (xC (.int 2147483563))) (gSubD (xV 0) (xC (.int 1))))
    (sSeq (sRet (x2 oMod (xN oInt (aCons (x2 oFdv (x2 oIx (xV 0) (xC (.int 1))) (xC (.int 359))) aNil)) (xV 1))) sNil)))))
noncomputable def m_law_below : List D → Mo D := fnD 4 b_law_below
/-! ### _law_one -/
noncomputable def b_law_one : SX :=
    (sSeq (sRet (x2 oIx (xV 1) (xCall 2 m_law_below (aCons (xV 0) (aCons (xN oLen (aCons (xV 1) aNil)) aNil))))) sNil)
noncomputable def m_law_one : List D → Mo D := fnD 2 b_law_one
/-! ### _law_sounder -/
noncomputable def b_law_sounder : SX :=
    (sSeq (sPar 3 4 (aCons (x2 oAdd (xC (.int 2)) (xCall 2 m_law_below (aCons (xV 0) (aCons (x2 oSub (xV 1) (xC (.int 1))) aNil)))) (aCons (x2 oAdd (xC (.int 2)) (xCall 2 m_law_below (aCons (xV 0) (aCons (x2 oSub (xV 1) (xC (.int 1))) aNil)))) aNil)))
    (sSeq (sRet (xTup (aCons (xV 3) (aCons (xV 4) (aCons (xIf (bO oGt (xN oMin2 (aCons (xV 3) (aCons (xV 4) aNil))) (xC (.int 1))) (xCall 2 m_law_below (aCons (xV 0) (aCons (xCall 2 m_law_one (aCons (xV 0) (aCons (xTup (aCons (xC (.int 1)) (aCons (xC (.int 2)) (aCons (xN oMin2 (aCons (xV 3) (aCons (xV 4) aNil))) aNil)))) aNil))) aNil))) (xC (.int 0))) (aCons (x2 oAdd (xC (.int 1)) (xCall 2 m_law_below (aCons (xV 0) (aCons (xV 2) aNil)))) aNil)))))) sNil))
noncomputable def m_law_sounder : List D → Mo D := fnD 5 b_law_sounder
/-! ### _law_lot -/
noncomputable def b_law_lot : SX :=
    (sSeq (sSet 3 (xCell aNil))
    (sSeq (sFor (iR1 (aCons (xCall 2 m_law_below (aCons (xV 0) (aCons (x2 oAdd (xV 2) (xC (.int 1))) aNil))) aNil)) (gN 4) (sSeq (sExpr (xApp (xV 3) (aCons (xCall 2 m_law_below (aCons (xV 0) (aCons (xV 1) aNil))) aNil))) sNil))
    (sSeq (sRet (xN oTuple (aCons (x1 oSset (xV 3)) aNil))) sNil)))
noncomputable def m_law_lot : List D → Mo D := fnD 5 b_law_lot
/-! ### _law_marks -/
noncomputable def b_law_marks : SX :=
    (sSeq (sSet 2 (xLc (iSeq (xTup (aCons (xC (.int 0)) (aCons (xC (.int 1)) aNil)))) [3] (gN 3) bYes (xTup (aCons (xV 3) (aCons (x2 oMod (xN oInt (aCons (xV 1) aNil)) (x2 oIx (xV 0) (xV 3))) aNil)))))
    (sSeq (sRet (xLc (iSeq (xV 2)) [3, 4] (gTupD 2 (gConsD (gN 3) (gConsD (gN 4) gNilD))) (bO oGe (xV 4) (x2 oIx (xV 0) (xC (.int 2)))) (xTup (aCons (xV 3) (aCons (xV 4) aNil))))) sNil))
noncomputable def m_law_marks : List D → Mo D := fnD 5 b_law_marks
/-! ### _law_makes -/
noncomputable def b_law_makes : SX :=
    (sSeq (sSet 3 (xTup (aCons (xCell aNil) (aCons (xCell aNil) aNil))))
    (sSeq (sFor (iSeq (xV 1)) (gN 4) (sSeq (sFor (iSeq (xCall 2 m_law_marks (aCons (xV 0) (aCons (x2 oAdd (xV 4) (xV 2)) aNil)))) (gTupD 2 (gConsD (gN 5) (gConsD (gN 6) gNilD))) (sSeq (sExpr (xApp (x2 oIx (xV 3) (xV 5)) (aCons (xV 6) aNil))) sNil)) sNil))
    (sSeq (sRet (xTup (aCons (xN oTuple (aCons (x1 oSset (x2 oIx (xV 3) (xC (.int 0)))) aNil)) (aCons (xN oTuple (aCons (x1 oSset (x2 oIx (xV 3) (xC (.int 1)))) aNil)) aNil)))) sNil)))
noncomputable def m_law_makes : List D → Mo D := fnD 7 b_law_makes
/-! ### _law_bent_heard -/
noncomputable def b_law_bent_heard : SX :=
    (sSeq (sPar 3 4 (aCons (xCall 2 m_law_below (aCons (xV 0) (aCons (xC (.int 2)) aNil))) (aCons (xCall 2 m_law_below (aCons (xV 0) (aCons (xC (.int 4)) aNil))) aNil)))
    (sSeq (sAsg (xTup (aCons (x2 oIx (xV 2) (xV 3)) (aCons (x2 oAdd (x2 oIx (xV 1) (xC (.int 2))) (xCall 2 m_law_below (aCons (xV 0) (aCons (x2 oSub (x2 oIx (xV 1) (xV 3)) (x2 oIx (xV 1) (xC (.int 2)))) aNil)))) aNil))) (gTupD 2 (gConsD (gN 5) (gConsD (gN 6) gNilD))))
    (sSeq (sIf (bAnd (bO oEq (xV 4) (xC (.int 0))) (bO oLt (xN oLen (aCons (xV 5) aNil)) (xC (.int 12)))) (sSeq (sSet 5 (xN oTuple (aCons (x1 oSset (x2 oAdd (xV 5) (xTup (aCons (xV 6) aNil)))) aNil))) sNil) sNil)
    (sSeq (sIf (bO oEq (xV 4) (xC (.int 1))) (sSeq (sSet 5 (xN oTuple (aCons (xLc (iSeq (xV 5)) [7] (gN 7) (bO oNe (xV 7) (xV 6)) (xV 7)) aNil))) sNil) sNil)
    (sSeq (sRet (xIf (bO oEq (xV 3) (xC (.int 0))) (xTup (aCons (xV 5) (aCons (x2 oIx (xV 2) (xC (.int 1))) aNil))) (xTup (aCons (x2 oIx (xV 2) (xC (.int 0))) (aCons (xV 5) aNil))))) sNil)))))
noncomputable def m_law_bent_heard : List D → Mo D := fnD 8 b_law_bent_heard
/-! ### _law_looks -/
noncomputable def b_law_looks : SX :=
    (sSeq (sPar 4 5 (aCons (xCall 3 m_law_lot (aCons (xV 0) (aCons (x2 oIx (xV 1) (xC (.int 3))) (aCons (xV 2) aNil)))) (aCons (xTup aNil) aNil)))
    (sSeq (sFor (iR1 (aCons (x2 oAdd (xC (.int 1)) (xCall 2 m_law_below (aCons (xV 0) (aCons (xC (.int 3)) aNil)))) aNil)) (gN 3) (sSeq (sSet 6 (xCall 2 m_law_one (aCons (xV 0) (aCons (xTup (aCons (xC (.int 0)) (aCons (xC (.int 1)) (aCons (x1 oNeg (xC (.int 1))) (aCons (x2 oSub (xCall 2 m_law_below (aCons (xV 0) (aCons (xC (.int 61)) aNil))) (xC (.int 30))) (aCons (x2 oSub (xCall 2 m_law_below (aCons (xV 0) (aCons (xC (.int 3201)) aNil))) (xC (.int 1600))) aNil)))))) aNil))))
    (sSeq (sSet 7 (xCall 3 m_law_makes (aCons (xV 1) (aCons (xV 4) (aCons (xV 6) aNil)))))
    (sSeq (sSet 5 (x2 oAdd (xV 5) (xTup (aCons (xTup (aCons (xV 6) (aCons (xIf (bO oEq (xCall 2 m_law_below (aCons (xV 0) (aCons (xC (.int 6)) aNil))) (xC (.int 0))) (xCall 3 m_law_bent_heard (aCons (xV 0) (aCons (xV 1) (aCons (xV 7) aNil)))) (xV 7)) aNil))) aNil)))) sNil))))
    (sSeq (sRet (xTup (aCons (xV 5) (aCons (xV 4) aNil)))) sNil)))
noncomputable def m_law_looks : List D → Mo D := fnD 8 b_law_looks
/-! ### _law_ears -/
noncomputable def b_law_ears : SX :=
    (sSeq (sRet (xLc (iSeq (xV 1)) [2, 3] (gTupD 2 (gConsD (gN 2) (gConsD (gN 3) gNilD))) bYes (xTup (aCons (xV 0) (aCons (xV 2) (aCons (xV 3) aNil)))))) sNil)
noncomputable def m_law_ears : List D → Mo D := fnD 4 b_law_ears
/-! ### _law_possible -/
noncomputable def b_law_possible : SX :=
    (sSeq (sSet 2 (xCell aNil))
    (sSeq (sFor (iR1 (aCons (xV 1) aNil)) (gN 3) (sSeq (sSet 4 (xLc (iSeq (xV 0)) [5, 6, 7] (gTupD 3 (gConsD (gN 5) (gConsD (gN 6) (gConsD (gN 7) gNilD)))) bYes (xCall 2 m_law_marks (aCons (xV 5) (aCons (x2 oAdd (xV 3) (xV 6)) aNil)))))
    (sSeq (sIf (bAnd (bV (xN oAny (aCons (xLc (iSeq (xV 4)) [8] (gN 8) bYes (x2 oNe (xV 8) (xLst aNil))) aNil))) (bV (xN oAll (aCons (xLc (iZp (aCons (xV 4) (aCons (xV 0) aNil))) [5, 6, 7, 8] (gTupD 2 (gConsD (gN 8) (gConsD (gTupD 3 (gConsD (gN 5) (gConsD (gN 6) (gConsD (gN 7) gNilD)))) gNilD))) bYes (xN oAll (aCons (xLc (iSeq (xV 8)) [9, 10] (gTupD 2 (gConsD (gN 9) (gConsD (gN 10) gNilD))) bYes (x2 (inD false) (xV 10) (x2 oIx (xV 7) (xV 9)))) aNil))) aNil)))) (sSeq (sExpr (xApp (xV 2) (aCons (xV 3) aNil))) sNil) sNil) sNil)))
    (sSeq (sRet (xV 2)) sNil)))
noncomputable def m_law_possible : List D → Mo D := fnD 11 b_law_possible
/-! ### _law_do_fit -/
noncomputable def b_law_do_fit : SX :=
    (sSeq (sIf (bV (xN oAny (aCons (xLc (iSeq (xV 1)) [2] (gN 2) bYes (xN oAll (aCons (xLc (iSeq (xV 0)) [3, 4, 5] (gTupD 3 (gConsD (gN 3) (gConsD (gN 4) (gConsD (gN 5) gNilD)))) bYes (x2 oEq (xCall 2 m_law_marks (aCons (xV 3) (aCons (x2 oAdd (xV 2) (xV 4)) aNil))) (xLst aNil))) aNil))) aNil))) (sSeq (sRet (xC (.bl false))) sNil) sNil)
    (sSeq (sRet (xN oAll (aCons (xLc (iSeq (xV 0)) [3, 4, 5] (gTupD 3 (gConsD (gN 3) (gConsD (gN 4) (gConsD (gN 5) gNilD)))) bYes (x2 oEq (xCall 3 m_law_makes (aCons (xV 3) (aCons (xV 1) (aCons (xV 4) aNil)))) (xV 5))) aNil))) sNil))
noncomputable def m_law_do_fit : List D → Mo D := fnD 6 b_law_do_fit
/-! ### is_whole -/
noncomputable def b_is_whole : SX :=
    (sSeq (sRet (xAnd (xN (oIsi "int") (aCons (xV 0) (aCons (xC (.ty "int")) aNil))) (xNot (xN (oIsi "bool") (aCons (xV 0) (aCons (xC (.ty "bool")) aNil)))))) sNil)
noncomputable def m_is_whole : List D → Mo D := fnD 1 b_is_whole
/-! ### is_between -/
noncomputable def b_is_between : SX :=
    (sSeq (sRet (xAnd (xCall 1 m_is_whole (aCons (xV 0) aNil)) (xB (xCh oLe oLe (xV 1) (xV 0) (xV 2))))) sNil)
noncomputable def m_is_between : List D → Mo D := fnD 3 b_is_between
/-! ### is_up_to -/
noncomputable def b_is_up_to : SX :=
    (sSeq (sRet (xCall 3 m_is_between (aCons (xV 0) (aCons (xC (.int 0)) (aCons (xV 1) aNil))))) sNil)
noncomputable def m_is_up_to : List D → Mo D := fnD 2 b_is_up_to
/-! ### is_tuple_up_to -/
noncomputable def b_is_tuple_up_to : SX :=
    (sSeq (sRet (xAnd (xN (oIsi "tuple") (aCons (xV 0) (aCons (xC (.ty "tuple")) aNil))) (xB (xCh oLe oLe (xV 1) (xN oLen (aCons (xV 0) aNil)) (xV 2))))) sNil)
noncomputable def m_is_tuple_up_to : List D → Mo D := fnD 3 b_is_tuple_up_to
/-! ### is_tuple_of -/
noncomputable def b_is_tuple_of : SX :=
    (sSeq (sRet (xCall 3 m_is_tuple_up_to (aCons (xV 0) (aCons (xV 1) (aCons (xV 1) aNil))))) sNil)
noncomputable def m_is_tuple_of : List D → Mo D := fnD 2 b_is_tuple_of
/-! ### is_period -/
noncomputable def b_is_period : SX :=
    (sSeq (sRet (xCall 3 m_is_between (aCons (xV 0) (aCons (xC (.int 2)) (aCons (xC (.int 40)) aNil))))) sNil)
noncomputable def m_is_period : List D → Mo D := fnD 1 b_is_period
/-! ### is_sounder_of -/
noncomputable def b_is_sounder_of : SX :=
    (sSeq (sIf (bOr (bNot (bV (xCall 2 m_is_tuple_of (aCons (xV 0) (aCons (xC (.int 4)) aNil))))) (bOr (bNot (bV (xCall 1 m_is_period (aCons (x2 oIx (xV 0) (xC (.int 0))) aNil)))) (bNot (bV (xCall 1 m_is_period (aCons (x2 oIx (xV 0) (xC (.int 1))) aNil)))))) (sSeq (sRet (xC (.bl false))) sNil) sNil)
    (sSeq (sRet (xAnd (xCall 2 m_is_up_to (aCons (x2 oIx (xV 0) (xC (.int 2))) (aCons (x2 oSub (xN oMin2 (aCons (x2 oIx (xV 0) (xC (.int 0))) (aCons (x2 oIx (xV 0) (xC (.int 1))) aNil))) (xC (.int 1))) aNil))) (xCall 3 m_is_between (aCons (x2 oIx (xV 0) (xC (.int 3))) (aCons (xC (.int 1)) (aCons (xC (.int 1600)) aNil)))))) sNil))
noncomputable def m_is_sounder_of : List D → Mo D := fnD 1 b_is_sounder_of
/-! ### check_sounder -/
noncomputable def b_check_sounder : SX :=
    (sSeq (sIf (bNot (bV (xCall 1 m_is_sounder_of (aCons (xV 0) aNil)))) (sSeq sNever sNil) sNil) sNil)
noncomputable def m_check_sounder : List D → Mo D := fnD 1 b_check_sounder
/-! ### is_pair -/
noncomputable def b_is_pair : SX :=
    (sSeq (sRet (xCall 2 m_is_tuple_of (aCons (xV 0) (aCons (xC (.int 2)) aNil)))) sNil)
noncomputable def m_is_pair : List D → Mo D := fnD 1 b_is_pair
/-! ### is_shift -/
noncomputable def b_is_shift : SX :=
    (sSeq (sRet (xCall 3 m_is_between (aCons (xV 0) (aCons (x1 oNeg (xC (.int 1600))) (aCons (xC (.int 1600)) aNil))))) sNil)
noncomputable def m_is_shift : List D → Mo D := fnD 1 b_is_shift
/-! ### are_rising -/
noncomputable def b_are_rising : SX :=
    (sSeq (sRet (xN oAll (aCons (xLc (iZp (aCons (xV 0) (aCons (xSl (xV 0) (oS (xC (.int 1))) oN) aNil))) [1, 2] (gTupD 2 (gConsD (gN 1) (gConsD (gN 2) gNilD))) bYes (x2 oLt (xV 1) (xV 2))) aNil))) sNil)
noncomputable def m_are_rising : List D → Mo D := fnD 3 b_are_rising
/-! ### blind_of -/
noncomputable def b_blind_of : SX :=
    (sSeq (sRet (x2 oIx (xV 0) (xC (.int 2)))) sNil)
noncomputable def m_blind_of : List D → Mo D := fnD 1 b_blind_of
/-! ### period_by -/
noncomputable def b_period_by : SX :=
    (sSeq (sRet (x2 oIx (xV 0) (xV 1))) sNil)
noncomputable def m_period_by : List D → Mo D := fnD 2 b_period_by
/-! ### is_rest_of -/
noncomputable def b_is_rest_of : SX :=
    (sSeq (sRet (xCall 3 m_is_between (aCons (xV 2) (aCons (xCall 1 m_blind_of (aCons (xV 0) aNil)) (aCons (x2 oSub (xCall 2 m_period_by (aCons (xV 0) (aCons (xV 1) aNil))) (xC (.int 1))) aNil))))) sNil)
noncomputable def m_is_rest_of : List D → Mo D := fnD 3 b_is_rest_of
/-! ### are_rests_of -/
noncomputable def b_are_rests_of : SX :=
    (sSeq (sIf (bOr (bNot (bV (xN (oIsi "tuple") (aCons (xV 2) (aCons (xC (.ty "tuple")) aNil))))) (bNot (bV (xN oAll (aCons (xLc (iSeq (xV 2)) [3] (gN 3) bYes (xCall 3 m_is_rest_of (aCons (xV 0) (aCons (xV 1) (aCons (xV 3) aNil))))) aNil))))) (sSeq (sRet (xC (.bl false))) sNil) sNil)
    (sSeq (sRet (xCall 1 m_are_rising (aCons (xV 2) aNil))) sNil))
noncomputable def m_are_rests_of : List D → Mo D := fnD 4 b_are_rests_of
/-! ### is_heard_pair_of -/
noncomputable def b_is_heard_pair_of : SX :=
    (sSeq (sIf (bOr (bNot (bV (xCall 1 m_is_pair (aCons (xV 1) aNil)))) (bNot (bV (xN oAll (aCons (xLc (iSeq (xC (.ktp [(.int 0), (.int 1)]))) [2] (gN 2) bYes (xCall 3 m_are_rests_of (aCons (xV 0) (aCons (xV 2) (aCons (x2 oIx (xV 1) (xV 2)) aNil))))) aNil))))) (sSeq (sRet (xC (.bl false))) sNil) sNil)
    (sSeq (sRet (xAnd (x2 oLe (xN oLen (aCons (x2 oIx (xV 1) (xC (.int 0))) aNil)) (xC (.int 12))) (x2 oLe (xN oLen (aCons (x2 oIx (xV 1) (xC (.int 1))) aNil)) (xC (.int 12))))) sNil))
noncomputable def m_is_heard_pair_of : List D → Mo D := fnD 3 b_is_heard_pair_of
/-! ### is_shifted_look -/
noncomputable def b_is_shifted_look : SX :=
    (sSeq (sRet (xAnd (xCall 1 m_is_pair (aCons (xV 1) aNil)) (xAnd (xCall 1 m_is_shift (aCons (x2 oIx (xV 1) (xC (.int 0))) aNil)) (xCall 2 m_is_heard_pair_of (aCons (xV 0) (aCons (x2 oIx (xV 1) (xC (.int 1))) aNil)))))) sNil)
noncomputable def m_is_shifted_look : List D → Mo D := fnD 2 b_is_shifted_look
/-! ### wrong_in_looks -/
noncomputable def b_wrong_in_looks : SX :=
    (sSeq (sIf (bNot (bV (xCall 3 m_is_tuple_up_to (aCons (xV 1) (aCons (xC (.int 1)) (aCons (xC (.int 6)) aNil)))))) (sSeq (sRet (xLst (aCons (xC .non) aNil))) sNil) sNil)
    (sSeq (sRet (xSl (xLc (iEnT (aCons (xV 1) aNil)) [2, 3] (gTupD 2 (gConsD (gN 2) (gConsD (gN 3) gNilD))) (bNot (bV (xCall 2 m_is_shifted_look (aCons (xV 0) (aCons (xV 3) aNil))))) (xV 2)) oN (oS (xC (.int 1))))) sNil))
noncomputable def m_wrong_in_looks : List D → Mo D := fnD 4 b_wrong_in_looks
/-! ### check_looks -/
noncomputable def b_check_looks : SX :=
    (sSeq (sExpr (xCall 1 m_check_sounder (aCons (xV 0) aNil)))
    (sSeq (sFor (iSeq (xCall 2 m_wrong_in_looks (aCons (xV 0) (aCons (xV 1) aNil)))) (gN 2) (sSeq sNever sNil)) sNil))
noncomputable def m_check_looks : List D → Mo D := fnD 3 b_check_looks
/-! ### marked_of -/
noncomputable def b_marked_of : SX :=
    (sSeq (sRet (xDc1K (iSeq (xV 0)) [2, 3] (gTupD 2 (gConsD (gN 2) (gConsD (gN 3) gNilD))) (bAnd (bO oNe (xV 3) (xLst aNil)) (bV (xN oAll (aCons (xLc (iSeq (xV 3)) [4] (gN 4) bYes (x2 (inK false) (xV 4) (xV 1))) aNil)))) (xV 2) (xV 3))) sNil)
noncomputable def m_marked_of : List D → Mo D := fnD 5 b_marked_of
/-! ### needed_marks -/
noncomputable def b_needed_marks : SX :=
    (sSeq (sSet 1 (xLc3 (iEnA (aCons (xV 0) aNil)) [2, 3, 5, 6] (gTupD 2 (gConsD (gN 5) (gConsD (gN 6) gNilD))) bYes (iSeq (xTup (aCons (xC (.int 0)) (aCons (xC (.int 1)) aNil)))) [2, 3] (gN 2) bYes (iSeq (x2 oIx (xV 6) (xV 2))) [3] (gN 3) bYes (xTup (aCons (xV 5) (aCons (xV 2) (aCons (xV 3) aNil))))))
    (sSeq (sRet (xDc1T (iSeq (xV 1)) [4] (gN 4) bYes (xV 4) (xC (.bl true)))) sNil))
noncomputable def m_needed_marks : List D → Mo D := fnD 7 b_needed_marks
/-! ### needed_in -/
noncomputable def b_needed_in : SX :=
    (sSeq (sRet (xCall 1 m_needed_marks (aCons (xLc (iSeq (xV 0)) [1, 2] (gTupD 2 (gConsD (gN 1) (gConsD (gN 2) gNilD))) bYes (xV 2)) aNil))) sNil)
noncomputable def m_needed_in : List D → Mo D := fnD 3 b_needed_in
/-! ### rest_by -/
noncomputable def b_rest_by : SX :=
    (sSeq (sRet (x2 oMod (xN oInt (aCons (xV 2) aNil)) (xCall 2 m_period_by (aCons (xV 0) (aCons (xV 1) aNil))))) sNil)
noncomputable def m_rest_by : List D → Mo D := fnD 3 b_rest_by
/-! ### hears -/
noncomputable def b_hears : SX :=
    (sSeq (sRet (x2 oGe (xCall 3 m_rest_by (aCons (xV 0) (aCons (xV 1) (aCons (xV 2) aNil)))) (xCall 1 m_blind_of (aCons (xV 0) aNil)))) sNil)
noncomputable def m_hears : List D → Mo D := fnD 3 b_hears
/-! ### marks_of -/
noncomputable def b_marks_of : SX :=
    (sSeq (sRet (xLc (iSeq (xC (.ktp [(.int 0), (.int 1)]))) [2] (gN 2) (bV (xCall 3 m_hears (aCons (xV 0) (aCons (xV 2) (aCons (xV 1) aNil))))) (xTup (aCons (xV 2) (aCons (xCall 3 m_rest_by (aCons (xV 0) (aCons (xV 2) (aCons (xV 1) aNil)))) aNil))))) sNil)
noncomputable def m_marks_of : List D → Mo D := fnD 3 b_marks_of
/-! ### marks_by_shifts -/
noncomputable def b_marks_by_shifts : SX :=
    (sSeq (sRet (xLc2 (iEn (aCons (xV 1) aNil)) [3, 4, 5] (gTupD 2 (gConsD (gN 4) (gConsD (gN 5) gNilD))) bYes (iSeq (xCall 2 m_marks_of (aCons (xV 0) (aCons (x2 oAdd (xV 2) (xV 5)) aNil)))) [3] (gN 3) bYes (xTup (aCap (aCons (xV 4) (aStar (xV 3) aNil)))))) sNil)
noncomputable def m_marks_by_shifts : List D → Mo D := fnD 6 b_marks_by_shifts
/-! ### range_of -/
noncomputable def b_range_of : SX :=
    (sSeq (sRet (x2 oIx (xV 0) (xC (.int 3)))) sNil)
noncomputable def m_range_of : List D → Mo D := fnD 1 b_range_of
/-! ### all_delays -/
noncomputable def b_all_delays : SX :=
    (sSeq (sRet (xLr1 (xCall 1 m_range_of (aCons (xV 0) aNil)))) sNil)
noncomputable def m_all_delays : List D → Mo D := fnD 1 b_all_delays
/-! ### marked_in -/
noncomputable def b_marked_in : SX :=
    (sSeq (sSet 2 (xLc (iSeq (xV 1)) [5, 6] (gTupD 2 (gConsD (gN 5) (gConsD (gN 6) gNilD))) bYes (xV 5)))
    (sSeq (sSet 3 (xLc (iSeq (xCall 1 m_all_delays (aCons (xV 0) aNil))) [4] (gN 4) bYes (xTup (aCons (xV 4) (aCons (xCall 3 m_marks_by_shifts (aCons (xV 0) (aCons (xV 2) (aCons (xV 4) aNil)))) aNil)))))
    (sSeq (sRet (xCall 2 m_marked_of (aCons (xV 3) (aCons (xCall 1 m_needed_in (aCons (xV 1) aNil)) aNil)))) sNil)))
noncomputable def m_marked_in : List D → Mo D := fnD 7 b_marked_in
/-! ### possible_shifted_by -/
noncomputable def b_possible_shifted_by : SX :=
    (sSeq (sRet (xN oSorted (aCons (xN oListD (aCons (xCall 2 m_marked_in (aCons (xV 0) (aCons (xV 1) aNil))) aNil)) aNil))) sNil)
noncomputable def m_possible_shifted_by : List D → Mo D := fnD 2 b_possible_shifted_by
/-! ### possible_shifted -/
noncomputable def b_possible_shifted : SX :=
    (sSeq (sExpr (xCall 2 m_check_looks (aCons (xV 0) (aCons (xV 1) aNil))))
    (sSeq (sRet (xN oTuple (aCons (xCall 2 m_possible_shifted_by (aCons (xV 0) (aCons (xV 1) aNil))) aNil))) sNil))
noncomputable def m_possible_shifted : List D → Mo D := fnD 2 b_possible_shifted
/-! ### is_delay_of -/
noncomputable def b_is_delay_of : SX :=
    (sSeq (sRet (xCall 2 m_is_up_to (aCons (xV 1) (aCons (x2 oSub (xCall 1 m_range_of (aCons (xV 0) aNil)) (xC (.int 1))) aNil)))) sNil)
noncomputable def m_is_delay_of : List D → Mo D := fnD 2 b_is_delay_of
/-! ### wrong_in_delays -/
noncomputable def b_wrong_in_delays : SX :=
    (sSeq (sIf (bNot (bV (xCall 3 m_is_tuple_up_to (aCons (xV 1) (aCons (xC (.int 0)) (aCons (xC (.int 60)) aNil)))))) (sSeq (sRet (xLst (aCons (xC .non) aNil))) sNil) sNil)
    (sSeq (sFor (iEnT (aCons (xV 1) aNil)) (gTupD 2 (gConsD (gN 2) (gConsD (gN 3) gNilD))) (sSeq (sIf (bOr (bNot (bV (xCall 2 m_is_delay_of (aCons (xV 0) (aCons (xV 3) aNil))))) (bAnd (bO oGt (xV 2) (xC (.int 0))) (bO oLe (xV 3) (x2 oIx (xV 1) (x2 oSub (xV 2) (xC (.int 1))))))) (sSeq (sRet (xLst (aCons (xV 2) aNil))) sNil) sNil) sNil))
    (sSeq (sRet (xLst aNil)) sNil)))
noncomputable def m_wrong_in_delays : List D → Mo D := fnD 4 b_wrong_in_delays
/-! ### check_delays -/
noncomputable def b_check_delays : SX :=
    (sSeq (sFor (iSeq (xCall 2 m_wrong_in_delays (aCons (xV 0) (aCons (xV 1) aNil)))) (gN 2) (sSeq sNever sNil)) sNil)
noncomputable def m_check_delays : List D → Mo D := fnD 3 b_check_delays
/-! ### marks_in -/
noncomputable def b_marks_in : SX :=
    (sSeq (sRet (xDc2 (iSeq (xV 1)) [2, 3] (gN 2) bYes (iSeq (x2 oIxK (xV 0) (xV 2))) [3] (gN 3) bYes (xV 3) (xC (.bl true)))) sNil)
noncomputable def m_marks_in : List D → Mo D := fnD 4 b_marks_in
/-! ### do_mark_all -/
noncomputable def b_do_mark_all : SX :=
    (sSeq (sIf (bNot (bV (xN oAll (aCons (xLc (iSeq (xV 2)) [3] (gN 3) bYes (x2 (inK false) (xV 3) (xV 0))) aNil)))) (sSeq (sRet (xC (.bl false))) sNil) sNil)
    (sSeq (sRet (x2 oEq (xN oLenK (aCons (xCall 2 m_marks_in (aCons (xV 0) (aCons (xV 2) aNil))) aNil)) (xN oLenK (aCons (xV 1) aNil)))) sNil))
noncomputable def m_do_mark_all : List D → Mo D := fnD 4 b_do_mark_all
/-! ### do_fit_shifted_by -/
noncomputable def b_do_fit_shifted_by : SX :=
    (sSeq (sRet (xCall 3 m_do_mark_all (aCons (xCall 2 m_marked_in (aCons (xV 0) (aCons (xV 1) aNil))) (aCons (xCall 1 m_needed_in (aCons (xV 1) aNil)) (aCons (xV 2) aNil))))) sNil)
noncomputable def m_do_fit_shifted_by : List D → Mo D := fnD 3 b_do_fit_shifted_by
/-! ### do_fit_shifted -/
noncomputable def b_do_fit_shifted : SX :=
    (sSeq (sExpr (xCall 2 m_check_looks (aCons (xV 0) (aCons (xV 1) aNil))))
    (sSeq (sExpr (xCall 2 m_check_delays (aCons (xV 0) (aCons (xV 2) aNil))))
    (sSeq (sRet (xCall 3 m_do_fit_shifted_by (aCons (xV 0) (aCons (xV 1) (aCons (xV 2) aNil))))) sNil)))
noncomputable def m_do_fit_shifted : List D → Mo D := fnD 3 b_do_fit_shifted
/-! ### can_mark_all -/
noncomputable def b_can_mark_all : SX :=
    (sSeq (sRet (xCall 3 m_do_mark_all (aCons (xV 0) (aCons (xV 1) (aCons (xN oListD (aCons (xV 0) aNil)) aNil))))) sNil)
noncomputable def m_can_mark_all : List D → Mo D := fnD 2 b_can_mark_all
/-! ### can_be_shifted_by -/
noncomputable def b_can_be_shifted_by : SX :=
    (sSeq (sRet (xCall 2 m_can_mark_all (aCons (xCall 2 m_marked_in (aCons (xV 0) (aCons (xV 1) aNil))) (aCons (xCall 1 m_needed_in (aCons (xV 1) aNil)) aNil)))) sNil)
noncomputable def m_can_be_shifted_by : List D → Mo D := fnD 2 b_can_be_shifted_by
/-! ### can_be_shifted -/
noncomputable def b_can_be_shifted : SX :=
    (sSeq (sExpr (xCall 2 m_check_looks (aCons (xV 0) (aCons (xV 1) aNil))))
    (sSeq (sRet (xCall 2 m_can_be_shifted_by (aCons (xV 0) (aCons (xV 1) aNil)))) sNil))
noncomputable def m_can_be_shifted : List D → Mo D := fnD 2 b_can_be_shifted
/-! ### _law_right -/
noncomputable def b_law_right : SX :=
    (sSeq (sFor (iR1 (aCons (xC (.int 16)) aNil)) (gN 1) (sSeq (sSet 2 (xCall 3 m_law_sounder (aCons (xV 0) (aCons (xC (.int 12)) (aCons (xC (.int 50)) aNil)))))
    (sSeq (sAsg (xCall 3 m_law_looks (aCons (xV 0) (aCons (xV 2) (aCons (xC (.int 7)) aNil)))) (gTupD 2 (gConsD (gN 11) (gConsD (gN 12) gNilD))))
    (sSeq (sSet 3 (xCall 2 m_law_ears (aCons (xV 2) (aCons (xV 11) aNil))))
    (sSeq (sSet 4 (xN oTuple (aCons (xCall 2 m_law_possible (aCons (xV 3) (aCons (x2 oIx (xV 2) (xC (.int 3))) aNil))) aNil)))
    (sSeq (sSet 5 (xIf (bO oEq (xV 1) (xC (.int 1))) (xTup (aCons (xCallK 2 0 2 [1, 0] m_possible_shifted aNil (aCons (xV 11) (aCons (xV 2) aNil))) (aCons (xCallK 2 0 2 [1, 0] m_can_be_shifted aNil (aCons (xV 11) (aCons (xV 2) aNil))) aNil))) (xTup (aCons (xCall 2 m_possible_shifted (aCons (xV 2) (aCons (xV 11) aNil))) (aCons (xCall 2 m_can_be_shifted (aCons (xV 2) (aCons (xV 11) aNil))) aNil)))))
    (sSeq (sSet 6 (xN oAll (aCons (xLc (iSeq (xV 11)) [15, 16] (gTupD 2 (gConsD (gN 15) (gConsD (gN 16) gNilD))) bYes (x2 oEq (xCall 3 m_law_makes (aCons (xV 2) (aCons (xV 4) (aCons (xV 15) aNil)))) (xV 16))) aNil)))
    (sSeq (sIf (bOr (bNot (bV (xCall 2 (m_law_same 12) (aCons (xV 5) (aCons (xTup (aCons (xV 4) (aCons (xV 6) aNil))) aNil))))) (bOr (bO oNe (xCall 2 m_possible_shifted (aCons (xV 2) (aCons (xRevT (xV 11)) aNil))) (xV 4)) (bO oNe (xCall 2 m_can_be_shifted (aCons (xV 2) (aCons (xRevT (xV 11)) aNil))) (xV 6)))) (sSeq (sRet (xC (.bl false))) sNil) sNil)
    (sSeq (sSet 7 (xCall 2 m_law_below (aCons (xV 0) (aCons (x2 oIx (xV 2) (xC (.int 3))) aNil))))
    (sSeq (sFor (iSeq (xTup (aCons (xV 12) (aCons (xV 4) (aCons (xSl (xV 4) (oS (xC (.int 1))) oN) (aCons (xN oTuple (aCons (x1 oSset2 (x2 oAdd (xV 4) (xTup (aCons (xV 7) aNil)))) aNil)) (aCons (xN oTuple (aCons (xLc (iSeq (xV 4)) [17] (gN 17) (bO oNe (xV 17) (xV 7)) (xV 17)) aNil)) (aCons (xCall 3 m_law_lot (aCons (xV 0) (aCons (x2 oIx (xV 2) (xC (.int 3))) (aCons (xC (.int 6)) aNil)))) (aCons (xTup aNil) aNil))))))))) (gN 8) (sSeq (sSet 13 (xCall 2 m_law_do_fit (aCons (xV 3) (aCons (xV 8) aNil))))
    (sSeq (sSet 14 (xIf (bO oEq (xV 1) (xC (.int 1))) (xCallK 3 0 3 [2, 1, 0] m_do_fit_shifted aNil (aCons (xV 8) (aCons (xV 11) (aCons (xV 2) aNil)))) (xCall 3 m_do_fit_shifted (aCons (xV 2) (aCons (xV 11) (aCons (xV 8) aNil))))))
    (sSeq (sIf (bAnd (bO oLt (xN oLen (aCons (xV 8) aNil)) (xC (.int 61))) (bNot (bV (xCall 2 (m_law_same 12) (aCons (xV 14) (aCons (xV 13) aNil)))))) (sSeq (sRet (xC (.bl false))) sNil) sNil) sNil)))) sNil))))))))))
    (sSeq (sAsg (xTup (aCons (xTup (aCons (xC (.int 3)) (aCons (xC (.int 5)) (aCons (xC (.int 1)) (aCons (xC (.int 15)) aNil))))) (aCons (xTup (aCons (xTup (aCons (xC (.int 0)) (aCons (xTup (aCons (xTup (aCons (xC (.int 1)) aNil)) (aCons (xTup (aCons (xC (.int 1)) aNil)) aNil))) aNil))) (aCons (xTup (aCons (xC (.int 1)) (aCons (xTup (aCons (xTup (aCons (xC (.int 2)) aNil)) (aCons (xTup (aCons (xC (.int 2)) aNil)) aNil))) aNil))) aNil))) aNil))) (gTupD 2 (gConsD (gN 9) (gConsD (gN 10) gNilD))))
    (sSeq (sRet (xCall 2 (m_law_same 12) (aCons (xTup (aCons (xCall 2 m_possible_shifted (aCons (xV 9) (aCons (xV 10) aNil))) (aCons (xCall 3 m_do_fit_shifted (aCons (xV 9) (aCons (xV 10) (aCons (xTup (aCons (xC (.int 1)) aNil)) aNil)))) (aCons (xCall 2 m_can_be_shifted (aCons (xTup (aCons (xC (.int 3)) (aCons (xC (.int 5)) (aCons (xC (.int 0)) (aCons (xC (.int 15)) aNil))))) (aCons (xTup (aCons (xTup (aCons (xC (.int 0)) (aCons (xTup (aCons (xTup (aCons (xC (.int 1)) (aCons (xC (.int 2)) aNil))) (aCons (xTup (aCons (xC (.int 3)) (aCons (xC (.int 4)) aNil))) aNil))) aNil))) (aCons (xTup (aCons (xC (.int 3)) (aCons (xTup (aCons (xTup (aCons (xC (.int 0)) aNil)) (aCons (xTup aNil) aNil))) aNil))) aNil))) aNil))) aNil)))) (aCons (xTup (aCons (xTup (aCons (xC (.int 1)) aNil)) (aCons (xC (.bl true)) (aCons (xC (.bl false)) aNil)))) aNil)))) sNil)))
noncomputable def m_law_right : List D → Mo D := fnD 18 b_law_right
/-! ### _law_pool -/
noncomputable def b_law_pool : SX :=
    (sSeq (sSet 2 (xIf (bO oLt (xV 1) (xN oLen (aCons (xV 0) aNil))) (xN oInt (aCons (x2 oIx (xV 0) (xV 1)) aNil)) (x2 oAdd (x2 oMul (xC (.int 7271)) (xV 1)) (xC (.int 783)))))
    (sSeq (sSet 3 (x2 oAdd (xC (.int 82669)) (x2 oMul (xC (.int 5123)) (xV 1))))
    (sSeq (sFor (iSeq (xSl (xV 0) oN (oS (xC (.int 12))))) (gN 4) (sSeq (sSet 3 (x2 oMod (xN oInt (aCons (x2 oAdd (x2 oAdd (x2 oMul (xV 3) (xC (.int 54069))) (x2 oMod (xN oInt (aCons (xV 4) aNil)) (xC (.int 2147483587)))) (xC (.int 55))) aNil)) (xC (.int 2147483647)))) sNil))
    (sSeq (sSet 3 (x2 oMod (xN oInt (aCons (x2 oAdd (x2 oAdd (x2 oMul (xV 3) (xC (.int 55))) (x2 oMul (x2 oMod (xN oInt (aCons (xV 2) aNil)) (xC (.int 2147483587))) (xC (.int 17667)))) (xC (.int 11))) aNil)) (xC (.int 2147483647))))
    (sSeq (sRet (xCell (aCons (xIf (bOr (bO oLt (xV 2) (xC (.int 0))) (bO oGe (xV 2) (x2 oPow (xC (.int 10)) (xC (.int 15))))) (x2 oMod (xN oInt (aCons (xN oAbs (aCons (xV 2) aNil)) aNil)) (x2 oPow (xC (.int 10)) (xC (.int 60)))) (xC (.int 0))) (aCons (xV 3) (aCons (xC (.int 0)) aNil))))) sNil)))))
noncomputable def m_law_pool : List D → Mo D := fnD 5 b_law_pool
/-! ### law -/
noncomputable def b_law : SX :=
    (sSeq (sRet (xN oAll (aCons (xLc (iR1 (aCons (xN oMax2 (aCons (xC (.int 1)) (aCons (xN oMin2 (aCons (xN oLen (aCons (xV 0) aNil)) (aCons (xC (.int 2)) aNil))) aNil))) aNil)) [1] (gN 1) bYes (xCall 1 m_law_right (aCons (xCall 2 m_law_pool (aCons (xV 0) (aCons (xV 1) aNil))) aNil))) aNil))) sNil)
noncomputable def m_law : List D → Mo D := fnD 2 b_law
end Law

namespace Law
open PySem L2 DL
theorem whole_ok {d : D} {C : Cells} {P : D → Cells → Prop} (h : fine d = true) : Ok (m_is_whole [d]) C P = P (.bl (isI d)) C := by
  simp [m_is_whole, b_is_whole, isi_int h, isi_bool h]
  cases d <;> simp [isI, isBl]
theorem between_ok {d : D} {i j : Int} {C : Cells} {P : D → Cells → Prop} (h : fine d = true) : Ok (m_is_between [d, .int i, .int j]) C P = P (.bl (btw d i j)) C := by
  simp [m_is_between, b_is_between, whole_ok h]
  cases d <;> simp [isI, btw]
  rename_i n
  by_cases h1 : i ≤ n <;> simp [h1]
theorem upto_ok {d : D} {j : Int} {C : Cells} {P : D → Cells → Prop} (h : fine d = true) : Ok (m_is_up_to [d, .int j]) C P = P (.bl (btw d 0 j)) C := by
  simp [m_is_up_to, b_is_up_to, between_ok h]
theorem period_ok {d : D} {C : Cells} {P : D → Cells → Prop} (h : fine d = true) : Ok (m_is_period [d]) C P = P (.bl (btw d 2 40)) C := by
  simp [m_is_period, b_is_period, between_ok h]
theorem tupof_ok {d : D} {j : Int} {C : Cells} {P : D → Cells → Prop} (h : fine d = true) : Ok (m_is_tuple_of [d, .int j]) C P = P (.bl (match d with | .tup ds => decide ((ds.length : Int) = j) | _ => false)) C := by
  simp [m_is_tuple_of, b_is_tuple_of, m_is_tuple_up_to, b_is_tuple_up_to, isi_tup h]
  cases d <;> simp [isT]
  rename_i ds
  by_cases h1 : j ≤ (ds.length : Int)
  · simp [h1]
    rw [show decide ((ds.length : Int) ≤ j) = decide ((ds.length : Int) = j) by rw [Bool.eq_iff_iff]; simp; omega]
  · simp [h1]
    have : (ds.length : Int) ≠ j := by omega
    simp [this]
/-- a sounder -/
def SS (a b c e : Int) : D := .tup [.int a, .int b, .int c, .int e]
structure SR4 (a b c e : Int) : Prop where
  a1 : 2 ≤ a
  a2 : a ≤ 40
  b1 : 2 ≤ b
  b2 : b ≤ 40
  c1 : 0 ≤ c
  c2 : c ≤ min a b - 1
  e1 : 1 ≤ e
  e2 : e ≤ 1600
theorem sounder_of_ok {a b c e : Int} (r : SR4 a b c e) {C : Cells} {P : D → Cells → Prop} : Ok (m_is_sounder_of [SS a b c e]) C P = P (.bl true) C := by
  obtain ⟨a1, a2, b1, b2, c1, c2, e1, e2⟩ := r
  have f := fun x => show fine (.int x) = true from rfl
  have g : fine (SS a b c e) = true := rfl
  have q0 : atI [D.int a, .int b, .int c, .int e] 0 = some (D.int a) := rfl
  have q1 : atI [D.int a, .int b, .int c, .int e] 1 = some (D.int b) := rfl
  have q2 : atI [D.int a, .int b, .int c, .int e] 2 = some (D.int c) := rfl
  have q3 : atI [D.int a, .int b, .int c, .int e] 3 = some (D.int e) := rfl
  simp -implicitDefEqProofs [m_is_sounder_of, b_is_sounder_of, tupof_ok g]
  simp -implicitDefEqProofs [SS, oIx_tup, q0, q1, q2, q3, period_ok (f _), upto_ok (f _), between_ok (f _), btw, a1, a2, b1, b2, c1, e1, e2]
  rw [decide_eq_true c2]
  simp
theorem csounder_ok {a b c e : Int} (r : SR4 a b c e) {C : Cells} {P : D → Cells → Prop} : Ok (m_check_sounder [SS a b c e]) C P = P .non C := by
  simp -implicitDefEqProofs [m_check_sounder, b_check_sounder, sounder_of_ok r]
def per (a b s : Int) : Int := if s = 0 then a else b
theorem SS_ix {a b c e s : Int} (hs : 0 ≤ s ∧ s ≤ 1) {C : Cells} : oIx C (SS a b c e) (.int s) = some (.int (per a b s)) := by
  have : s = 0 ∨ s = 1 := by omega
  rcases this with rfl | rfl <;> rfl
theorem SS_ix2 {a b c e : Int} {C : Cells} : oIx C (SS a b c e) (.int 2) = some (.int c) := rfl
theorem SS_ix3 {a b c e : Int} {C : Cells} : oIx C (SS a b c e) (.int 3) = some (.int e) := rfl
theorem SS_ix0 {a b c e : Int} {C : Cells} : oIx C (SS a b c e) (.int 0) = some (.int a) := rfl
theorem SS_ix1 {a b c e : Int} {C : Cells} : oIx C (SS a b c e) (.int 1) = some (.int b) := rfl
theorem per_pos {a b c e s : Int} (r : SR4 a b c e) : 0 < per a b s := by
  unfold per
  have := r.a1
  have := r.b1
  split <;> omega
theorem atI_zero (x : D) (xs : List D) : atI (x :: xs) 0 = some x := by
  unfold atI ixN
  rw [if_pos (by omega), if_pos (by simp)]
  rfl
structure Sd (S : D) (a b c : Int) : Prop where
  i0 : ∀ C, oIx C S (.int 0) = some (.int a)
  i1 : ∀ C, oIx C S (.int 1) = some (.int b)
  i2 : ∀ C, oIx C S (.int 2) = some (.int c)
theorem Sd.ix {S : D} {a b c s : Int} (h : Sd S a b c) (hs : 0 ≤ s ∧ s ≤ 1) {C : Cells} : oIx C S (.int s) = some (.int (per a b s)) := by
  have : s = 0 ∨ s = 1 := by omega
  rcases this with rfl | rfl
  · exact h.i0 C
  · exact h.i1 C
theorem SS_sd {a b c e : Int} : Sd (SS a b c e) a b c := ⟨fun _ => rfl, fun _ => rfl, fun _ => rfl⟩
theorem isrest_ok {S d : D} {a b c s : Int} (h : Sd S a b c) (hs : 0 ≤ s ∧ s ≤ 1) (hf : fine d = true) {C : Cells} {P : D → Cells → Prop} : Ok (m_is_rest_of [S, .int s, d]) C P = P (.bl (btw d c (per a b s - 1))) C := by
  simp -implicitDefEqProofs [m_is_rest_of, b_is_rest_of, m_blind_of, b_blind_of, m_period_by, b_period_by, h.i2, h.ix hs, between_ok hf]
def rowB (lo hi : Int) : D → Bool
  | .tup ds => ds.all (fun d => btw d lo hi) && ris ds
  | _ => false
def tl : D → Nat
  | .tup ds => ds.length
  | _ => 0
theorem rising_ok {ns : List Int} {C : Cells} {P : D → Cells → Prop} (h : P (.bl (ris (ns.map D.int))) C) : Ok (m_are_rising [.tup (ns.map D.int)]) C P := by
  simp -implicitDefEqProofs only [m_are_rising, b_are_rising, Ok_fnD]
  simp -implicitDefEqProofs [-List.map_map]
  rw [cut1]
  refine lc_map lesO (fun x hx => ?_) _ _ (fun _ h => h) ?_
  · obtain ⟨u, v, rfl, hu, hv⟩ := mem_zp hx
    obtain ⟨i, _, rfl⟩ := List.mem_map.mp hu
    obtain ⟨j, _, rfl⟩ := List.mem_map.mp (List.mem_of_mem_drop hv)
    simp -implicitDefEqProofs [lesO]
  · obtain ⟨bs, h1, h2⟩ := les_ris ns
    rw [List.nil_append, h1, oAll_ok, h2]
    exact h
theorem arerests_ok {S d : D} {a b c s : Int} (hS : Sd S a b c) (hs : 0 ≤ s ∧ s ≤ 1) (hg : good d = true) {C : Cells} {P : D → Cells → Prop} (h : P (.bl (rowB c (per a b s - 1) d)) C) : Ok (m_are_rests_of [S, .int s, d]) C P := by
  have hf := (Bool.and_eq_true_iff.mp hg).1
  simp -implicitDefEqProofs only [m_are_rests_of, b_are_rests_of, Ok_fnD]
  simp -implicitDefEqProofs [isi_tup hf]
  cases d with
  | tup ds =>
    have hi : ∀ x ∈ ds, itm x = true := by
      have := (Bool.and_eq_true_iff.mp hg).2
      simpa using this
    simp -implicitDefEqProofs [isT]
    refine lc_map (fun x => some (.bl (btw x c (per a b s - 1)))) (fun x hx => ?_) _ _ (fun _ h => h) ?_
    · simp -implicitDefEqProofs [isrest_ok hS hs (itm_fine (hi x hx))]
    · rw [List.nil_append, show ds.filterMap (fun x => some (D.bl (btw x c (per a b s - 1)))) = (ds.map fun x => btw x c (per a b s - 1)).map D.bl by simp, oAll_ok]
      rw [show (ds.map fun x => btw x c (per a b s - 1)).all id = ds.all fun x => btw x c (per a b s - 1) by simp]
      cases ha : ds.all fun x => btw x c (per a b s - 1) with
      | false =>
        simp -implicitDefEqProofs
        exact leaf h (by simp only [rowB, ha]; rfl)
      | true =>
        simp -implicitDefEqProofs
        obtain ⟨ns, rfl, _⟩ := btw_all ha
        refine rising_ok ?_
        exact leaf h (by simp only [rowB, ha]; rfl)
  | _ => (simp -implicitDefEqProofs [isT]; exact leaf h rfl)
def hpB (a b c : Int) : D → Bool
  | .tup [x, y] => rowB c (a - 1) x && rowB c (b - 1) y && (decide (tl x ≤ 12) && decide (tl y ≤ 12))
  | _ => false
/-- fit to be asked -/
def ask (d : D) : Bool := fine d && match d with
  | .tup rows => rows.all good
  | _ => true
theorem isPair_ok {d : D} (h : fine d = true) {C : Cells} {P : D → Cells → Prop} : Ok (m_is_pair [d]) C P = P (.bl (match d with | .tup [_, _] => true | _ => false)) C := by
  simp -implicitDefEqProofs [m_is_pair, b_is_pair, tupof_ok h]
  cases d with
  | tup ds =>
    match ds with
    | [] => simp
    | [_] => simp
    | [_, _] => simp
    | x :: y :: z :: r =>
      have : ¬ ((r.length : Int) + 1 + 1 + 1 = 2) := by omega
      simp [this]
  | _ => rfl
theorem heardpair_ok {S d : D} {a b c : Int} (hS : Sd S a b c) (hg : ask d = true) {C : Cells} {P : D → Cells → Prop} (h : P (.bl (hpB a b c d)) C) : Ok (m_is_heard_pair_of [S, d]) C P := by
  have hf := (Bool.and_eq_true_iff.mp hg).1
  have hr := (Bool.and_eq_true_iff.mp hg).2
  simp -implicitDefEqProofs only [m_is_heard_pair_of, b_is_heard_pair_of, Ok_fnD]
  simp -implicitDefEqProofs [isPair_ok hf]
  match d with
  | .tup [x, y] =>
    have q0 : atI [x, y] 0 = some x := rfl
    have q1 : atI [x, y] 1 = some y := rfl
    have hx : good x = true := List.all_eq_true.mp hr x (by simp)
    have hy : good y = true := List.all_eq_true.mp hr y (by simp)
    simp -implicitDefEqProofs [lc_cons, oIx_tup, q0, q1]
    refine arerests_ok hS (by omega) hx ?_
    refine arerests_ok hS (by omega) hy ?_
    have e0 : per a b 0 = a := rfl
    have e1 : per a b 1 = b := rfl
    rw [e0, e1]
    rw [show [D.bl (rowB c (a - 1) x), D.bl (rowB c (b - 1) y)] = [rowB c (a - 1) x, rowB c (b - 1) y].map D.bl from rfl, oAll_ok]
    cases h1 : rowB c (a - 1) x with
    | false => simp -implicitDefEqProofs; exact leaf h (by simp [hpB, h1])
    | true =>
      cases h2 : rowB c (b - 1) y with
      | false => simp -implicitDefEqProofs; exact leaf h (by simp [hpB, h1, h2])
      | true =>
        cases x with
        | tup xs =>
          cases y with
          | tup ys =>
            simp -implicitDefEqProofs
            have hh : hpB a b c (.tup [.tup xs, .tup ys]) = (decide (xs.length ≤ 12) && decide (ys.length ≤ 12)) := by
              show (rowB c (a - 1) (.tup xs) && rowB c (b - 1) (.tup ys) && (decide (xs.length ≤ 12) && decide (ys.length ≤ 12))) = _
              rw [h1, h2]; rfl
            rw [hh] at h
            refine iff2_dec (fun q => ?_) fun q => ?_
            · exact leaf h (by rw [decide_eq_true (show xs.length ≤ 12 by omega), Bool.true_and]; exact decide_eq_decide.mpr (by omega))
            · exact leaf h (by rw [decide_eq_false (show ¬ xs.length ≤ 12 by omega)]; first | rfl | (rw [Bool.false_and]; symm; exact decide_eq_false q))
          | _ => cases h2
        | _ => cases h1
  | .tup [] => simp -implicitDefEqProofs; exact leaf h rfl
  | .tup [_] => simp -implicitDefEqProofs; exact leaf h rfl
  | .tup (_ :: _ :: _ :: _) => simp -implicitDefEqProofs; exact leaf h rfl
  | .non => simp -implicitDefEqProofs; exact leaf h rfl
  | .bl _ => simp -implicitDefEqProofs; exact leaf h rfl
  | .int _ => simp -implicitDefEqProofs; exact leaf h rfl
  | .str _ => simp -implicitDefEqProofs; exact leaf h rfl
  | .lst _ => simp -implicitDefEqProofs; exact leaf h rfl
  | .dct _ _ => simp -implicitDefEqProofs; exact leaf h rfl
  | .scr _ => simp -implicitDefEqProofs; exact leaf h rfl
  | .hnd _ => cases hf
  | .ref _ => cases hf
  | .ty _ => cases hf
  | .ktp _ => cases hf
  | .fn _ => cases hf
structure RowOk (lo hi : Int) (ns : List Int) : Prop where
  pw : ns.Pairwise (· < ·)
  bd : ∀ n ∈ ns, lo ≤ n ∧ n ≤ hi
theorem RowOk.dsort {lo hi : Int} {ns : List Int} (h : ∀ n ∈ ns, lo ≤ n ∧ n ≤ hi) : RowOk lo hi (dsort ns) := ⟨pw_dsort ns, fun n hn => h n (mem_dsort.mp hn)⟩
theorem RowOk.take {lo hi : Int} {ns : List Int} (h : RowOk lo hi ns) (n : Nat) : RowOk lo hi (ns.take n) := ⟨h.pw.sublist (List.take_sublist n ns), fun k hk => h.bd k (List.mem_of_mem_take hk)⟩
theorem RowOk.drop {lo hi : Int} {ns : List Int} (h : RowOk lo hi ns) (n : Nat) : RowOk lo hi (ns.drop n) := ⟨h.pw.sublist (List.drop_sublist n ns), fun k hk => h.bd k (List.mem_of_mem_drop hk)⟩
theorem at_push {C : Cells} {a b : Cell} : (C ++ [a, b])[C.length]? = some a ∧ (C ++ [a, b])[C.length + 1]? = some b := by simp
theorem set_get {C : Cells} {m j : Nat} {x : Cell} {o : Option Cell} (hj : j ≠ m) (h : C[j]? = o) : (C.set m x)[j]? = o := by rw [List.getElem?_set_ne (Ne.symm hj)]; exact h
theorem set_self {C : Cells} {m : Nat} {x y : Cell} (h : C[m]? = some y) : (C.set m x)[m]? = some x := List.getElem?_set_self (List.getElem?_eq_some_iff.mp h).1
theorem snoc_map (u : List Int) (n : Int) : u.map D.int ++ [D.int n] = (u ++ [n]).map D.int := by simp
theorem bd_snoc {lo hi n : Int} {u : List Int} (h : ∀ k ∈ u, lo ≤ k ∧ k ≤ hi) (h1 : lo ≤ n) (h2 : n ≤ hi) : ∀ k ∈ u ++ [n], lo ≤ k ∧ k ≤ hi := fun k hk => by
  rcases List.mem_append.mp hk with hk | hk
  · exact h k hk
  · rw [List.mem_singleton.mp hk]; exact ⟨h1, h2⟩
theorem app_at {m : Nat} {C : Cells} {u : List Int} {n : Int} {P : D → Cells → Prop} (h : C[m]? = some (.lst (u.map D.int))) (hl : u.length < 100) : Ok (chkL (.hnd m)) C (fun _ C1 => Ok (app1 (.hnd m) [.int n]) C1 P) = P .non (C.set m (.lst ((u ++ [n]).map D.int))) := by
  rw [chkL_ok h, app_ok h (by simp; omega), snoc_map]
theorem cut12 {β : Type} (ds : List β) : cutL ds none (some 12) = ds.take 12 := cutTo ds 12
theorem pair0 (x y : D) : atI [x, y] 0 = some x := rfl
theorem pair1 (x y : D) : atI [x, y] 1 = some y := rfl
theorem rg_nil {i j : Int} (h : ¬ i < j) : rgD i j = [] := by
  unfold rgD
  rw [show (j - i).toNat = 0 by omega]
  rfl
theorem rg_cons {i j : Int} (h : i < j) : rgD i j = .int i :: rgD (i + 1) j := by
  unfold rgD
  rw [show (j - i).toNat = (j - (i + 1)).toNat + 1 by omega, List.range_succ_eq_map, List.map_cons, List.map_map]
  congr 1
  · congr 1; simp
  · refine List.map_congr_left fun k _ => ?_
    simp; omega
theorem RowOk.snoc {lo i : Int} {ns : List Int} (h : RowOk lo (i - 1) ns) (hl : lo ≤ i) : RowOk lo i (ns ++ [i]) :=
  ⟨List.pairwise_append.mpr ⟨h.pw, by simp, fun a ha b hb => by rw [List.mem_singleton.mp hb]; have := (h.bd a ha).2; omega⟩, bd_snoc (fun k hk => ⟨(h.bd k hk).1, by have := (h.bd k hk).2; omega⟩) hl (Int.le_refl _)⟩
theorem RowOk.le {lo i j : Int} {ns : List Int} (h : RowOk lo i ns) (hl : i ≤ j) : RowOk lo j ns := ⟨h.pw, fun k hk => ⟨(h.bd k hk).1, Int.le_trans (h.bd k hk).2 hl⟩⟩
theorem good_ints (u : List Int) : good (.tup (u.map D.int)) = true := good_tup fun d hd => by obtain ⟨n, _, rfl⟩ := List.mem_map.mp hd; rfl
theorem ask_tup {ds : List D} (h : ∀ d ∈ ds, good d = true) : ask (.tup ds) = true := by
  show (true && ds.all good) = true
  simpa using h
theorem itm_good {d : D} (h : ∀ ds, d ≠ .tup ds) (hf : fine d = true) : good d = true := by
  unfold good
  rw [hf]
  cases d with
  | tup ds => exact absurd rfl (h ds)
  | _ => rfl
theorem row_itm (u : List Int) : ∀ d ∈ u.map D.int, itm d = true := fun d hd => by obtain ⟨n, _, rfl⟩ := List.mem_map.mp hd; rfl
theorem RowOk.rowB {lo hi lo' hi' : Int} {ns : List Int} (h : RowOk lo hi ns) (h1 : lo' ≤ lo) (h2 : hi ≤ hi') : rowB lo' hi' (.tup (ns.map D.int)) = true := by
  show ((ns.map D.int).all (fun d => btw d lo' hi') && ris (ns.map D.int)) = true
  rw [all_btw fun n hn => ⟨Int.le_trans h1 (h.bd n hn).1, Int.le_trans (h.bd n hn).2 h2⟩, ris_pw, decide_eq_true h.pw]
  rfl
theorem hpB_ok {a b c a' b' c' : Int} {u v : List Int} (ru : RowOk c (a - 1) u) (rv : RowOk c (b - 1) v) (lu : u.length ≤ 12) (lv : v.length ≤ 12) (h1 : a ≤ a') (h2 : b ≤ b') (h3 : c' ≤ c) : hpB a' b' c' (.tup [.tup (u.map D.int), .tup (v.map D.int)]) = true := by
  show (rowB c' (a' - 1) (.tup (u.map D.int)) && rowB c' (b' - 1) (.tup (v.map D.int)) && (decide ((u.map D.int).length ≤ 12) && decide ((v.map D.int).length ≤ 12))) = true
  rw [ru.rowB h3 (by omega), rv.rowB h3 (by omega), List.length_map, List.length_map, decide_eq_true lu, decide_eq_true lv]
  rfl
theorem ask_pair (u v : List Int) : ask (.tup [.tup (u.map D.int), .tup (v.map D.int)]) = true := ask_tup fun d hd => by
  simp only [List.mem_cons, List.not_mem_nil, or_false] at hd
  rcases hd with rfl | rfl
  · exact good_ints u
  · exact good_ints v
theorem tri0 (a b c : Int) : atI [D.int a, .int b, .int c] 0 = some (D.int a) := rfl
theorem tri1 (a b c : Int) : atI [D.int a, .int b, .int c] 1 = some (D.int b) := rfl
theorem tri2 (a b c : Int) : atI [D.int a, .int b, .int c] 2 = some (D.int c) := rfl
theorem below_ok {k : Nat} {n : Int} {C : Cells} {P : D → Cells → Prop} (hp : PoolAt k C) (hn : 0 < n) (hb : n < 1073741824) (h : ∀ d C', 0 ≤ d → d < n → Gr k C C' → P (.int d) C') : Ok (m_law_below [.hnd k, .int n]) C P := by
  obtain ⟨a, b, c, e⟩ := id hp
  have g := Gr.refl hp
  simp only [m_law_below, b_law_below, Ok_fnD]
  simp [oIx_hnd e, tri0]
  refine iff2_dec (fun hb0 => ?_) fun hb0 => ?_
  · simp [oDivm_pos a n ⟨hn, hb⟩]
    refine setD_ok (m := 0) e rfl ?_
    simp
    exact h _ _ (Int.emod_nonneg _ (by omega)) (Int.emod_lt_of_pos _ hn) (g.put _ _ _)
  · simp [tri2]
    refine setD_ok (m := 2) e rfl ?_
    have e1 : (C.set k (.lst [.int a, .int b, .int (c + 1)]))[k]? = some (.lst [.int a, .int b, .int (c + 1)]) := PoolAt.put _ _ _ e
    simp only [List.set_cons_succ, List.set_cons_zero]
    simp only [oIx_hnd e1]
    simp [tri1, tri2, oMul_r, oMul_l, oMod_pos]
    generalize hs : (b * _ + _ * (c + 1) + _) % _ = st
    rw [oMul_r _ _ (by have := Int.emod_nonneg st (show (3989 : Int) ≠ 0 by decide); have := Int.emod_lt_of_pos st (show (0 : Int) < 3989 by decide); omega)]
    simp [oMod_pos]
    refine setD_ok (m := 1) e1 rfl ?_
    have e2 := fun x => PoolAt.put a x (c + 1) e1
    simp only [List.set_cons_succ, List.set_cons_zero]
    rw [oIx_hnd (e2 _)]
    simp [tri1, oFdv_pos, oMod_pos _ _ hn]
    refine h _ _ (Int.emod_nonneg _ (by omega)) (Int.emod_lt_of_pos _ hn) ?_
    have := (g.put a b (c + 1)).put
    simpa using this a _ (c + 1)
theorem one_ok {k : Nat} {ds : List D} {C : Cells} {P : D → Cells → Prop} (hp : PoolAt k C) (hn : ds ≠ []) (hb : ds.length < 1073741824) (h : ∀ d C', d ∈ ds → Gr k C C' → P d C') : Ok (m_law_one [.hnd k, .tup ds]) C P := by
  have hl : 0 < ds.length := List.length_pos_iff.mpr hn
  simp [m_law_one, b_law_one]
  refine below_ok hp (by omega) (by omega) fun d C' h1 h2 g => ?_
  obtain ⟨x, hx, hm⟩ := atI_ok h1 h2
  simp [oIx_tup, hx]
  exact h x C' hm g
theorem pool_ok {ns : List Int} {lap : Int} {C : Cells} {P : D → Cells → Prop} (hn : ns.length ≤ 63) (h0 : 0 ≤ lap) (h : ∀ C', PoolAt C.length C' → P (.hnd C.length) C') : Ok (m_law_pool [.scr (ns.map D.int), .int lap]) C P := by
  simp [m_law_pool, b_law_pool, oMul_l, oMul_r, -Ok_xIf]
  refine Ok.mono (P := fun x C' => C = C' ∧ ∃ own : Int, x = .int own) ?_ ?_
  · simp
    refine iff2_dec (fun hl => ?_) fun hl => ?_
    · obtain ⟨n, e⟩ := atI_map h0 hl
      simp [oIx_scr, e]
    · simp [oMul_l]
  rintro x C' ⟨rfl, own, rfl⟩
  refine for_inv (fun ρ C' => C = C' ∧ ∃ (a : Option D) (y : Int), ρ = [some (.scr (ns.map D.int)), some (.int lap), some (.int own), some (.int y), a]) ?_ ?_ ?_
  · simp
  · rintro x ρ C' hx ⟨rfl, a, y, rfl⟩ J hJ
    obtain ⟨n, _, rfl⟩ := List.mem_map.mp (mem_cut hx)
    simp [oMul_r, oMod_pos]
    exact hJ _ _ ⟨rfl, _, _, rfl⟩
  · rintro ρ C' ⟨rfl, a, y, rfl⟩
    simp [oMul_r, oMod_pos, oPow_ok, -Ok_xIf]
    refine Ok.mono (P := fun x C'' => C = C'' ∧ ∃ own : Int, x = .int own) ?_ ?_
    · simp
      refine iff2_dec (fun hl => ?_) fun hl => ?_
      · simp [oPow_ok, oMod_pos]
      · simp [oPow_ok, oMod_pos]
    rintro x C'' ⟨rfl, b, rfl⟩
    exact h _ ⟨_, _, _, List.getElem?_concat_length ..⟩
theorem sounder_pool {k : Nat} {hi far : Int} {C : Cells} {P : D → Cells → Prop} (hp : PoolAt k C) (h1 : 2 ≤ hi) (h2 : hi ≤ 40) (f1 : 1 ≤ far) (f2 : far ≤ 1600) (h : ∀ a b c e C', SR4 a b c e → e ≤ far → Gr k C C' → P (SS a b c e) C') : Ok (m_law_sounder [.hnd k, .int hi, .int far]) C P := by
  simp -implicitDefEqProofs [m_law_sounder, b_law_sounder]
  refine below_ok hp (by omega) (by omega) fun x1 C1 l1 u1 g1 => ?_
  try simp -implicitDefEqProofs
  refine below_ok g1.pool (by omega) (by omega) fun x2 C2 l2 u2 g2 => ?_
  simp -implicitDefEqProofs
  have g12 := g1.trans g2
  refine iff2_dec (fun hq => ?_) fun hq => (hq (by omega)).elim
  refine one_ok g12.pool (by simp) (by simp) fun d C3 hd g3 => ?_
  simp only [List.mem_cons, List.not_mem_nil, or_false] at hd
  obtain ⟨m, rfl, m1, m2⟩ : ∃ m : Int, d = .int m ∧ 1 ≤ m ∧ m ≤ min (2 + x1) (2 + x2) := by
    rcases hd with rfl | rfl | rfl
    · exact ⟨_, rfl, by omega, by omega⟩
    · exact ⟨_, rfl, by omega, by omega⟩
    · exact ⟨_, rfl, by omega, by omega⟩
  have g13 := g12.trans g3
  refine below_ok g13.pool (by omega) (by omega) fun x4 C4 l4 u4 g4 => ?_
  try simp -implicitDefEqProofs
  have g14 := g13.trans g4
  refine below_ok g14.pool (by omega) (by omega) fun x5 C5 l5 u5 g5 => ?_
  try simp -implicitDefEqProofs
  exact h _ _ _ _ _ ⟨by omega, by omega, by omega, by omega, by omega, by omega, by omega, by omega⟩ (by omega) (g14.trans g5)
end Law

namespace Law
open PySem L2 DL
theorem Sd.rest {S : D} {a b c s d : Int} (h : Sd S a b c) (hs : 0 ≤ s ∧ s ≤ 1) (hp : 0 < per a b s) {C : Cells} {P : D → Cells → Prop} : Ok (m_rest_by [S, .int s, .int d]) C P = P (.int (d % per a b s)) C := by
  simp -implicitDefEqProofs [m_rest_by, b_rest_by, m_period_by, b_period_by, h.ix hs, oMod_pos _ _ hp]
theorem Sd.hears {S : D} {a b c s d : Int} (h : Sd S a b c) (hs : 0 ≤ s ∧ s ≤ 1) (hp : 0 < per a b s) {C : Cells} {P : D → Cells → Prop} : Ok (m_hears [S, .int s, .int d]) C P = P (.bl (decide (c ≤ d % per a b s))) C := by
  simp -implicitDefEqProofs [m_hears, b_hears, h.rest hs hp, m_blind_of, b_blind_of, h.i2]
/-- the marks of a delay -/
def mp (a b c d : Int) : List (Int × Int) := (if c ≤ d % a then [(0, d % a)] else []) ++ (if c ≤ d % b then [(1, d % b)] else [])
theorem marksof_ok {S : D} {a b c d : Int} (h : Sd S a b c) (ha : 0 < a) (hb : 0 < b) {C : Cells} {P : D → Cells → Prop} : Ok (m_marks_of [S, .int d]) C P = P (.lst ((mp a b c d).map pD)) C := by
  have p0 : per a b 0 = a := rfl
  have p1 : per a b 1 = b := rfl
  have h0 := fun C P => @Sd.hears S a b c 0 d h (by omega) (by rw [p0]; exact ha) C P
  have h1 := fun C P => @Sd.hears S a b c 1 d h (by omega) (by rw [p1]; exact hb) C P
  have r0 := fun C P => @Sd.rest S a b c 0 d h (by omega) (by rw [p0]; exact ha) C P
  have r1 := fun C P => @Sd.rest S a b c 1 d h (by omega) (by rw [p1]; exact hb) C P
  simp -implicitDefEqProofs [m_marks_of, b_marks_of, lc_cons, h0, h1, r0, r1, p0, p1]
  unfold mp
  by_cases q1 : c ≤ d % a <;> by_cases q2 : c ≤ d % b <;> simp [q1, q2, pD]
/-- the rests of a lot by a side that hears them -/
def fil (p c : Int) (ns : List Int) : List Int := (ns.filter fun d => decide (c ≤ d % p)).map (· % p)
def mkS (p c : Int) (ns : List Int) : List Int := dsort (fil p c ns)
theorem fil_len (p c : Int) (ns : List Int) : (fil p c ns).length ≤ ns.length := by
  unfold fil
  rw [List.length_map]
  exact List.length_filter_le _ _
theorem mkS_len (p c : Int) (ns : List Int) : (mkS p c ns).length ≤ ns.length := Nat.le_trans (dsort_le _) (fil_len p c ns)
theorem fil_bd {p c : Int} {ns : List Int} (hp : 0 < p) : ∀ n ∈ fil p c ns, c ≤ n ∧ n ≤ p - 1 := fun n hn => by
  obtain ⟨d, hd, rfl⟩ := List.mem_map.mp hn
  have h1 := of_decide_eq_true (List.mem_filter.mp hd).2
  have h2 := Int.emod_lt_of_pos d hp
  exact ⟨h1, by omega⟩
theorem mkS_row {p c : Int} {ns : List Int} (hp : 0 < p) : RowOk c (p - 1) (mkS p c ns) := .dsort (fil_bd hp)
theorem mkS_mem {p c k : Int} {ns : List Int} : k ∈ mkS p c ns ↔ ∃ d ∈ ns, c ≤ d % p ∧ k = d % p := by
  unfold mkS fil
  rw [mem_dsort, List.mem_map]
  constructor
  · rintro ⟨d, hd, rfl⟩
    obtain ⟨h1, h2⟩ := List.mem_filter.mp hd
    exact ⟨d, h1, of_decide_eq_true h2, rfl⟩
  · rintro ⟨d, h1, h2, rfl⟩
    exact ⟨d, List.mem_filter.mpr ⟨h1, decide_eq_true h2⟩, rfl⟩
theorem mp_side {a b c d s k : Int} : (s, k) ∈ mp a b c d ↔ (s = 0 ∧ c ≤ d % a ∧ k = d % a) ∨ (s = 1 ∧ c ≤ d % b ∧ k = d % b) := by
  unfold mp
  by_cases q1 : c ≤ d % a <;> by_cases q2 : c ≤ d % b <;> simp [q1, q2]
theorem mp_len (a b c d : Int) : (mp a b c d).length ≤ 2 := by
  unfold mp
  by_cases q1 : c ≤ d % a <;> by_cases q2 : c ≤ d % b <;> simp [q1, q2]
theorem nth_map {ns : List Int} {i : Nat} {x : D} (h : (ns.map D.int)[i]? = some x) : ∃ n, ns[i]? = some n ∧ x = .int n := by
  rw [List.getElem?_map] at h
  obtain ⟨n, h1, h2⟩ := Option.map_eq_some_iff.mp h
  exact ⟨n, h1, h2.symm⟩
theorem atI_nat {xs : List D} {i : Nat} : atI xs (i : Int) = xs[i]? := by
  unfold atI ixN
  rw [if_pos (by omega)]
  by_cases h : i < xs.length
  · rw [if_pos (by omega)]; simp
  · rw [if_neg (by omega)]
    simp
    omega
theorem SR4.pa {a b c e : Int} (r : SR4 a b c e) : 0 < a := by have := r.a1; omega
theorem SR4.pb {a b c e : Int} (r : SR4 a b c e) : 0 < b := by have := r.b1; omega
abbrev two (u v : List Int) : D := .tup [.tup (u.map D.int), .tup (v.map D.int)]
def nest : Nat → D → Bool
  | _, .int _ => true
  | _, .bl _ => true
  | n + 1, .tup ds => ds.all (nest n)
  | _, _ => false
theorem same_int {n : Nat} {i : Int} {C : Cells} {P : D → Cells → Prop} : Ok (m_law_same (n + 1) [.int i, .int i]) C P = P (.bl true) C := by
  have i1 := isi_tup (C := C) (x := .int i) rfl
  have i2 := isi_bool (C := C) (x := .int i) rfl
  have i3 := isi_int (C := C) (x := .int i) rfl
  rw [show m_law_same (n + 1) = fnD 5 (b_law_same (m_law_same n)) from rfl]
  generalize m_law_same n = rec
  simp -implicitDefEqProofs [b_law_same, i1, i2, i3, isT, isBl, isI, isS, oIsN]
theorem same_bl {n : Nat} {i : Bool} {C : Cells} {P : D → Cells → Prop} : Ok (m_law_same (n + 1) [.bl i, .bl i]) C P = P (.bl true) C := by
  have i2 := isi_bool (C := C) (x := .bl i) rfl
  have e : oEq C (.bl i) (.bl i) = some (.bl true) := by cases i <;> rfl
  rw [show m_law_same (n + 1) = fnD 5 (b_law_same (m_law_same n)) from rfl]
  generalize m_law_same n = rec
  simp -implicitDefEqProofs [b_law_same, i2, isBl, e, oIsN]
theorem same_nest : ∀ (n : Nat) (d : D) (C : Cells) (P : D → Cells → Prop), nest n d = true → P (.bl true) C → Ok (m_law_same (n + 1) [d, d]) C P := by
  intro n
  induction n with
  | zero =>
    intro d C P hn h
    cases d with
    | int i => rw [same_int]; exact h
    | bl i => rw [same_bl]; exact h
    | _ => cases hn
  | succ n ih =>
    intro d C P hn h
    cases d with
    | int i => rw [same_int]; exact h
    | bl i => rw [same_bl]; exact h
    | tup ds =>
      have i1 := isi_tup (C := C) (x := .tup ds) rfl
      have i2 := isi_bool (C := C) (x := .tup ds) rfl
      have i3 := isi_int (C := C) (x := .tup ds) rfl
      have i4 := isi_str (C := C) (x := .tup ds) rfl
      have i5 := isi_lst (C := C) (x := .tup ds) rfl
      have i6 : oIsi "dict" C [.tup ds, .ty "dict"] = some (.bl false) := (oIsi_eq (t := "tuple") rfl).trans (congrArg (fun b => some (D.bl b)) (by simp))
      have q1 : ∀ b : Bool, oNe C (.bl b) (.bl b) = some (.bl false) := fun b => by cases b <;> rfl
      replace ih := fun x (hx : x ∈ ds) C P => ih x C P (List.all_eq_true.mp hn x hx)
      rw [show m_law_same (n + 1 + 1) = fnD 5 (b_law_same (m_law_same (n + 1))) from rfl]
      generalize m_law_same (n + 1) = rec at ih
      simp -implicitDefEqProofs [b_law_same, i1, i2, i3, i4, i5, i6, isT, isBl, isI, isS, isL, oIsN, q1]
      refine lc_map (fun _ => some (.bl true)) (fun x hx => ?_) _ _ (fun _ h => h) ?_
      · obtain ⟨u, hu, rfl⟩ : ∃ u, u ∈ ds ∧ x = .tup [u, u] := by
          obtain ⟨i, hi⟩ := List.mem_iff_getElem?.mp hx
          obtain ⟨y, z, h1, h2, rfl⟩ := zpD_get hi
          rw [h1] at h2; cases h2
          exact ⟨y, List.mem_of_getElem? h1, rfl⟩
        simp -implicitDefEqProofs
        refine ih u hu C _ ?_
        simp
      · rw [List.nil_append, show (zpD ds ds).filterMap (fun _ => some (D.bl true)) = ((zpD ds ds).map fun _ => true).map D.bl by simp, oAll_ok, opt_some]
        rw [show ((zpD ds ds).map fun _ => true).all id = true by simp]
        exact h
    | _ => cases hn
theorem nest_ints (n : Nat) (u : List Int) : nest (n + 1) (.tup (u.map D.int)) = true := by
  show (u.map D.int).all (nest n) = true
  rw [List.all_eq_true]
  intro d hd
  obtain ⟨x, _, rfl⟩ := List.mem_map.mp hd
  cases n <;> rfl
theorem nest_two (n : Nat) (u v : List Int) : nest (n + 2) (two u v) = true := by
  show (nest (n + 1) (.tup (u.map D.int)) && (nest (n + 1) (.tup (v.map D.int)) && true)) = true
  rw [nest_ints, nest_ints]
  rfl
theorem lmarks_ok {a b c e d : Int} (r : SR4 a b c e) {C : Cells} {P : D → Cells → Prop} : Ok (m_law_marks [SS a b c e, .int d]) C P = P (.lst ((mp a b c d).map pD)) C := by
  have ha := r.pa
  have hb := r.pb
  simp -implicitDefEqProofs [m_law_marks, b_law_marks, lc_cons, SS_ix0, SS_ix1, SS_ix2, oMod_pos _ _ ha, oMod_pos _ _ hb]
  unfold mp
  by_cases h1 : c ≤ d % a <;> by_cases h2 : c ≤ d % b <;> simp [h1, h2, pD]
theorem fil_snoc (p c : Int) (ns : List Int) (d : Int) : fil p c (ns ++ [d]) = fil p c ns ++ (if c ≤ d % p then [d % p] else []) := by
  unfold fil
  rw [List.filter_append, List.map_append]
  congr 1
  by_cases h : c ≤ d % p <;> simp [h]
theorem lmakes_ok {k : Nat} {a b c e t : Int} {ns : List Int} {y : D} {C0 : Cells} (r : SR4 a b c e) (hp : PoolAt k C0) (hl : ns.length ≤ 60) (hy : RowAt k C0 y (ns.map D.int)) {P : D → Cells → Prop} (h : ∀ C', Gr k C0 C' → P (two (mkS a c (ns.map (· + t))) (mkS b c (ns.map (· + t)))) C') : Ok (m_law_makes [SS a b c e, y, .int t]) C0 P := by
  have ha := r.pa
  have hb := r.pb
  have hk := hp.lt
  have q0 : ∀ x y, atI [D.hnd x, D.hnd y] 0 = some (D.hnd x) := fun _ _ => rfl
  have q1 : ∀ x y, atI [D.hnd x, D.hnd y] 1 = some (D.hnd y) := fun _ _ => rfl
  simp -implicitDefEqProofs only [m_law_makes, b_law_makes, Ok_fnD]
  simp -implicitDefEqProofs [-List.map_map]
  have g0 : Gr k C0 (C0 ++ [Cell.lst [], Cell.lst []]) := by
    have := ((Gr.refl hp).push (.lst [])).push (.lst [])
    simpa using this
  obtain ⟨s, hit, run, hok⟩ := hy.run _ g0
  rw [run, hit]
  refine forS_ok (fun xs ρ C' => ∃ (x4 x5 x6 : Option D) (done rest : List Int), done ++ rest = ns ∧ xs = rest.map D.int ∧ ρ = [some (SS a b c e), some y, some (.int t), some (.tup [.hnd C0.length, .hnd (C0.length + 1)]), x4, x5, x6] ∧ Gr k C0 C' ∧ C'[C0.length]? = some (.lst ((fil a c (done.map (· + t))).map D.int)) ∧ C'[C0.length + 1]? = some (.lst ((fil b c (done.map (· + t))).map D.int))) (fun xs ρ C' h => by obtain ⟨_, _, _, _, _, _, _, _, g, _⟩ := h; exact hok C' g) ?_ ?_ _ _ _ (fun z hz => hit ▸ hz) ?_
  · rintro z zs ρ C' hz ⟨x4, x5, x6, done, rest, e1, e2, rfl, g, cu, cv⟩ J hJ
    cases rest with
    | nil => cases e2
    | cons d rest =>
      rw [List.map_cons] at e2
      cases e2
      have ld : done.length ≤ 60 := by rw [← e1] at hl; simp at hl; omega
      have lu : (fil a c (done.map (· + t))).length < 100 := by have := fil_len a c (done.map (· + t)); simp at this; omega
      have lv : (fil b c (done.map (· + t))).length < 100 := by have := fil_len b c (done.map (· + t)); simp at this; omega
      simp -implicitDefEqProofs [-List.map_map, lmarks_ok r]
      have sn : ∀ p, fil p c ((done ++ [d]).map (· + t)) = fil p c (done.map (· + t)) ++ (if c ≤ (d + t) % p then [(d + t) % p] else []) := fun p => by rw [List.map_append]; exact fil_snoc p c _ _
      have e3 : (done ++ [d]) ++ rest = ns := by simpa using e1
      unfold mp
      by_cases h1 : c ≤ (d + t) % a <;> by_cases h2 : c ≤ (d + t) % b <;> simp -implicitDefEqProofs [-List.map_map, -List.map_append, h1, h2, for_cons, oIx_tup, pD]
      · simp only [q0, q1, opt_some]
        rw [app_at cu lu, app_at (set_get (by omega) cv) lv]
        refine hJ _ _ ⟨_, _, _, done ++ [d], rest, e3, rfl, rfl, (g.set _ (by omega) hk).set _ (by omega) hk, ?_, ?_⟩
        · rw [sn a, if_pos h1]; exact set_get (by omega) (set_self cu)
        · rw [sn b, if_pos h2]; exact set_self (set_get (by omega) cv)
      · simp only [q0, q1, opt_some]
        rw [app_at cu lu]
        refine hJ _ _ ⟨_, _, _, done ++ [d], rest, e3, rfl, rfl, g.set _ (by omega) hk, ?_, ?_⟩
        · rw [sn a, if_pos h1]; exact set_self cu
        · rw [sn b, if_neg h2, List.append_nil]; exact set_get (by omega) cv
      · simp only [q0, q1, opt_some]
        rw [app_at cv lv]
        refine hJ _ _ ⟨_, _, _, done ++ [d], rest, e3, rfl, rfl, g.set _ (by omega) hk, ?_, ?_⟩
        · rw [sn a, if_neg h1, List.append_nil]; exact set_get (by omega) cu
        · rw [sn b, if_pos h2]; exact set_self cv
      · refine hJ _ _ ⟨_, _, _, done ++ [d], rest, e3, rfl, rfl, g, ?_, ?_⟩
        · rw [sn a, if_neg h1, List.append_nil]; exact cu
        · rw [sn b, if_neg h2, List.append_nil]; exact cv
  · rintro ρ C' ⟨x4, x5, x6, done, rest, e1, e2, rfl, g, cu, cv⟩
    have : rest = [] := by cases rest with | nil => rfl | cons _ _ => cases e2
    subst this
    rw [List.append_nil] at e1
    subst e1
    have lu : (fil a c (done.map (· + t))).length < 64 := by have := fil_len a c (done.map (· + t)); simp at this; omega
    have lv : (fil b c (done.map (· + t))).length < 64 := by have := fil_len b c (done.map (· + t)); simp at this; omega
    have e0 : oSset C' (.hnd C0.length) = some (.lst ((mkS a c (done.map (· + t))).map D.int)) := oSset_ok (by rw [look_hnd cu]; rfl) lu
    have e1 : oSset C' (.hnd (C0.length + 1)) = some (.lst ((mkS b c (done.map (· + t))).map D.int)) := oSset_ok (by rw [look_hnd cv]; rfl) lv
    simp -implicitDefEqProofs [-List.map_map, oIx_tup, q0, q1, e0, e1]
    exact h _ g
  · refine ⟨none, none, none, [], ns, rfl, rfl, rfl, ?_, ?_, ?_⟩
    · exact g0
    · simp [fil]
    · simp [fil]
theorem lot_ok {k : Nat} {far most : Int} (f1 : 1 ≤ far) (f2 : far ≤ 1600) (m1 : 0 ≤ most) (m2 : most ≤ 60) {C : Cells} {P : D → Cells → Prop} (hp : PoolAt k C) (h : ∀ ns C', Gr k C C' → RowOk 0 (far - 1) ns → (ns.length : Int) ≤ most → P (.tup (ns.map D.int)) C') : Ok (m_law_lot [.hnd k, .int far, .int most]) C P := by
  have hk := hp.lt
  simp -implicitDefEqProofs only [m_law_lot, b_law_lot, Ok_fnD]
  simp -implicitDefEqProofs [-List.map_map]
  have g0 := (Gr.refl hp).push (.lst [])
  refine below_ok g0.pool (by omega) (by omega) fun n C1 l1 u1 g1 => ?_
  have g01 := g0.trans g1
  simp -implicitDefEqProofs [-List.map_map]
  rw [if_pos (by omega)]
  simp -implicitDefEqProofs [-List.map_map]
  have lrg : (rgD 0 n).length = n.toNat := by simp [rgD]
  refine for_ok (fun xs ρ C' => ∃ (x4 : Option D) (v : List Int), ρ = [some (.hnd k), some (.int far), some (.int most), some (.hnd C.length), x4] ∧ Gr k C C' ∧ C'[C.length]? = some (.lst (v.map D.int)) ∧ (∀ d ∈ v, 0 ≤ d ∧ d ≤ far - 1) ∧ v.length + xs.length ≤ n.toNat) ?_ ?_ _ _ _ (fun _ h => h) ⟨_, [], rfl, g01, (g1.same _ (by omega) (by simp)).trans (by simp), (fun _ h => nomatch h), by simp [lrg]⟩
  · rintro x xs ρ C' hx ⟨x4, v, rfl, g, cv, bv, lv⟩ J hJ
    simp only [List.length_cons] at lv
    simp -implicitDefEqProofs [-List.map_map]
    rw [chkL_ok cv]
    refine below_ok g.pool (by omega) (by omega) fun d C2 l2 u2 g2 => ?_
    have cv2 : C2[C.length]? = some (.lst (v.map D.int)) := (g2.same _ (by omega) (List.getElem?_eq_some_iff.mp cv).1).trans cv
    rw [app_ok cv2 (by simp; omega), snoc_map]
    exact hJ _ _ ⟨_, v ++ [d], rfl, (g.trans g2).set _ (Nat.le_refl _) hk, set_self cv2, bd_snoc bv l2 (by omega), by simp; omega⟩
  · rintro ρ C' ⟨x4, v, rfl, g, cv, bv, lv⟩
    simp at lv
    have e0 : oSset C' (.hnd C.length) = some (.lst ((dsort v).map D.int)) := oSset_ok (by rw [look_hnd cv]; rfl) (by omega)
    simp -implicitDefEqProofs [-List.map_map, e0]
    exact h _ _ g (.dsort bv) (by have := dsort_le v; omega)
theorem RowOk.filter {lo hi : Int} {ns : List Int} (h : RowOk lo hi ns) (p : Int → Bool) : RowOk lo hi (ns.filter p) := ⟨h.pw.filter p, fun n hn => h.bd n (List.mem_filter.mp hn).1⟩
/-- how HEARD may be bent: no more rests, or one more in one row -/
def Bent (u v x y : List Int) : Prop := x.length + y.length ≤ u.length + v.length ∨ ((∃ z, (∀ n, n ∈ x ↔ n ∈ u ∨ n = z) ∧ y = v) ∨ ∃ z, (∀ n, n ∈ y ↔ n ∈ v ∨ n = z) ∧ x = u)
theorem bent_ok {k : Nat} {a b c e : Int} {u v : List Int} (r : SR4 a b c e) (ru : RowOk c (a - 1) u) (rv : RowOk c (b - 1) v) (lu : u.length ≤ 12) (lv : v.length ≤ 12) {C : Cells} {P : D → Cells → Prop} (hp : PoolAt k C) (h : ∀ x y C', Gr k C C' → RowOk c (a - 1) x → RowOk c (b - 1) y → x.length ≤ 12 → y.length ≤ 12 → Bent u v x y → P (two x y) C') : Ok (m_law_bent_heard [.hnd k, SS a b c e, two u v]) C P := by
  have c1 := r.c1
  have c2 := r.c2
  have a2 := r.a2
  have b2 := r.b2
  simp -implicitDefEqProofs only [m_law_bent_heard, b_law_bent_heard, Ok_fnD]
  simp -implicitDefEqProofs [-List.map_map]
  refine below_ok hp (by omega) (by omega) fun s C1 ls us g1 => ?_
  try simp -implicitDefEqProofs [-List.map_map]
  refine below_ok g1.pool (by omega) (by omega) fun w C2 lw uw g2 => ?_
  have g12 := g1.trans g2
  have hs : 0 ≤ s ∧ s ≤ 1 := ⟨ls, by omega⟩
  obtain ⟨row, hix, rr, lr, fin⟩ : ∃ row : List Int, atI [D.tup (u.map D.int), .tup (v.map D.int)] s = some (.tup (row.map D.int)) ∧ RowOk c (per a b s - 1) row ∧ row.length ≤ 12 ∧ ∀ own C', Gr k C C' → RowOk c (per a b s - 1) own → own.length ≤ 12 → (own.length ≤ row.length ∨ ∃ z, ∀ n, n ∈ own ↔ n ∈ row ∨ n = z) → P (if s = 0 then two own v else two u own) C' := by
    have : s = 0 ∨ s = 1 := by omega
    rcases this with rfl | rfl
    · exact ⟨u, rfl, ru, lu, fun own C' g ro lo q => h own v C' g ro rv lo lv (q.imp (fun q => by omega) fun ⟨z, q⟩ => .inl ⟨z, q, rfl⟩)⟩
    · exact ⟨v, rfl, rv, lv, fun own C' g ro lo q => h u own C' g ru ro lu lo (q.imp (fun q => by omega) fun ⟨z, q⟩ => .inr ⟨z, q, rfl⟩)⟩
  have hper : c ≤ per a b s - 1 := by unfold per; split <;> omega
  have hper2 : per a b s ≤ 40 := by unfold per; split <;> omega
  simp -implicitDefEqProofs [-List.map_map, two, oIx_tup, hix, SS_ix2, SS_ix hs, pair0, pair1]
  refine below_ok g12.pool (by omega) (by omega) fun t C3 lt ut g3 => ?_
  have g13 := g12.trans g3
  simp -implicitDefEqProofs [-List.map_map]
  have done : ∀ own : List Int, RowOk c (per a b s - 1) own → own.length ≤ 12 → (own.length ≤ row.length ∨ ∃ z, ∀ n, n ∈ own ↔ n ∈ row ∨ n = z) → iff2 (decide (s = 0)) (P (two own v) C3) (P (two u own) C3) := fun own ro lo q => by
    have := fin own C3 g13 ro lo q
    refine iff2_dec (fun q => ?_) fun q => ?_
    · rw [if_pos q] at this; exact this
    · rw [if_neg q] at this; exact this
  refine iff2_dec (fun w0 => ?_) fun w0 => ?_
  · refine iff2_dec (fun hl => ?_) fun hl => ?_
    · rw [oAdd_tup (by simp; omega), opt_some, snoc_map, oSset_ok rfl (by simp; omega), opt_some, oTuple_lst, opt_some, decide_eq_false (show ¬ w = 1 by omega), iff2_f]
      exact done _ (.dsort (bd_snoc rr.bd (by omega) (by omega))) (by have := dsort_le (row ++ [c + t]); simp at this; omega) (.inr ⟨c + t, fun n => by rw [mem_dsort]; simp⟩)
    · rw [decide_eq_false (show ¬ w = 1 by omega), iff2_f]
      exact done row rr lr (.inl (Nat.le_refl _))
  · refine iff2_dec (fun w1 => ?_) fun w1 => done row rr lr (.inl (Nat.le_refl _))
    refine lc_map (fun x => match x with | .int n => if n = c + t then none else some (D.int n) | _ => none) (fun x hx => ?_) _ _ (fun _ h => h) ?_
    · obtain ⟨n, _, rfl⟩ := List.mem_map.mp hx
      simp -implicitDefEqProofs
      by_cases q : n = c + t <;> simp [q]
    · have e : ∀ xs : List Int, (xs.map D.int).filterMap (fun x => match x with | .int n => if n = c + t then none else some (D.int n) | _ => none) = (xs.filter fun n => !decide (n = c + t)).map D.int := by
        intro xs
        induction xs with
        | nil => rfl
        | cons n xs ih =>
          rw [List.map_cons, List.filterMap_cons, List.filter_cons]
          by_cases q : n = c + t
          · simp only [q, if_true, decide_true, Bool.not_true]
            rw [ih]; simp
          · simp only [q, if_false, decide_false, Bool.not_false, if_true, List.map_cons]
            rw [ih]
      rw [List.nil_append, e]
      exact done _ (rr.filter _) (Nat.le_trans (List.length_filter_le _ _) lr) (.inl (List.length_filter_le _ _))
/-- the delays of a row, those kept -/
def kept (p : Int → Bool) (e : Int) : List Int := ((List.range (e - 0).toNat).map fun (k : Nat) => (0 : Int) + k).filter p
def fD (p : Int → Bool) (x : D) : Option D := match x with
  | .int d => if p d then some (.int d) else none
  | _ => none
theorem kept_eq (p : Int → Bool) (e : Int) : (rgD 0 e).filterMap (fD p) = (kept p e).map D.int := by
  unfold rgD kept
  generalize List.range (e - 0).toNat = l
  induction l with
  | nil => rfl
  | cons x l ih =>
    simp only [List.map_cons, List.filterMap_cons, List.filter_cons, fD]
    by_cases h : p (0 + x) = true
    · simp only [h, if_true, List.map_cons, ih]
    · simp only [h, if_false, ih]
      simp
theorem kept_row (p : Int → Bool) {e : Int} (he : 0 ≤ e) : RowOk 0 (e - 1) (kept p e) := by
  unfold kept
  refine ⟨List.Pairwise.filter _ ?_, fun n hn => ?_⟩
  · rw [List.pairwise_map]
    exact List.pairwise_lt_range.imp fun h => by omega
  · obtain ⟨k, hk, rfl⟩ := List.mem_map.mp (List.mem_filter.mp hn).1
    have := List.mem_range.mp hk
    omega
theorem kept_mem {p : Int → Bool} {e d : Int} : d ∈ kept p e ↔ (0 ≤ d ∧ d < e) ∧ p d = true := by
  unfold kept
  rw [List.mem_filter, List.mem_map]
  constructor
  · rintro ⟨⟨k, hk, rfl⟩, hp⟩
    have := List.mem_range.mp hk
    exact ⟨by omega, hp⟩
  · rintro ⟨⟨h0, h1⟩, hp⟩
    exact ⟨⟨d.toNat, List.mem_range.mpr (by omega), by omega⟩, hp⟩
theorem kept_len (p : Int → Bool) (e : Int) : (kept p e).length ≤ e.toNat := by
  unfold kept
  refine Nat.le_trans (List.length_filter_le _ _) ?_
  simp
theorem kept_succ (p : Int → Bool) {i : Int} (h : 0 ≤ i) : kept p (i + 1) = kept p i ++ (if p i then [i] else []) := by
  unfold kept
  rw [show (i + 1 - 0).toNat = (i - 0).toNat + 1 by omega, List.range_succ, List.map_append, List.filter_append]
  congr 1
  rw [show ([(i - 0).toNat].map fun (k : Nat) => (0 : Int) + k) = [i] by simp; omega]
  by_cases q : p i = true <;> simp [q]
theorem kept_zero (p : Int → Bool) : kept p 0 = [] := rfl
theorem oAll0 {C : Cells} : oAll C [.lst []] = some (.bl true) := rfl
theorem oAll1 {C : Cells} {x : Bool} : oAll C [.lst [.bl x]] = some (.bl (x && true)) := rfl
theorem oAll2 {C : Cells} {x y : Bool} : oAll C [.lst [.bl x, .bl y]] = some (.bl (x && (y && true))) := rfl
theorem oAny1 {C : Cells} {x : Bool} : oAny C [.lst [.bl x]] = some (.bl (x || false)) := rfl
theorem mp_ok59 {a b c d : Int} : ∀ x ∈ (mp a b c d).map pD, okD 59 x = true := fun x hx => by
  obtain ⟨p, _, rfl⟩ := List.mem_map.mp hx
  rfl
theorem mp_empty {a b c d : Int} : ((mp a b c d).map pD).isEmpty = !(decide (c ≤ d % a) || decide (c ≤ d % b)) := by
  unfold mp
  by_cases h1 : c ≤ d % a <;> by_cases h2 : c ≤ d % b <;> simp [h1, h2]
theorem inU {C : Cells} (n : Int) (u : List Int) : inD false C (.int n) (.tup (u.map D.int)) = some (.bl (decide (n ∈ u))) := inD_ints false n u rfl
end Law

namespace Law
open PySem L2 DL
theorem lc_maps {T : Type} {ls : List T} {f k : T → D} {t : TX} {p : BX} {g : EX} {ρw : Ro} {C : Cells} {Q : List D → Cells → Prop} (h : ∀ l ∈ ls, Ok (t (f l) ρw) C fun ρ1 C1 => Ok (p ρ1) C1 fun b C2 => b = true ∧ Ok (g ρ1) C2 fun y C3 => C3 = C ∧ y = k l) (q : Q (ls.map k) C) : Ok (lcD ⟨ls.map f, none⟩ t p g ρw (ls.map f) []) C Q := by
  refine lc_ok (fun xs acc C' => C' = C ∧ ∃ done rest, done ++ rest = ls ∧ xs = rest.map f ∧ acc = done.map k) ?_ ?_ _ _ _ (fun _ h => h) ⟨rfl, [], ls, rfl, rfl, rfl⟩
  · rintro x xs acc C' hx ⟨rfl, done, rest, e1, e2, rfl⟩ J hJ
    cases rest with
    | nil => cases e2
    | cons l rest =>
      rw [List.map_cons] at e2
      cases e2
      refine (h l (by rw [← e1]; simp)).mono fun ρ1 C1 h1 => h1.mono fun b C2 ⟨hb, h2⟩ => ?_
      subst hb
      rw [iff2_t]
      refine h2.mono fun y C3 ⟨e3, e4⟩ => ?_
      subst e3 e4
      exact hJ _ _ ⟨rfl, done ++ [l], rest, by simpa using e1, rfl, by simp⟩
  · rintro acc C' ⟨rfl, done, rest, e1, e2, rfl⟩
    have : rest = [] := by cases rest with | nil => rfl | cons _ _ => cases e2
    subst this
    rw [List.append_nil] at e1
    subst e1
    exact q
theorem lc_grow {T : Type} {kp : Nat} {ls : List T} {f k : T → D} {t : TX} {p : BX} {g : EX} {ρw : Ro} {C : Cells} {Q : List D → Cells → Prop} (hp : PoolAt kp C) (h : ∀ l ∈ ls, ∀ C', Gr kp C C' → Ok (t (f l) ρw) C' fun ρ1 C1 => Ok (p ρ1) C1 fun b C2 => b = true ∧ Ok (g ρ1) C2 fun y C3 => Gr kp C C3 ∧ y = k l) (q : ∀ C', Gr kp C C' → Q (ls.map k) C') : Ok (lcD ⟨ls.map f, none⟩ t p g ρw (ls.map f) []) C Q := by
  refine lc_ok (fun xs acc C' => Gr kp C C' ∧ ∃ done rest, done ++ rest = ls ∧ xs = rest.map f ∧ acc = done.map k) ?_ ?_ _ _ _ (fun _ h => h) ⟨Gr.refl hp, [], ls, rfl, rfl, rfl⟩
  · rintro x xs acc C' hx ⟨gr, done, rest, e1, e2, rfl⟩ J hJ
    cases rest with
    | nil => cases e2
    | cons l rest =>
      rw [List.map_cons] at e2
      cases e2
      refine (h l (by rw [← e1]; simp) C' gr).mono fun ρ1 C1 h1 => h1.mono fun b C2 ⟨hb, h2⟩ => ?_
      subst hb
      rw [iff2_t]
      refine h2.mono fun y C3 ⟨e3, e4⟩ => ?_
      subst e4
      exact hJ _ _ ⟨e3, done ++ [l], rest, by simpa using e1, rfl, by simp⟩
  · rintro acc C' ⟨gr, done, rest, e1, e2, rfl⟩
    have : rest = [] := by cases rest with | nil => rfl | cons _ _ => cases e2
    subst this
    rw [List.append_nil] at e1
    subst e1
    exact q _ gr
theorem oAnyB {C : Cells} {T : Type} (f : T → Bool) (us : List T) : oAny C [.lst (us.map fun l => D.bl (f l))] = some (.bl (us.any f)) := by
  have e := @oAny_ok C (us.map f)
  rw [List.map_map, List.any_map] at e
  exact e
theorem oAllB {C : Cells} {T : Type} (f : T → Bool) (us : List T) : oAll C [.lst (us.map fun l => D.bl (f l))] = some (.bl (us.all f)) := by
  have e := @oAll_ok C (us.map f)
  rw [List.map_map, List.all_map] at e
  exact e
theorem zp_maps {T : Type} (f g : T → D) : ∀ ls : List T, zpD (ls.map f) (ls.map g) = ls.map fun l => .tup [f l, g l]
  | [] => rfl
  | l :: ls => by rw [List.map_cons, List.map_cons, List.map_cons, ← zp_maps f g ls]; rfl
abbrev T3 := Int × Int × Int
def kt3 (t : T3) : List Key := [.inl t.1, .inl t.2.1, .inl t.2.2]
def tr (t : T3) : D := .tup [.int t.1, .int t.2.1, .int t.2.2]
theorem tr_kt (t : T3) : ktD (kt3 t) = tr t := rfl
theorem kt3_inj : ∀ p q : T3, kt3 p = kt3 q → p = q := by
  rintro ⟨a, b, c⟩ ⟨a', b', c'⟩ h
  simp [kt3] at h
  obtain ⟨rfl, rfl, rfl⟩ := h
  rfl
def withI (i : Int) (ps : List (Int × Int)) : List T3 := ps.map fun p => (i, p.1, p.2)
/-- marks, numbered from i on -/
def mbG : Int → List (List (Int × Int)) → List T3
  | _, [] => []
  | i, l :: ls => withI i l ++ mbG (i + 1) ls
/-- what is needed -/
def ndF : Int → List (List Int × List Int) → List T3
  | _, [] => []
  | i, h :: hs => (h.1.map fun r => (i, 0, r)) ++ (h.2.map fun r => (i, 1, r)) ++ ndF (i + 1) hs
def enD : Int → List D → List D
  | _, [] => []
  | i, x :: xs => .tup [.int i, x] :: enD (i + 1) xs
theorem zp_en (ds : List D) : zpD (idD ds) ds = enD 0 ds := by
  have key : ∀ (ds : List D) (k : Nat), zpD ((List.range' k ds.length).map fun (i : Nat) => D.int i) ds = enD k ds := by
    intro ds
    induction ds with
    | nil => intro k; rfl
    | cons x ds ih =>
      intro k
      rw [List.length_cons, List.range'_succ, List.map_cons]
      show D.tup [.int k, x] :: zpD ((List.range' (k + 1) ds.length).map fun (i : Nat) => D.int i) ds = _
      rw [ih (k + 1)]
      rfl
  unfold idD
  rw [List.range_eq_range']
  exact key ds 0
theorem mem_enD {x : D} : ∀ {ds : List D} {i : Int}, x ∈ enD i ds → ∃ j y, x = .tup [.int j, y] ∧ y ∈ ds
  | [], _, h => nomatch h
  | z :: ds, i, h => by
    rcases List.mem_cons.mp h with rfl | h
    · exact ⟨i, z, rfl, List.mem_cons_self⟩
    · obtain ⟨j, y, e, hy⟩ := mem_enD h
      exact ⟨j, y, e, List.mem_cons_of_mem _ hy⟩
theorem len_enD : ∀ (ds : List D) (i : Int), (enD i ds).length = ds.length
  | [], _ => rfl
  | _ :: ds, i => by rw [enD, List.length_cons, List.length_cons, len_enD ds]
def gP (i : Int) : D → List D
  | .tup [.int s, .int r] => [.tup [.int i, .int s, .int r]]
  | _ => []
theorem gP_eq (i : Int) (ps : List (Int × Int)) : (ps.map pD).flatMap (gP i) = (withI i ps).map tr := by
  induction ps with
  | nil => rfl
  | cons p ps ih => rw [List.map_cons, List.flatMap_cons, ih]; rfl
theorem mbG_len : ∀ (ls : List (List (Int × Int))) (i : Int), (∀ l ∈ ls, l.length ≤ 2) → (mbG i ls).length ≤ 2 * ls.length
  | [], _, _ => Nat.zero_le _
  | l :: ls, i, h => by
    have := mbG_len ls (i + 1) fun x hx => h x (List.mem_cons_of_mem _ hx)
    have := h l List.mem_cons_self
    rw [mbG, List.length_append, withI, List.length_map, List.length_cons]
    omega
abbrev S3 := Int × Int × Int
def sD (e : Int) (s : S3) : D := SS s.1 s.2.1 s.2.2 e
def mps (s : S3) (d : Int) : List (Int × Int) := mp s.1 s.2.1 s.2.2 d
theorem mps_len (s : S3) (d : Int) : (mps s d).length ≤ 2 := mp_len _ _ _ _
def gMA (d : Int) : D → List D
  | .tup [.int i, .tup [.int a, .int b, .int c, _]] => (withI i (mp a b c d)).map tr
  | _ => []
theorem gMA_eq (e d : Int) : ∀ (ss : List S3) (i : Int), (enD i (ss.map (sD e))).flatMap (gMA d) = (mbG i (ss.map fun s => mps s d)).map tr
  | [], _ => rfl
  | s :: ss, i => by
    rw [List.map_cons, enD, List.flatMap_cons, gMA_eq e d ss, List.map_cons, mbG, List.map_append]
    rfl
variable {a b c e : Int}
abbrev HH := List Int × List Int
def hD (h : HH) : D := two h.1 h.2
structure HOk (a b c : Int) (h : HH) : Prop where
  ru : RowOk c (a - 1) h.1
  rv : RowOk c (b - 1) h.2
  lu : h.1.length ≤ 12
  lv : h.2.length ≤ 12
def gN0 : D → List D
  | .tup [.int i, .tup [.tup us, .tup vs]] => us.map (fun r => .tup [.int i, .int 0, r]) ++ vs.map (fun r => .tup [.int i, .int 1, r])
  | _ => []
theorem gN0_eq : ∀ (hs : List (List Int × List Int)) (i : Int), (enD i (hs.map hD)).flatMap gN0 = (ndF i hs).map tr
  | [], _ => rfl
  | h :: hs, i => by
    rw [List.map_cons, enD, List.flatMap_cons, gN0_eq hs, ndF, List.map_append, List.map_append, List.map_map, List.map_map]
    show (h.1.map D.int).map _ ++ (h.2.map D.int).map _ ++ _ = _
    rw [List.map_map, List.map_map]
    rfl
def gN1 (i : Int) (us vs : List D) : D → List D
  | .int s => (if s = 0 then us else vs).map (fun r => .tup [.int i, .int s, r])
  | _ => []
def gN2 (i s : Int) (r : D) : List D := [.tup [.int i, .int s, r]]
theorem gN2_eq (i s : Int) (us : List D) : us.flatMap (gN2 i s) = us.map (fun r => .tup [.int i, .int s, r]) := by
  induction us with
  | nil => rfl
  | cons u us ih => rw [List.flatMap_cons, ih]; rfl
theorem ndF_len : ∀ (hs : List (List Int × List Int)) (i : Int), (∀ h ∈ hs, h.1.length ≤ 12 ∧ h.2.length ≤ 12) → (ndF i hs).length ≤ 24 * hs.length
  | [], _, _ => Nat.zero_le _
  | h :: hs, i, hh => by
    have := ndF_len hs (i + 1) fun x hx => hh x (List.mem_cons_of_mem _ hx)
    have := hh h List.mem_cons_self
    rw [ndF, List.length_append, List.length_append, List.length_map, List.length_map, List.length_cons]
    omega
theorem Ok_putT_ok {f g : EX} {ρ : Ro} {C : Cells} {k : List Key} {acc : List (List Key × D)} {es : List D} {P : List (List Key × D) → Cells → Prop} (hf : ∀ P : D → Cells → Prop, Ok (f ρ) C P = P (.tup es) C) (hk : keysD es = some k) (hl : acc.length < sizeLine) (h : Ok (g ρ) C fun z C => P (putD acc k z) C) : Ok (putT f g ρ acc) C P := by
  simp only [putT, Ok_bnd, hf, hk]
  refine h.mono fun z C' h => ?_
  rw [if_pos (show acc.length < sizeLine from hl), Ok_ret]
  exact h
theorem needed_ok {hs : List (List Int × List Int)} (hl : hs.length ≤ 10) (hh : ∀ h ∈ hs, h.1.length ≤ 12 ∧ h.2.length ≤ 12) {y0 : D} (hy0 : enOf y0 = some (hs.map hD)) {C : Cells} {P : D → Cells → Prop} (h : ∀ (ns : List T3) (vs : List D), ns.Nodup → (∀ t, t ∈ ns ↔ t ∈ ndF 0 hs) → P (.dct (ns.map tr) vs) C) : Ok (m_needed_marks [y0]) C P := by
  simp -implicitDefEqProofs only [m_needed_marks, b_needed_marks, Ok_fnD]
  simp -implicitDefEqProofs [-List.map_map, Ok_xLc3, Ok_iEnA, hy0]
  rw [zp_en]
  refine lp_app gN0 24 (fun x hx => ?_) (fun x hx acc hacc => ?_) _ _ (fun _ h => h) ?_ ?_
  · obtain ⟨j, y, rfl, hy⟩ := mem_enD hx
    obtain ⟨q, hq, rfl⟩ := List.mem_map.mp hy
    have := hh q hq
    show (List.map _ (q.1.map D.int) ++ List.map _ (q.2.map D.int)).length ≤ 24
    simp
    omega
  · obtain ⟨j, y, rfl, hy⟩ := mem_enD hx
    obtain ⟨q, hq, rfl⟩ := List.mem_map.mp hy
    have hq2 := hh q hq
    simp -implicitDefEqProofs [-List.map_map]
    refine lp_app (gN1 j (q.1.map D.int) (q.2.map D.int)) 12 (fun z hz => ?_) (fun z hz acc2 hacc2 => ?_) _ _ (fun _ h => h) ?_ ?_
    · simp only [List.mem_cons, List.not_mem_nil, or_false] at hz
      rcases hz with rfl | rfl
      · simp [gN1]; omega
      · simp [gN1]; omega
    · obtain ⟨s, us, rfl, hix, e, ls⟩ : ∃ (s : Int) (us : List Int), z = .int s ∧ oIx C (hD q) (.int s) = some (.tup (us.map D.int)) ∧ gN1 j (q.1.map D.int) (q.2.map D.int) (.int s) = (us.map D.int).map (fun r => .tup [.int j, .int s, r]) ∧ us.length ≤ 12 := by
        simp only [List.mem_cons, List.not_mem_nil, or_false] at hz
        rcases hz with rfl | rfl
        · exact ⟨0, q.1, rfl, rfl, rfl, hq2.1⟩
        · exact ⟨1, q.2, rfl, rfl, rfl, hq2.2⟩
      rw [e]
      simp -implicitDefEqProofs [-List.map_map, hix]
      refine lp_app (gN2 j s) 1 (fun z hz => Nat.le_refl _) (fun z hz acc3 hacc3 => ?_) _ _ (fun _ h => h) ?_ ?_
      · simp -implicitDefEqProofs [-List.map_map, Ok_addL, gN2]
        exact sz_lt (by omega)
      · rw [List.length_map]; omega
      · rw [gN2_eq]; exact ⟨rfl, rfl⟩
    · simp; omega
    · refine ⟨rfl, ?_⟩
      simp [gN1, gN0, hD, two]
  · rw [len_enD, List.length_map]
    simp
    omega
  · rw [gN0_eq, List.nil_append]
    have hn := ndF_len hs 0 hh
    refine ⟨?_, ?_⟩
    · rw [List.length_map]
      exact Nat.le_of_lt (sz_lt (by omega))
    · simp -implicitDefEqProofs [-List.map_map, Ok_xDc1T]
      refine lp_ok (fun xs acc C' => C' = C ∧ ∃ done rest ts, done ++ rest = ndF 0 hs ∧ xs = rest.map tr ∧ KsG kt3 acc ts ∧ (∀ t, t ∈ ts ↔ t ∈ done) ∧ ts.length ≤ done.length) ?_ ?_ _ _ _ (fun _ h => h) ⟨rfl, [], _, [], rfl, rfl, ⟨rfl, List.nodup_nil⟩, by simp, by simp⟩
      · rintro x xs acc C' hx ⟨rfl, done, rest, ts, e1, e2, hk, hm, hlen⟩ J hJ
        cases rest with
        | nil => cases e2
        | cons t rest =>
          rw [List.map_cons] at e2
          cases e2
          have hdl : done.length ≤ 240 := by
            have := congrArg List.length e1
            rw [List.length_append] at this
            omega
          simp -implicitDefEqProofs [-List.map_map]
          refine Ok_putT_ok (k := kt3 t) (es := [.int t.1, .int t.2.1, .int t.2.2]) (fun P => by simp -implicitDefEqProofs [tr]) rfl ?_ ?_
          · have := congrArg List.length hk.eq
            rw [List.length_map, List.length_map] at this
            exact sz_lt (by omega)
          · simp -implicitDefEqProofs
            obtain ⟨qs, h1, h2, h3⟩ := hk.put kt3_inj t (.bl true)
            refine hJ _ _ ⟨rfl, done ++ [t], rest, qs, by simpa using e1, rfl, h1, fun q => by rw [h2, hm]; simp, by simp; omega⟩
      · rintro acc C' ⟨rfl, done, rest, ts, e1, e2, hk, hm, hlen⟩
        have : rest = [] := by cases rest with | nil => rfl | cons _ _ => cases e2
        subst this
        rw [List.append_nil] at e1
        subst e1
        rw [hk.keys]
        exact h ts _ hk.nd hm
end Law

namespace Law
open PySem L2 DL
theorem mem_mbG {j s r : Int} : ∀ {ls : List (List (Int × Int))} {i : Int}, (j, s, r) ∈ mbG i ls ↔ ∃ (k : Nat) (l : List (Int × Int)), ls[k]? = some l ∧ j = i + k ∧ (s, r) ∈ l
  | [], i => by simp [mbG]
  | l :: ls, i => by
    rw [mbG, List.mem_append, mem_mbG (ls := ls)]
    unfold withI
    rw [List.mem_map]
    constructor
    · rintro (⟨⟨s', r'⟩, hp, e⟩ | ⟨k, t', h1, h2, h3⟩)
      · cases e; exact ⟨0, l, rfl, by simp, hp⟩
      · exact ⟨k + 1, t', h1, by omega, h3⟩
    · rintro ⟨k, t', h1, h2, h3⟩
      cases k with
      | zero =>
        have h1 : some l = some t' := h1
        cases h1
        have : j = i := by simpa using h2
        exact .inl ⟨(s, r), h3, by rw [this]⟩
      | succ k => exact .inr ⟨k, t', h1, by omega, h3⟩
theorem mem_ndF {j s r : Int} : ∀ {hs : List (List Int × List Int)} {i : Int}, (j, s, r) ∈ ndF i hs ↔ ∃ (k : Nat) (h : List Int × List Int), hs[k]? = some h ∧ j = i + k ∧ ((s = 0 ∧ r ∈ h.1) ∨ (s = 1 ∧ r ∈ h.2))
  | [], i => by simp [ndF]
  | h :: hs, i => by
    rw [ndF, List.mem_append, List.mem_append, mem_ndF (hs := hs), List.mem_map, List.mem_map]
    constructor
    · rintro ((⟨r', hr, e⟩ | ⟨r', hr, e⟩) | ⟨k, t', h1, h2, h3⟩)
      · cases e; exact ⟨0, h, rfl, by simp, .inl ⟨rfl, hr⟩⟩
      · cases e; exact ⟨0, h, rfl, by simp, .inr ⟨rfl, hr⟩⟩
      · exact ⟨k + 1, t', h1, by omega, h3⟩
    · rintro ⟨k, t', h1, h2, h3⟩
      cases k with
      | zero =>
        have h1 : some h = some t' := h1
        cases h1
        have : j = i := by simpa using h2
        subst this
        rcases h3 with ⟨rfl, h3⟩ | ⟨rfl, h3⟩
        · exact .inl (.inl ⟨r, h3, rfl⟩)
        · exact .inl (.inr ⟨r, h3, rfl⟩)
      | succ k => exact .inr ⟨k, t', h1, by omega, h3⟩
/-- whether a mark was heard -/
def inS (h : List Int × List Int) (p : Int × Int) : Bool := if p.1 = 0 then decide (p.2 ∈ h.1) else decide (p.2 ∈ h.2)
/-- ears: what each hears of a delay, what it heard -/
abbrev Gear := (Int → List (Int × Int)) × HH
/-- whether a delay is possible -/
def posG (gs : List Gear) (d : Int) : Bool := gs.any (fun g => !(g.1 d).isEmpty) && gs.all fun g => (g.1 d).all (inS g.2)
structure GOk (gs : List Gear) : Prop where
  len : gs.length ≤ 10
  sd : ∀ g ∈ gs, ∀ d p, p ∈ g.1 d → p.1 = 0 ∨ p.1 = 1
  two : ∀ g ∈ gs, ∀ d, (g.1 d).length ≤ 2
  hl : ∀ g ∈ gs, g.2.1.length ≤ 12 ∧ g.2.2.length ≤ 12
theorem inS_iff {h : List Int × List Int} {s r : Int} (hs : s = 0 ∨ s = 1) : inS h (s, r) = true ↔ ((s = 0 ∧ r ∈ h.1) ∨ (s = 1 ∧ r ∈ h.2)) := by
  unfold inS
  rcases hs with rfl | rfl <;> simp
theorem mp_01 {a b c d : Int} {p : Int × Int} (h : p ∈ mp a b c d) : p.1 = 0 ∨ p.1 = 1 := by
  obtain ⟨s, k⟩ := p
  rcases mp_side.mp h with h | h
  · exact .inl h.1
  · exact .inr h.1
def rowsG (gs : List Gear) (d : Int) : List T3 := mbG 0 (gs.map fun g => g.1 d)
theorem posG_iff {gs : List Gear} (ho : GOk gs) {d : Int} : posG gs d = true ↔ rowsG gs d ≠ [] ∧ ∀ t ∈ rowsG gs d, t ∈ ndF 0 (gs.map (·.2)) := by
  unfold posG rowsG
  rw [Bool.and_eq_true, List.any_eq_true, List.all_eq_true]
  refine and_congr ?_ ?_
  · rw [List.ne_nil_iff_exists_cons]
    constructor
    · rintro ⟨l, hl, h⟩
      obtain ⟨k, hk⟩ := List.mem_iff_getElem?.mp hl
      cases hm : l.1 d with
      | nil => rw [hm] at h; cases h
      | cons p ps =>
        have : ((0 : Int) + k, p.1, p.2) ∈ mbG 0 (gs.map fun g => g.1 d) := mem_mbG.mpr ⟨k, l.1 d, by rw [List.getElem?_map, hk]; rfl, rfl, by rw [hm]; exact List.mem_cons_self⟩
        cases hq : mbG 0 (gs.map fun g => g.1 d) with
        | nil => rw [hq] at this; nomatch this
        | cons x xs => exact ⟨x, xs, rfl⟩
    · rintro ⟨⟨j, s, r⟩, xs, e⟩
      have : (j, s, r) ∈ mbG 0 (gs.map fun g => g.1 d) := by rw [e]; exact List.mem_cons_self
      obtain ⟨k, t, h1, h2, h3⟩ := mem_mbG.mp this
      rw [List.getElem?_map] at h1
      obtain ⟨l, hl, rfl⟩ := Option.map_eq_some_iff.mp h1
      refine ⟨l, List.mem_of_getElem? hl, ?_⟩
      cases hm : l.1 d with
      | nil => rw [hm] at h3; nomatch h3
      | cons p ps => rfl
  · constructor
    · rintro h ⟨j, s, r⟩ ht
      obtain ⟨k, t, h1, h2, h3⟩ := mem_mbG.mp ht
      rw [List.getElem?_map] at h1
      obtain ⟨l, hl, rfl⟩ := Option.map_eq_some_iff.mp h1
      have := List.all_eq_true.mp (h l (List.mem_of_getElem? hl)) _ h3
      rw [inS_iff (ho.sd l (List.mem_of_getElem? hl) d _ h3)] at this
      exact mem_ndF.mpr ⟨k, l.2, by rw [List.getElem?_map, hl]; rfl, h2, this⟩
    · rintro h l hl
      rw [List.all_eq_true]
      rintro ⟨s, r⟩ hp
      obtain ⟨k, hk⟩ := List.mem_iff_getElem?.mp hl
      have := h ((0 : Int) + k, s, r) (mem_mbG.mpr ⟨k, l.1 d, by rw [List.getElem?_map, hk]; rfl, rfl, hp⟩)
      obtain ⟨k', h', h1, h2, h3⟩ := mem_ndF.mp this
      have : k' = k := by omega
      subst this
      rw [List.getElem?_map, hk] at h1
      cases h1
      exact (inS_iff (ho.sd l hl d _ hp)).mpr h3
variable {a b c e : Int}
def dl (e : Int) : List Int := (List.range (e - 0).toNat).map fun (k : Nat) => (0 : Int) + k
theorem dl_D (e : Int) : rgD 0 e = (dl e).map D.int := by
  unfold rgD dl
  rw [List.map_map]
  rfl
theorem dl_pw (e : Int) : (dl e).Pairwise (· < ·) := by
  unfold dl
  rw [List.pairwise_map]
  exact List.pairwise_lt_range.imp fun h => by omega
theorem dl_len (e : Int) : (dl e).length = e.toNat := by
  unfold dl
  simp
def valG (gs : List Gear) (d : Int) : D := .lst ((rowsG gs d).map tr)
def rowF (gs : List Gear) (d : Int) : D := .tup [.int d, valG gs d]
theorem src_val {gs : List Gear} {d : Int} {C : Cells} {P : Src → Cells → Prop} : Ok (srcSeq (valG gs d)) C P = P ⟨(rowsG gs d).map tr, none⟩ C := src_lst _ _
theorem tr_ok59 : ∀ {us : List T3}, ∀ x ∈ us.map tr, okD 59 x = true := fun x hx => by
  obtain ⟨p, _, rfl⟩ := List.mem_map.mp hx
  rfl
theorem oNe_val {gs : List Gear} {d : Int} {C : Cells} : oNe C (valG gs d) (.lst []) = some (.bl (!(rowsG gs d).isEmpty)) := by
  have := @oNe_nil C ((rowsG gs d).map tr) tr_ok59
  rw [show ((rowsG gs d).map tr).isEmpty = (rowsG gs d).isEmpty by cases rowsG gs d <;> rfl] at this
  exact this
theorem marked_ok {gs : List Gear} (ho : GOk gs) {ns : List T3} {vs : List D} (hn : ∀ t, t ∈ ns ↔ t ∈ ndF 0 (gs.map (·.2))) (he : e ≤ 1600) {C : Cells} {P : D → Cells → Prop} (h : P (.dct ((kept (posG gs) e).map D.int) ((kept (posG gs) e).map (valG gs))) C) : Ok (m_marked_of [.lst ((dl e).map (rowF gs)), .dct (ns.map tr) vs]) C P := by
  simp -implicitDefEqProofs only [m_marked_of, b_marked_of, Ok_fnD]
  simp -implicitDefEqProofs [-List.map_map, Ok_xDc1K]
  refine lp_ok (fun xs acc C' => C' = C ∧ ∃ done rest, done ++ rest = dl e ∧ xs = rest.map (rowF gs) ∧ acc = (done.filter (posG gs)).map fun d => ((.inl d : Key), valG gs d)) ?_ ?_ _ _ _ (fun _ h => h) ⟨rfl, [], _, rfl, rfl, rfl⟩
  · rintro x xs acc C' hx ⟨rfl, done, rest, e1, e2, rfl⟩ J hJ
    cases rest with
    | nil => cases e2
    | cons d rest =>
      rw [List.map_cons] at e2
      cases e2
      have pw := dl_pw e
      rw [← e1] at pw
      have hlen : done.length ≤ 1600 := by
        have := congrArg List.length e1
        rw [List.length_append, dl_len] at this
        omega
      have hlt : ∀ z ∈ done, z < d := fun z hz => (List.pairwise_append.mp pw).2.2 z hz d List.mem_cons_self
      have e3 : (done ++ [d]) ++ rest = dl e := by simpa using e1
      have hpos := posG_iff ho (d := d)
      have key : J ((done.filter (posG gs) ++ if posG gs d then [d] else []).map fun d => ((.inl d : Key), valG gs d)) C' := hJ _ _ ⟨rfl, done ++ [d], rest, e3, rfl, by
        rw [List.filter_append]
        cases q : posG gs d <;> simp [q]⟩
      simp -implicitDefEqProofs [-List.map_map, rowF, oNe_val, src_val]
      cases hm : (rowsG gs d).isEmpty with
      | true =>
        have : posG gs d = false := by
          cases q : posG gs d with
          | false => rfl
          | true => exact absurd (List.isEmpty_iff.mp hm) (hpos.mp q).1
        rw [this] at key
        simpa using key
      | false =>
        have hne : rowsG gs d ≠ [] := fun q => by rw [q] at hm; cases hm
        simp -implicitDefEqProofs [-List.map_map]
        refine lc_map (fun x => match x with | .tup [.int i, .int s, .int r] => some (D.bl (decide ((i, s, r) ∈ ns))) | _ => none) (fun x hx => ?_) _ _ (fun _ h => h) ?_
        · obtain ⟨t, _, rfl⟩ := List.mem_map.mp hx
          have q := @inK_ts _ _ kt3 kt3_inj ns t vs C'
          simp -implicitDefEqProofs [-List.map_map, tr]
          have q : inK false C' (.tup [.int t.1, .int t.2.1, .int t.2.2]) (.dct (ns.map tr) vs) = some (.bl (decide (t ∈ ns))) := q.trans (congrArg (fun b => some (D.bl b)) (decide_eq_decide.mpr Iff.rfl))
          rw [q]
          rfl
        · have e4 : ((rowsG gs d).map tr).filterMap (fun x => match x with | .tup [.int i, .int s, .int r] => some (D.bl (decide ((i, s, r) ∈ ns))) | _ => none) = ((rowsG gs d).map fun t => decide (t ∈ ns)).map D.bl := by
            generalize rowsG gs d = us
            induction us with
            | nil => rfl
            | cons u us ih => rw [List.map_cons, List.filterMap_cons]; simp only [tr]; rw [ih]; rfl
          rw [List.nil_append, e4, oAll_ok, opt_some]
          have e5 : (((rowsG gs d).map fun t => decide (t ∈ ns)).all id) = posG gs d := by
            rw [Bool.eq_iff_iff, hpos, List.all_map, List.all_eq_true]
            constructor
            · intro h
              exact ⟨hne, fun t ht => (hn t).mp (of_decide_eq_true (h t ht))⟩
            · intro h t ht
              exact decide_eq_true ((hn t).mpr (h.2 t ht))
          rw [e5]
          cases q : posG gs d with
          | false =>
            rw [q] at key
            simpa using key
          | true =>
            rw [q] at key
            simp -implicitDefEqProofs [-List.map_map]
            rw [Ok_putI (k := .inl d) (d := .int d) _ (fun P => by simp -implicitDefEqProofs) rfl (by rw [List.length_map]; exact sz_lt (Nat.le_trans (List.length_filter_le _ _) (by omega)))]
            simp -implicitDefEqProofs [-List.map_map]
            rw [putDk_new]
            · simpa using key
            · intro x hx
              obtain ⟨z, hz, rfl⟩ := List.mem_map.mp hx
              have := hlt z (List.mem_filter.mp hz).1
              intro q
              cases q
              omega
  · rintro acc C' ⟨rfl, done, rest, e1, e2, rfl⟩
    have : rest = [] := by cases rest with | nil => rfl | cons _ _ => cases e2
    subst this
    rw [List.append_nil] at e1
    subst e1
    have k1 : ((List.filter (posG gs) (dl e)).map fun d => ((.inl d : Key), valG gs d)).map (fun e => kD e.1) = (kept (posG gs) e).map D.int := by
      rw [List.map_map]; rfl
    have k2 : ((List.filter (posG gs) (dl e)).map fun d => ((.inl d : Key), valG gs d)).map (·.2) = (kept (posG gs) e).map (valG gs) := by
      rw [List.map_map]; rfl
    rw [k1, k2]
    exact h
end Law

namespace Law
open PySem L2 DL
variable {a b c e : Int}
theorem tupto_ok {ds : List D} {i j : Int} {C : Cells} {P : D → Cells → Prop} : Ok (m_is_tuple_up_to [.tup ds, .int i, .int j]) C P = P (.bl (decide (i ≤ (ds.length : Int)) && decide ((ds.length : Int) ≤ j))) C := by
  have i1 := isi_tup (C := C) (x := .tup ds) rfl
  simp -implicitDefEqProofs [m_is_tuple_up_to, b_is_tuple_up_to, i1, isT]
  by_cases h1 : i ≤ (ds.length : Int) <;> simp [h1]
theorem oSorted_ints {C : Cells} (ns : List Int) : oSorted C [.lst (ns.map D.int)] = some (.lst ((sortI ns).map D.int)) := by
  show ((some (ns.map D.int)).bind intsO).bind _ = _
  rw [Option.bind_some, intsO_map]
  rfl
theorem sortI_id {ns : List Int} (h : ns.Pairwise (· < ·)) : sortI ns = ns := (sortI_eq (List.Perm.refl ns) (h.imp fun h => Int.le_of_lt h)).symm
theorem ix0 {T : Type} {f : T → D} {xs : List T} {x0 : T} (h : xs[0]? = some x0) {C : Cells} : oIx C (.tup (xs.map f)) (.int 0) = some (f x0) := by
  have q := @atI_nat (xs.map f) 0
  rw [List.getElem?_map, h] at q
  exact q
theorem listD_ints {C : Cells} {ns : List Int} {vs : List D} (hl : ns.length ≤ 1000000) : oListD C [.dct (ns.map D.int) vs] = some (.lst (ns.map D.int)) := by
  unfold oListD
  simp only [look]
  rw [if_pos]
  rw [Bool.and_eq_true, List.all_eq_true]
  refine ⟨fun d hd => ?_, by simpa using hl⟩
  obtain ⟨p, _, rfl⟩ := List.mem_map.mp hd
  rfl
theorem alldel_ok (e1 : 1 ≤ e) (e2 : e ≤ 1600) {C : Cells} {P : D → Cells → Prop} : Ok (m_all_delays [SS a b c e]) C P = P (.lst ((dl e).map D.int)) C := by
  simp -implicitDefEqProofs [-List.map_map, m_all_delays, b_all_delays, xLr1, m_range_of, b_range_of, SS_ix3, rgO1]
  rw [if_pos (by omega)]
  simp -implicitDefEqProofs [-List.map_map]
  rw [dl_D]
theorem rangeof_ok {C : Cells} {P : D → Cells → Prop} : Ok (m_range_of [SS a b c e]) C P = P (.int e) C := by
  simp -implicitDefEqProofs [m_range_of, b_range_of, SS_ix3]
abbrev Ear := S3 × HH
abbrev SR4s (e : Int) (s : S3) : Prop := SR4 s.1 s.2.1 s.2.2 e
end Law

namespace Law
open PySem L2 DL
variable {a b c e : Int}
/-- a sounder, a shift, what was heard -/
abbrev E3 := S3 × Int × HH
def earD (e : Int) (l : E3) : D := .tup [sD e l.1, .int l.2.1, hD l.2.2]
def gear3 (l : E3) : Gear := (fun d => mps l.1 (d + l.2.1), l.2.2)
theorem pos3 {ls : List E3} {d : Int} : posG (ls.map gear3) d = (ls.any (fun l => !(mps l.1 (d + l.2.1)).isEmpty) && ls.all fun l => (mps l.1 (d + l.2.1)).all (inS l.2.2)) := by
  unfold posG
  rw [List.any_map, List.all_map]
  rfl
def rowL (d : Int) (l : E3) : D := .lst ((mps l.1 (d + l.2.1)).map pD)
theorem lpos_ok {k : Nat} {M : Int} {ls : List E3} (r : ∀ l ∈ ls, SR4s e l.1) (e1 : 1 ≤ M) (e2 : M ≤ 1600) {C : Cells} {P : D → Cells → Prop} (hp : PoolAt k C) (h : ∀ m C', Gr k C C' → C.length ≤ m → C'[m]? = some (.lst ((kept (posG (ls.map gear3)) M).map D.int)) → P (.hnd m) C') : Ok (m_law_possible [.lst (ls.map (earD e)), .int M]) C P := by
  have hk := hp.lt
  simp -implicitDefEqProofs only [m_law_possible, b_law_possible, Ok_fnD]
  simp -implicitDefEqProofs [-List.map_map]
  rw [if_pos (by omega)]
  simp -implicitDefEqProofs [-List.map_map]
  refine for_ok (fun xs ρ C' => ∃ (x3 x4 : Option D) (i : Int), ρ = [some (.lst (ls.map (earD e))), some (.int M), some (.hnd C.length), x3, x4, none, none, none, none, none, none] ∧ xs = rgD i M ∧ 0 ≤ i ∧ i ≤ M ∧ Gr k C C' ∧ C'[C.length]? = some (.lst ((kept (posG (ls.map gear3)) i).map D.int))) ?_ ?_ _ _ _ (fun _ h => h) ⟨none, none, 0, rfl, rfl, by omega, by omega, (Gr.refl hp).push _, by simp [kept_zero]⟩
  · rintro x xs ρ C' hx ⟨x3, x4, i, rfl, e0, i0, ie, g, cm⟩ J hJ
    by_cases hi : i < M
    · rw [rg_cons hi] at e0
      cases e0
      have lk : (kept (posG (ls.map gear3)) i).length < 1000000 := Nat.lt_of_le_of_lt (kept_len _ _) (by omega)
      have fin : posG (ls.map gear3) i = false → ∀ y3 y4 : Option D, J [some (.lst (ls.map (earD e))), some (.int M), some (.hnd C.length), y3, y4, none, none, none, none, none, none] C' := fun hf y3 y4 =>
        hJ _ _ ⟨_, _, i + 1, rfl, rfl, by omega, by omega, g, by rw [cm]; show _ = some (Cell.lst ((kept (posG (ls.map gear3)) (i + 1)).map D.int)); rw [kept_succ _ i0, hf]; simp⟩
      have fin2 : posG (ls.map gear3) i = true → ∀ y3 y4 : Option D, Ok (chkL (.hnd C.length)) C' fun x C_1 => Ok (app1 (.hnd C.length) [.int i]) C_1 fun x C'' => J [some (.lst (ls.map (earD e))), some (.int M), some (.hnd C.length), y3, y4, none, none, none, none, none, none] C'' := fun hf y3 y4 => by
        rw [chkL_ok cm, app_ok cm (by simpa using lk)]
        refine hJ _ _ ⟨_, _, i + 1, rfl, rfl, by omega, by omega, g.set _ (Nat.le_refl _) hk, ?_⟩
        rw [set_self cm]
        show _ = some (Cell.lst ((kept (posG (ls.map gear3)) (i + 1)).map D.int))
        rw [kept_succ _ i0, hf]
        simp
      simp -implicitDefEqProofs [-List.map_map]
      refine lc_maps (k := rowL i) (fun l hl => ?_) ?_
      · simp -implicitDefEqProofs [-List.map_map, earD, sD, lmarks_ok (r l hl), rowL, mps]
      try simp -implicitDefEqProofs [-List.map_map]
      refine lc_maps (k := fun l => .bl (!(mps l.1 (i + l.2.1)).isEmpty)) (fun l _ => ?_) ?_
      · simp -implicitDefEqProofs [-List.map_map, rowL, mps, oNe_nil mp_ok59]
      rw [oAnyB fun l : E3 => !(mps l.1 (i + l.2.1)).isEmpty]
      simp -implicitDefEqProofs only [opt_some, truth_bl]
      refine iff2_of (fun q1 => ?_) fun q1 => fin (by rw [pos3]; rw [q1]; rfl) _ _
      simp -implicitDefEqProofs only [zip_ll, opt_some, zp_maps]
      refine lc_maps (k := fun l => .bl ((mps l.1 (i + l.2.1)).all (inS l.2.2))) (fun l _ => ?_) ?_
      · simp -implicitDefEqProofs [-List.map_map, rowL, earD]
        refine lc_maps (k := fun p => .bl (inS l.2.2 p)) (fun p hp => ?_) ?_
        · obtain ⟨s, t⟩ := p
          rcases mp_01 hp with rfl | rfl
          · have e5 : ∀ C, oIx C (hD l.2.2) (.int 0) = some (.tup (l.2.2.1.map D.int)) := fun _ => rfl
            simp -implicitDefEqProofs [-List.map_map, pD, e5, inU, inS]
          · have e5 : ∀ C, oIx C (hD l.2.2) (.int 1) = some (.tup (l.2.2.2.map D.int)) := fun _ => rfl
            simp -implicitDefEqProofs [-List.map_map, pD, e5, inU, inS]
        rw [oAllB]
        simp -implicitDefEqProofs
      rw [oAllB fun l : E3 => (mps l.1 (i + l.2.1)).all (inS l.2.2)]
      simp -implicitDefEqProofs only [opt_some, truth_bl]
      refine iff2_of (fun q2 => ?_) fun q2 => fin (by rw [pos3]; rw [q1, q2]; rfl) _ _
      try simp -implicitDefEqProofs [-List.map_map]
      exact fin2 (by rw [pos3]; rw [q1, q2]; rfl) _ _
    · rw [rg_nil hi] at e0; cases e0
  · rintro ρ C' ⟨x3, x4, i, rfl, e0, i0, ie, g, cm⟩
    by_cases hi : i < M
    · rw [rg_cons hi] at e0; cases e0
    · have : i = M := by omega
      subst this
      simp -implicitDefEqProofs [-List.map_map]
      exact h _ _ g (Nat.le_refl _) cm
/-- what is given stands for some u -/
def Giv {U : Type} (kU : U → D) (J : U → Cells → Prop) (y : D) (C : Cells) : Prop := ∃ u, y = kU u ∧ J u C
/-- results of one kind each -/
theorem lc_each {T U : Type} {kp : Nat} {ls : List T} {f : T → D} {kU : U → D} {π : U → T} {G : U → Prop} {t : TX} {p : BX} {g : EX} {ρw : Ro} {C : Cells} {Q : List D → Cells → Prop} (hp : PoolAt kp C)
    (h : ∀ l ∈ ls, ∀ C', Gr kp C C' → ∀ J : U → Cells → Prop, (∀ u C3, Gr kp C C3 → π u = l → G u → J u C3) → Ok (t (f l) ρw) C' fun ρ1 C1 => Ok (p ρ1) C1 fun b C2 => b = true ∧ Ok (g ρ1) C2 fun y C3 => Giv kU J y C3) (q : ∀ (us : List U) C', Gr kp C C' → us.map π = ls → (∀ u ∈ us, G u) → Q (us.map kU) C') : Ok (lcD ⟨ls.map f, none⟩ t p g ρw (ls.map f) []) C Q := by
  refine lc_ok (fun xs acc C' => Gr kp C C' ∧ ∃ (done : List U) (rest : List T), done.map π ++ rest = ls ∧ xs = rest.map f ∧ acc = done.map kU ∧ ∀ u ∈ done, G u) ?_ ?_ _ _ _ (fun _ h => h) ⟨Gr.refl hp, [], ls, rfl, rfl, rfl, by simp⟩
  · rintro x xs acc C' hx ⟨gr, done, rest, e1, e2, rfl, hg⟩ J hJ
    cases rest with
    | nil => cases e2
    | cons l rest =>
      rw [List.map_cons] at e2
      cases e2
      refine (h l (by rw [← e1]; simp) C' gr (fun u C3 => Gr kp C C3 ∧ π u = l ∧ G u) fun u C3 a b c => ⟨a, b, c⟩).mono fun ρ1 C1 h1 => h1.mono fun b C2 ⟨hb, h2⟩ => ?_
      subst hb
      rw [iff2_t]
      refine h2.mono fun y C3 ⟨u, e4, g3, e5, gu⟩ => ?_
      subst e4
      exact hJ _ _ ⟨g3, done ++ [u], rest, by rw [← e1, List.map_append, ← e5]; simp, rfl, by simp, fun v hv => by
        rcases List.mem_append.mp hv with hv | hv
        · exact hg v hv
        · rw [List.mem_singleton.mp hv]; exact gu⟩
  · rintro acc C' ⟨gr, done, rest, e1, e2, rfl, hg⟩
    have : rest = [] := by cases rest with | nil => rfl | cons _ _ => cases e2
    subst this
    rw [List.append_nil] at e1
    exact q done C' gr e1 hg
def mkH (s : S3) (ns : List Int) : HH := (mkS s.1 s.2.2 ns, mkS s.2.1 s.2.2 ns)
theorem mkH_ok {s : S3} {ns : List Int} (r : SR4s e s) (hl : ns.length ≤ 12) : HOk s.1 s.2.1 s.2.2 (mkH s ns) := ⟨mkS_row r.pa, mkS_row r.pb, Nat.le_trans (mkS_len _ _ _) hl, Nat.le_trans (mkS_len _ _ _) hl⟩
theorem add0 (ns : List Int) : ns.map (· + (0 : Int)) = ns := by simp
end Law

namespace Law
open PySem L2 DL
variable {a b c e : Int}
def fitG (gs : List Gear) (ns : List Int) : Bool := ns.all (posG gs) && (ndF 0 (gs.map (·.2))).all fun t => ns.any fun d => decide (t ∈ rowsG gs d)
theorem rowsG_len {gs : List Gear} (ho : GOk gs) (d : Int) : (rowsG gs d).length ≤ 20 := by
  have := mbG_len (gs.map fun g => g.1 d) 0 fun l hl => by
    obtain ⟨g, hg, rfl⟩ := List.mem_map.mp hl
    exact ho.two g hg d
  rw [List.length_map] at this
  have := ho.len
  unfold rowsG
  omega
theorem subG_len {T : Type} [DecidableEq T] : ∀ {l m : List T}, l.Nodup → (∀ n ∈ l, n ∈ m) → l.length ≤ m.length
  | [], _, _, _ => Nat.zero_le _
  | a :: l, m, hn, h => by
    have ha := h a List.mem_cons_self
    have hn := List.nodup_cons.mp hn
    have ih := @subG_len T _ l (m.erase a) hn.2 fun n hm => (List.mem_erase_of_ne (show n ≠ a from fun e => hn.1 (by rw [← e]; exact hm))).mpr (h n (List.mem_cons_of_mem _ hm))
    rw [List.length_erase_of_mem ha] at ih
    have := List.length_pos_of_mem ha
    simp
    omega
theorem sameG_len {T : Type} [DecidableEq T] {l m : List T} (hl : l.Nodup) (hm : m.Nodup) (h : ∀ n ∈ l, n ∈ m) : l.length = m.length ↔ ∀ n ∈ m, n ∈ l := by
  constructor
  · intro q n hn
    refine Classical.byContradiction fun no => ?_
    have := @subG_len T _ (n :: l) m (List.nodup_cons.mpr ⟨no, hl⟩) fun x hx => by
      rcases List.mem_cons.mp hx with rfl | hx
      · exact hn
      · exact h x hx
    simp at this
    omega
  · intro q
    exact Nat.le_antisymm (subG_len hl h) (subG_len hm q)
theorem marksin_ok {gs : List Gear} (ho : GOk gs) {ds ns : List Int} (hsub : ∀ n ∈ ns, n ∈ ds) (hl : ns.length ≤ 1600) {y : D} {C : Cells} (hy : ∀ P : Src → Cells → Prop, Ok (srcSeq y) C P = P ⟨ns.map D.int, none⟩ C) {P : D → Cells → Prop}
    (h : ∀ (us : List T3) (vs : List D), us.Nodup → (∀ t, t ∈ us ↔ ∃ d ∈ ns, t ∈ rowsG gs d) → P (.dct (us.map tr) vs) C) : Ok (m_marks_in [.dct (ds.map D.int) (ds.map (valG gs)), y]) C P := by
  simp -implicitDefEqProofs only [m_marks_in, b_marks_in, Ok_fnD]
  simp -implicitDefEqProofs [-List.map_map, hy]
  refine lp_ok (fun xs acc C' => C' = C ∧ ∃ done rest us, done ++ rest = ns ∧ xs = rest.map D.int ∧ KsG kt3 acc us ∧ (∀ t, t ∈ us ↔ ∃ d ∈ done, t ∈ rowsG gs d) ∧ us.length ≤ 20 * done.length) ?_ ?_ _ _ _ (fun _ h => h) ⟨rfl, [], _, [], rfl, rfl, ⟨rfl, List.nodup_nil⟩, by simp, by simp⟩
  · rintro x xs acc C' hx ⟨rfl, done, rest, us, e1, e2, hk, hm, hlen⟩ J hJ
    cases rest with
    | nil => cases e2
    | cons d rest =>
      rw [List.map_cons] at e2
      cases e2
      have hdl : done.length ≤ 1600 := by
        have := congrArg List.length e1
        rw [List.length_append] at this
        omega
      have hd : d ∈ ds := hsub d (by rw [← e1]; simp)
      have hN := rowsG_len ho d
      simp -implicitDefEqProofs [-List.map_map, oIxK_int hd, src_val]
      refine lp_ok (fun xs acc C2 => C2 = C' ∧ ∃ dn rs qs, dn ++ rs = rowsG gs d ∧ xs = rs.map tr ∧ KsG kt3 acc qs ∧ (∀ t, t ∈ qs ↔ t ∈ us ∨ t ∈ dn) ∧ qs.length ≤ us.length + dn.length) ?_ ?_ _ _ _ (fun _ h => h) ⟨rfl, [], _, us, rfl, rfl, hk, by simp, by simp⟩
      · rintro x2 xs2 acc2 C2 hx2 ⟨rfl, dn, rs, qs, e3, e4, hk2, hm2, hlen2⟩ J2 hJ2
        cases rs with
        | nil => cases e4
        | cons t rs =>
          rw [List.map_cons] at e4
          cases e4
          have hdn : dn.length ≤ 20 := by
            have := congrArg List.length e3
            rw [List.length_append] at this
            omega
          simp -implicitDefEqProofs [-List.map_map]
          refine Ok_putT_ok (k := kt3 t) (es := [.int t.1, .int t.2.1, .int t.2.2]) (fun P => by simp -implicitDefEqProofs [tr]) rfl ?_ ?_
          · have := congrArg List.length hk2.eq
            rw [List.length_map, List.length_map] at this
            exact sz_lt (by omega)
          · simp -implicitDefEqProofs
            obtain ⟨qs', h1, h2, h3⟩ := hk2.put kt3_inj t (.bl true)
            refine hJ2 _ _ ⟨rfl, dn ++ [t], rs, qs', by simpa using e3, rfl, h1, fun q => by rw [h2, hm2]; simp [or_assoc], by simp; omega⟩
      · rintro acc2 C2 ⟨rfl, dn, rs, qs, e3, e4, hk2, hm2, hlen2⟩
        have : rs = [] := by cases rs with | nil => rfl | cons _ _ => cases e4
        subst this
        rw [List.append_nil] at e3
        subst e3
        refine hJ _ _ ⟨rfl, done ++ [d], rest, qs, by simpa using e1, rfl, hk2, fun t => ?_, by simp; omega⟩
        rw [hm2, hm]
        constructor
        · rintro (⟨z, h1, h2⟩ | h)
          · exact ⟨z, by simp [h1], h2⟩
          · exact ⟨d, by simp, h⟩
        · rintro ⟨z, h1, h2⟩
          rcases List.mem_append.mp h1 with h1 | h1
          · exact .inl ⟨z, h1, h2⟩
          · rw [List.mem_singleton.mp h1] at h2
            exact .inr h2
  · rintro acc C' ⟨rfl, done, rest, us, e1, e2, hk, hm, hlen⟩
    have : rest = [] := by cases rest with | nil => rfl | cons _ _ => cases e2
    subst this
    rw [List.append_nil] at e1
    subst e1
    rw [hk.keys]
    exact h us _ hk.nd hm
theorem domark_ok {gs : List Gear} (ho : GOk gs) {ns : List Int} {nd : List T3} {vs : List D} (hb : ∀ n ∈ ns, 0 ≤ n ∧ n < e) (hl : ns.length ≤ 1600) (hn : nd.Nodup) (hm : ∀ t, t ∈ nd ↔ t ∈ ndF 0 (gs.map (·.2))) {y : D} {C : Cells}
    (hy : ∀ P : Src → Cells → Prop, Ok (srcSeq y) C P = P ⟨ns.map D.int, none⟩ C) {P : D → Cells → Prop} (h : P (.bl (fitG gs ns)) C) : Ok (m_do_mark_all [.dct ((kept (posG gs) e).map D.int) ((kept (posG gs) e).map (valG gs)), .dct (nd.map tr) vs, y]) C P := by
  simp -implicitDefEqProofs only [m_do_mark_all, b_do_mark_all, Ok_fnD]
  simp -implicitDefEqProofs [-List.map_map, hy]
  have hk : ∀ n ∈ ns, decide (n ∈ kept (posG gs) e) = posG gs n := fun n hn => by
    rw [Bool.eq_iff_iff, decide_eq_true_eq, kept_mem]
    exact ⟨fun q => q.2, fun q => ⟨hb n hn, q⟩⟩
  refine lc_maps (f := D.int) (k := fun n => .bl (posG gs n)) (fun n hn => ?_) ?_
  · simp -implicitDefEqProofs [-List.map_map, inK_int, hk n hn]
  rw [oAllB (posG gs)]
  simp -implicitDefEqProofs only [truth_bl, opt_some]
  unfold fitG at h
  cases q : ns.all (posG gs) with
  | false =>
    rw [q] at h
    simpa using h
  | true =>
    rw [q, Bool.true_and] at h
    have hsub : ∀ n ∈ ns, n ∈ kept (posG gs) e := fun n hn => kept_mem.mpr ⟨hb n hn, List.all_eq_true.mp q n hn⟩
    simp -implicitDefEqProofs [-List.map_map]
    refine marksin_ok ho hsub hl hy fun us ws hu hum => ?_
    simp -implicitDefEqProofs [-List.map_map, oLenK_ok]
    have e1 : decide ((us.length : Int) = nd.length) = (ndF 0 (gs.map (·.2))).all fun t => ns.any fun d => decide (t ∈ rowsG gs d) := by
      rw [Bool.eq_iff_iff, decide_eq_true_eq, List.all_eq_true]
      have hs : ∀ t ∈ us, t ∈ nd := fun t ht => by
        obtain ⟨d, hd, q2⟩ := (hum t).mp ht
        exact (hm t).mpr ((posG_iff ho |>.mp (List.all_eq_true.mp q d hd)).2 t q2)
      rw [show ((us.length : Int) = nd.length) ↔ us.length = nd.length by omega, sameG_len hu hn hs]
      constructor
      · intro q2 t ht
        obtain ⟨d, hd, q3⟩ := (hum t).mp (q2 t ((hm t).mpr ht))
        exact List.any_eq_true.mpr ⟨d, hd, decide_eq_true q3⟩
      · intro q2 t ht
        obtain ⟨d, hd, q3⟩ := List.any_eq_true.mp (q2 t ((hm t).mp ht))
        exact (hum t).mpr ⟨d, hd, of_decide_eq_true q3⟩
    rw [e1]
    exact h
theorem canmark_ok {gs : List Gear} (ho : GOk gs) {nd : List T3} {vs : List D} (he : e ≤ 1600) (hn : nd.Nodup) (hm : ∀ t, t ∈ nd ↔ t ∈ ndF 0 (gs.map (·.2))) {C : Cells} {P : D → Cells → Prop} (h : P (.bl (fitG gs (kept (posG gs) e))) C) :
    Ok (m_can_mark_all [.dct ((kept (posG gs) e).map D.int) ((kept (posG gs) e).map (valG gs)), .dct (nd.map tr) vs]) C P := by
  have hl : (kept (posG gs) e).length ≤ 1600 := Nat.le_trans (kept_len _ _) (by omega)
  simp -implicitDefEqProofs only [m_can_mark_all, b_can_mark_all, Ok_fnD]
  simp -implicitDefEqProofs [-List.map_map, listD_ints (C := C) (vs := (kept (posG gs) e).map (valG gs)) (show (kept (posG gs) e).length ≤ 1000000 by omega)]
  exact domark_ok ho (fun n hn => (kept_mem.mp hn).1) hl hn hm (fun P => src_lst _ P) h
structure Lot (e : Int) (ns : List Int) : Prop where
  row : RowOk 0 (e - 1) ns
  len : ns.length ≤ 60
theorem wrongin_ok {a b c e : Int} {ns : List Int} (hl : Lot e ns) {C : Cells} {P : D → Cells → Prop} (h : P (.lst []) C) : Ok (m_wrong_in_delays [SS a b c e, .tup (ns.map D.int)]) C P := by
  have l60 := hl.len
  simp -implicitDefEqProofs only [m_wrong_in_delays, b_wrong_in_delays, Ok_fnD]
  simp -implicitDefEqProofs [-List.map_map, m_is_tuple_up_to, b_is_tuple_up_to, isi_tup (show fine (.tup (ns.map D.int)) = true from rfl), isT]
  rw [decide_eq_true (show (ns.length : Int) ≤ 60 by omega)]
  simp -implicitDefEqProofs [-List.map_map, tupOf]
  refine for_inv (fun ρ C' => C' = C ∧ ∃ x2 x3, ρ = [some (SS a b c e), some (.tup (ns.map D.int)), x2, x3]) ⟨rfl, _, _, rfl⟩ ?_ ?_
  · rintro x ρ C' hx ⟨rfl, x2, x3, rfl⟩ J hJ
    obtain ⟨i, y, rfl, hi⟩ := mem_en hx
    obtain ⟨n, hn, rfl⟩ := nth_map hi
    have hb := hl.row.bd n (List.mem_of_getElem? hn)
    have f := fun x => show fine (.int x) = true from rfl
    simp -implicitDefEqProofs [-List.map_map, m_is_delay_of, b_is_delay_of, m_range_of, b_range_of, SS_ix3, upto_ok (f _), btw, hb.1, hb.2]
    refine iff2_dec (fun hi0 => ?_) fun hi0 => ?_
    · obtain ⟨j, rfl⟩ : ∃ j, i = j + 1 := ⟨i - 1, by omega⟩
      have hlt := (List.getElem?_eq_some_iff.mp hn).1
      have hj : ns[j]? = some (ns[j]'(by omega)) := by simp
      have e1 : ((j + 1 : Nat) : Int) - 1 = (j : Int) := by omega
      rw [e1, oIx_tup, atI_nat, List.getElem?_map, hj]
      simp -implicitDefEqProofs
      have hlt2 : ns[j]'(by omega) < n := by
        have := List.pairwise_iff_getElem.mp hl.row.pw j (j + 1) (by omega) hlt (by omega)
        have e2 : ns[j + 1]'hlt = n := (List.getElem?_eq_some_iff.mp hn).2
        rw [e2] at this
        exact this
      rw [decide_eq_false (show ¬ n ≤ ns[j]'(by omega) by omega)]
      simp -implicitDefEqProofs
      exact hJ _ _ ⟨rfl, _, _, rfl⟩
    · exact hJ _ _ ⟨rfl, _, _, rfl⟩
  · rintro ρ C' ⟨rfl, x2, x3, rfl⟩
    simp -implicitDefEqProofs
    exact h
theorem cdelays_ok {a b c e : Int} {ns : List Int} (hl : Lot e ns) {C : Cells} {P : D → Cells → Prop} (h : P .non C) : Ok (m_check_delays [SS a b c e, .tup (ns.map D.int)]) C P := by
  simp -implicitDefEqProofs only [m_check_delays, b_check_delays, Ok_fnD]
  simp -implicitDefEqProofs [-List.map_map]
  refine wrongin_ok hl ?_
  simp -implicitDefEqProofs
  exact h
end Law

namespace Law
open PySem L2 DL
variable {a b c e : Int}
/-! shifted looks -/
abbrev PG := Int × HH
def gD (l : PG) : D := .tup [.int l.1, hD l.2]
def gearL (a b c : Int) (l : PG) : Gear := (fun d => mp a b c (d + l.1), l.2)
structure LOk (a b c : Int) (ls : List PG) : Prop where
  l1 : 1 ≤ ls.length
  l2 : ls.length ≤ 6
  hs : ∀ l ∈ ls, HOk a b c l.2
  sh : ∀ l ∈ ls, -1600 ≤ l.1 ∧ l.1 ≤ 1600
theorem LOk.g {ls : List PG} (w : LOk a b c ls) : GOk (ls.map (gearL a b c)) := by
  refine ⟨by rw [List.length_map]; have := w.l2; omega, fun g hg d p hp => ?_, fun g hg d => ?_, fun g hg => ?_⟩
  · obtain ⟨x, _, rfl⟩ := List.mem_map.mp hg
    exact mp_01 hp
  · obtain ⟨x, _, rfl⟩ := List.mem_map.mp hg
    exact mp_len _ _ _ _
  · obtain ⟨x, hx, rfl⟩ := List.mem_map.mp hg
    exact ⟨(w.hs x hx).lu, (w.hs x hx).lv⟩
def gMS (a b c d : Int) : D → List D
  | .tup [.int i, .int t] => (withI i (mp a b c (d + t))).map tr
  | _ => []
theorem gMS_eq (a b c d : Int) : ∀ (ts : List Int) (i : Int), (enD i (ts.map D.int)).flatMap (gMS a b c d) = (mbG i (ts.map fun t => mp a b c (d + t))).map tr
  | [], _ => rfl
  | t :: ts, i => by
    rw [List.map_cons, enD, List.flatMap_cons, gMS_eq a b c d ts, List.map_cons, mbG, List.map_append]
    rfl
theorem mbs_ok {d : Int} {ts : List Int} (r : SR4 a b c e) (hl : ts.length ≤ 10) {C : Cells} {P : D → Cells → Prop} (h : P (.lst ((mbG 0 (ts.map fun t => mp a b c (d + t))).map tr)) C) : Ok (m_marks_by_shifts [SS a b c e, .lst (ts.map D.int), .int d]) C P := by
  simp -implicitDefEqProofs only [m_marks_by_shifts, b_marks_by_shifts, Ok_fnD]
  simp -implicitDefEqProofs [-List.map_map, Ok_xLc2, lstOf]
  rw [zp_en]
  refine lp_app (gMS a b c d) 2 (fun x hx => ?_) (fun x hx acc hacc => ?_) _ _ (fun _ h => h) ?_ ?_
  · obtain ⟨j, y, rfl, hy⟩ := mem_enD hx
    obtain ⟨t, _, rfl⟩ := List.mem_map.mp hy
    show ((withI j (mp a b c (d + t))).map tr).length ≤ 2
    unfold withI
    rw [List.length_map, List.length_map]
    exact mp_len _ _ _ _
  · obtain ⟨j, y, rfl, hy⟩ := mem_enD hx
    obtain ⟨t, _, rfl⟩ := List.mem_map.mp hy
    simp -implicitDefEqProofs [-List.map_map, marksof_ok SS_sd r.pa r.pb]
    refine lp_app (gP j) 1 (fun z hz => ?_) (fun z hz acc2 hacc2 => ?_) _ _ (fun _ h => h) ?_ ?_
    · obtain ⟨p, _, rfl⟩ := List.mem_map.mp hz
      exact Nat.le_refl _
    · obtain ⟨p, _, rfl⟩ := List.mem_map.mp hz
      simp -implicitDefEqProofs [-List.map_map, Ok_addL, pD, items_tup, gP]
      exact sz_lt (by omega)
    · have := mp_len a b c (d + t)
      rw [List.length_map]
      omega
    · rw [gP_eq]
      exact ⟨rfl, rfl⟩
  · rw [len_enD, List.length_map]
    simp
    omega
  · rw [gMS_eq, List.nil_append]
    refine ⟨?_, h⟩
    have := mbG_len (ts.map fun t => mp a b c (d + t)) 0 fun l hl => by obtain ⟨s, _, rfl⟩ := List.mem_map.mp hl; exact mp_len _ _ _ _
    rw [List.length_map] at this
    rw [List.length_map]
    exact Nat.le_of_lt (sz_lt (by omega))
theorem needin_ok {ls : List PG} (w : LOk a b c ls) {C : Cells} {P : D → Cells → Prop} (h : ∀ (ns : List T3) (vs : List D), ns.Nodup → (∀ t, t ∈ ns ↔ t ∈ ndF 0 ((ls.map (gearL a b c)).map (·.2))) → P (.dct (ns.map tr) vs) C) : Ok (m_needed_in [.tup (ls.map gD)]) C P := by
  have l2 := w.l2
  simp -implicitDefEqProofs only [m_needed_in, b_needed_in, Ok_fnD]
  simp -implicitDefEqProofs [-List.map_map]
  refine lc_maps (k := fun l => hD l.2) (fun l _ => ?_) ?_
  · simp -implicitDefEqProofs [-List.map_map, gD]
  refine needed_ok (hs := ls.map (·.2)) (by rw [List.length_map]; omega) (fun h hh => ?_) (y0 := .lst (ls.map fun l => hD l.2)) (by show some (ls.map fun x => hD x.2) = _; rw [List.map_map]; rfl) fun ns vs hnd hm => h ns vs hnd fun t => ?_
  · obtain ⟨x, hx, rfl⟩ := List.mem_map.mp hh
    exact ⟨(w.hs x hx).lu, (w.hs x hx).lv⟩
  · rw [hm, List.map_map]
    rfl
abbrev posL (a b c e : Int) (ls : List PG) : List Int := kept (posG (ls.map (gearL a b c))) e
theorem markedin_ok {ls : List PG} (r : SR4 a b c e) (w : LOk a b c ls) {C : Cells} {P : D → Cells → Prop} (h : P (.dct ((posL a b c e ls).map D.int) ((posL a b c e ls).map (valG (ls.map (gearL a b c))))) C) : Ok (m_marked_in [SS a b c e, .tup (ls.map gD)]) C P := by
  have l2 := w.l2
  simp -implicitDefEqProofs only [m_marked_in, b_marked_in, Ok_fnD]
  simp -implicitDefEqProofs [-List.map_map]
  refine lc_maps (k := fun l => .int l.1) (fun l _ => ?_) ?_
  · simp -implicitDefEqProofs [-List.map_map, gD]
  simp -implicitDefEqProofs [-List.map_map, alldel_ok r.e1 r.e2]
  refine lc_maps (k := rowF (ls.map (gearL a b c))) (fun d _ => ?_) ?_
  · simp -implicitDefEqProofs [-List.map_map]
    rw [show (ls.map fun l : PG => D.int l.1) = (ls.map (·.1)).map D.int by rw [List.map_map]; rfl]
    refine mbs_ok r (by rw [List.length_map]; omega) ?_
    refine ⟨rfl, ?_⟩
    show _ = D.tup [.int d, .lst ((mbG 0 ((ls.map (gearL a b c)).map fun g => g.1 d)).map tr)]
    rw [List.map_map, List.map_map]
    rfl
  try simp -implicitDefEqProofs [-List.map_map]
  refine needin_ok w fun ns vs hnd hm => ?_
  exact marked_ok w.g hm r.e2 h
theorem isshift_ok {x : Int} {C : Cells} {P : D → Cells → Prop} : Ok (m_is_shift [.int x]) C P = P (.bl (btw (.int x) (-1600) 1600)) C := by
  have f := fun x => show fine (.int x) = true from rfl
  simp -implicitDefEqProofs [m_is_shift, b_is_shift, between_ok (f _)]
theorem fine_gD (l : PG) : fine (gD l) = true := rfl
theorem islook_ok {l : PG} (hS : Sd (SS a b c e) a b c) (q : HOk a b c l.2) (t : -1600 ≤ l.1 ∧ l.1 ≤ 1600) {C : Cells} {P : D → Cells → Prop} (h : P (.bl true) C) : Ok (m_is_shifted_look [SS a b c e, gD l]) C P := by
  have f := fun x => show fine (.int x) = true from rfl
  simp -implicitDefEqProofs only [m_is_shifted_look, b_is_shifted_look, Ok_fnD]
  simp -implicitDefEqProofs [-List.map_map, isPair_ok (fine_gD l)]
  simp -implicitDefEqProofs [-List.map_map, gD, oIx_tup, pair0, pair1, isshift_ok, btw, t.1, t.2]
  refine heardpair_ok hS (ask_pair _ _) ?_
  rw [show hpB a b c (.tup [.tup (l.2.1.map D.int), .tup (l.2.2.map D.int)]) = true from hpB_ok q.ru q.rv q.lu q.lv (Int.le_refl _) (Int.le_refl _) (Int.le_refl _)]
  exact h
theorem clooks_ok {ls : List PG} (r : SR4 a b c e) (w : LOk a b c ls) {C : Cells} {P : D → Cells → Prop} (h : P .non C) : Ok (m_check_looks [SS a b c e, .tup (ls.map gD)]) C P := by
  have l1 := w.l1
  have l2 := w.l2
  simp -implicitDefEqProofs only [m_check_looks, b_check_looks, Ok_fnD]
  simp -implicitDefEqProofs [-List.map_map, csounder_ok r]
  simp -implicitDefEqProofs only [m_wrong_in_looks, b_wrong_in_looks, Ok_fnD]
  simp -implicitDefEqProofs [-List.map_map, tupto_ok]
  rw [decide_eq_true (show (1 : Int) ≤ ls.length by omega), decide_eq_true (show (ls.length : Int) ≤ 6 by omega)]
  simp -implicitDefEqProofs [-List.map_map, tupOf]
  refine lc_map (fun _ => none) (fun x hx => ?_) _ _ (fun _ h => h) ?_
  · obtain ⟨i, y, rfl, hi⟩ := mem_en hx
    rw [List.getElem?_map] at hi
    obtain ⟨l, hl, rfl⟩ := Option.map_eq_some_iff.mp hi
    have hm := List.mem_of_getElem? hl
    simp -implicitDefEqProofs [-List.map_map]
    refine islook_ok SS_sd (w.hs l hm) (w.sh l hm) ?_
    simp -implicitDefEqProofs [-List.map_map]
  · have e : ∀ l : List D, l.filterMap (fun _ => (none : Option D)) = [] := fun l => by
      induction l with
      | nil => rfl
      | cons x l ih => rw [List.filterMap_cons]; exact ih
    simp -implicitDefEqProofs only [List.nil_append, e, sl, look_lst, opt_some]
    rw [show cutL ([] : List D) none (some 1) = [] from rfl]
    simp -implicitDefEqProofs [-List.map_map]
    exact h
theorem posshift_ok {ls : List PG} (r : SR4 a b c e) (w : LOk a b c ls) {C : Cells} {P : D → Cells → Prop} (h : P (.tup ((posL a b c e ls).map D.int)) C) : Ok (m_possible_shifted [SS a b c e, .tup (ls.map gD)]) C P := by
  have hl : (posL a b c e ls).length ≤ 1600 := Nat.le_trans (kept_len _ _) (by have := r.e2; omega)
  simp -implicitDefEqProofs only [m_possible_shifted, b_possible_shifted, Ok_fnD]
  simp -implicitDefEqProofs [-List.map_map]
  refine clooks_ok r w ?_
  simp -implicitDefEqProofs only [m_possible_shifted_by, b_possible_shifted_by, Ok_fnD]
  simp -implicitDefEqProofs [-List.map_map]
  refine markedin_ok r w ?_
  rw [listD_ints (by omega), opt_some, oSorted_ints, sortI_id (kept_row _ (by have := r.e1; omega)).pw, opt_some]
  simp -implicitDefEqProofs [-List.map_map]
  exact h
theorem canshift_ok {ls : List PG} (r : SR4 a b c e) (w : LOk a b c ls) {C : Cells} {P : D → Cells → Prop} (h : P (.bl (fitG (ls.map (gearL a b c)) (posL a b c e ls))) C) : Ok (m_can_be_shifted [SS a b c e, .tup (ls.map gD)]) C P := by
  simp -implicitDefEqProofs only [m_can_be_shifted, b_can_be_shifted, Ok_fnD]
  simp -implicitDefEqProofs [-List.map_map]
  refine clooks_ok r w ?_
  simp -implicitDefEqProofs only [m_can_be_shifted_by, b_can_be_shifted_by, Ok_fnD]
  simp -implicitDefEqProofs [-List.map_map]
  refine markedin_ok r w ?_
  refine needin_ok w fun nd vs hn hm => ?_
  exact canmark_ok w.g r.e2 hn hm h
theorem fitshift_ok {ls : List PG} {ns : List Int} (r : SR4 a b c e) (w : LOk a b c ls) (hl : Lot e ns) {C : Cells} {P : D → Cells → Prop} (h : P (.bl (fitG (ls.map (gearL a b c)) ns)) C) : Ok (m_do_fit_shifted [SS a b c e, .tup (ls.map gD), .tup (ns.map D.int)]) C P := by
  simp -implicitDefEqProofs only [m_do_fit_shifted, b_do_fit_shifted, Ok_fnD]
  simp -implicitDefEqProofs [-List.map_map]
  refine clooks_ok r w ?_
  refine cdelays_ok hl ?_
  simp -implicitDefEqProofs only [m_do_fit_shifted_by, b_do_fit_shifted_by, Ok_fnD]
  simp -implicitDefEqProofs [-List.map_map]
  refine markedin_ok r w ?_
  refine needin_ok w fun nd vs hn hm => ?_
  exact domark_ok w.g (fun n hn => by have := hl.row.bd n hn; omega) (by have := hl.len; omega) hn hm (fun P => src_tup _ P) h
end Law

namespace Law
open PySem L2 DL
theorem sounder_pool2 {k : Nat} {hi far : Int} {C : Cells} {P : D → Cells → Prop} (hp : PoolAt k C) (h1 : 2 ≤ hi) (h2 : hi ≤ 40) (f1 : 1 ≤ far) (f2 : far ≤ 1600) (h : ∀ a b c e C', SR4 a b c e → a ≤ hi → b ≤ hi → e ≤ far → Gr k C C' → P (SS a b c e) C') : Ok (m_law_sounder [.hnd k, .int hi, .int far]) C P := by
  simp -implicitDefEqProofs [m_law_sounder, b_law_sounder]
  refine below_ok hp (by omega) (by omega) fun x1 C1 l1 u1 g1 => ?_
  try simp -implicitDefEqProofs
  refine below_ok g1.pool (by omega) (by omega) fun x2 C2 l2 u2 g2 => ?_
  simp -implicitDefEqProofs
  have g12 := g1.trans g2
  refine iff2_dec (fun hq => ?_) fun hq => (hq (by omega)).elim
  refine one_ok g12.pool (by simp) (by simp) fun d C3 hd g3 => ?_
  simp only [List.mem_cons, List.not_mem_nil, or_false] at hd
  obtain ⟨m, rfl, m1, m2⟩ : ∃ m : Int, d = .int m ∧ 1 ≤ m ∧ m ≤ min (2 + x1) (2 + x2) := by
    rcases hd with rfl | rfl | rfl
    · exact ⟨_, rfl, by omega, by omega⟩
    · exact ⟨_, rfl, by omega, by omega⟩
    · exact ⟨_, rfl, by omega, by omega⟩
  have g13 := g12.trans g3
  refine below_ok g13.pool (by omega) (by omega) fun x4 C4 l4 u4 g4 => ?_
  try simp -implicitDefEqProofs
  have g14 := g13.trans g4
  refine below_ok g14.pool (by omega) (by omega) fun x5 C5 l5 u5 g5 => ?_
  try simp -implicitDefEqProofs
  exact h _ _ _ _ _ ⟨by omega, by omega, by omega, by omega, by omega, by omega, by omega, by omega⟩ (by omega) (by omega) (by omega) (g14.trans g5)
variable {a b c e : Int}
theorem oNe_tup {C : Cells} (ns ms : List Int) : oNe C (.tup (ns.map D.int)) (.tup (ms.map D.int)) = some (.bl (!decide (ns = ms))) := by
  show (if okL 59 (ns.map D.int) && okL 59 (ms.map D.int) then some (D.bl (!eqL (ns.map D.int) (ms.map D.int))) else none) = _
  rw [okL_ints, okL_ints, eqL_ints]
  rfl
theorem snocG (ps : List PG) (t : Int) (h : HH) : ps.map gD ++ [.tup [.int t, two h.1 h.2]] = (ps ++ [(t, h)]).map gD := by rw [List.map_append]; rfl
/-- the loop's hold -/
def LInv (k : Nat) (C : Cells) (a b c e most : Int) (ms : List Int) (n : Nat) (xs : List D) (ρ' : Ro) (C4 : Cells) : Prop := ∃ (x3 x6 x7 : Option D) (qs : List PG), ρ' = [some (.hnd k), some (SS a b c e), some (.int most), x3, some (.tup (ms.map D.int)), some (.tup (qs.map gD)), x6, x7] ∧ Gr k C C4 ∧ qs.length + xs.length = n ∧ ∀ l ∈ qs, HOk a b c l.2 ∧ -1600 ≤ l.1 ∧ l.1 ≤ 1600
theorem llooks_ok {k : Nat} {most : Int} (r : SR4 a b c e) (m1 : 0 ≤ most) (m2 : most ≤ 12) {C : Cells} {P : D → Cells → Prop} (hp : PoolAt k C) (h : ∀ ls ns C', Gr k C C' → LOk a b c ls → ls.length ≤ 3 → RowOk 0 (e - 1) ns → (ns.length : Int) ≤ most → P (.tup [.tup (ls.map gD), .tup (ns.map D.int)]) C') : Ok (m_law_looks [.hnd k, SS a b c e, .int most]) C P := by
  have e1 := r.e1
  have e2 := r.e2
  simp -implicitDefEqProofs only [m_law_looks, b_law_looks, Ok_fnD]
  simp -implicitDefEqProofs [-List.map_map, SS_ix3]
  refine lot_ok e1 e2 m1 (by omega) hp fun ms C1 g1 rn ln => ?_
  try simp -implicitDefEqProofs [-List.map_map]
  refine below_ok g1.pool (by omega) (by omega) fun n C3 n0 n1 g3 => ?_
  have g13 := g1.trans g3
  simp -implicitDefEqProofs [-List.map_map]
  rw [if_pos (by omega)]
  simp -implicitDefEqProofs [-List.map_map]
  have lrg : (rgD 0 (1 + n)).length = (1 + n).toNat := by simp [rgD]
  refine for_ok (LInv k C a b c e most ms (1 + n).toNat) ?_ ?_ _ _ _ (fun _ h => h) ⟨_, _, _, [], rfl, g13, by rw [lrg]; simp, by simp⟩
  · rintro x xs ρ C' hx ⟨x3, x6, x7, qs, rfl, g, ll, lh⟩ J hJ
    simp only [List.length_cons] at ll
    simp -implicitDefEqProofs [-List.map_map]
    refine below_ok g.pool (by omega) (by omega) fun y1 C4 y10 y11 g4 => ?_
    have g04 := g.trans g4
    try simp -implicitDefEqProofs [-List.map_map]
    refine below_ok g04.pool (by omega) (by omega) fun y2 C5 y20 y21 g5 => ?_
    have g05 := g04.trans g5
    try simp -implicitDefEqProofs [-List.map_map]
    refine one_ok g05.pool (by simp) (by simp) fun d C6 hd g6 => ?_
    obtain ⟨t, rfl, t1, t2⟩ : ∃ m : Int, d = .int m ∧ -1600 ≤ m ∧ m ≤ 1600 := by
      simp only [List.mem_cons, List.not_mem_nil, or_false] at hd
      rcases hd with rfl | rfl | rfl | rfl | rfl <;> exact ⟨_, rfl, by omega, by omega⟩
    have g06 := g05.trans g6
    try simp -implicitDefEqProofs [-List.map_map]
    refine lmakes_ok r g06.pool (by omega) .tup fun C7 g7 => ?_
    have g07 := g06.trans g7
    have hh0 : HOk a b c (mkS a c (ms.map (· + t)), mkS b c (ms.map (· + t))) := ⟨mkS_row r.pa, mkS_row r.pb, Nat.le_trans (mkS_len _ _ _) (by rw [List.length_map]; omega), Nat.le_trans (mkS_len _ _ _) (by rw [List.length_map]; omega)⟩
    have add : ∀ (hh : HH) (C8 : Cells), HOk a b c hh → Gr k C C8 → ∀ y3 y6 y7, J [some (.hnd k), some (SS a b c e), some (.int most), y3, some (.tup (ms.map D.int)), some (.tup ((qs ++ [(t, hh)]).map gD)), y6, y7] C8 := fun hh C8 q g8 y3 y6 y7 =>
      hJ _ _ ⟨_, _, _, _, rfl, g8, by simp; omega, fun l hl => by
        rcases List.mem_append.mp hl with hl | hl
        · exact lh l hl
        · rw [List.mem_singleton.mp hl]; exact ⟨q, t1, t2⟩⟩
    try simp -implicitDefEqProofs [-List.map_map]
    refine below_ok g07.pool (by omega) (by omega) fun w C8 w0 w1 g8 => ?_
    have g08 := g07.trans g8
    try simp -implicitDefEqProofs [-List.map_map]
    refine iff2_dec (fun q3 => ?_) fun q3 => ?_
    · refine bent_ok r hh0.ru hh0.rv hh0.lu hh0.lv g08.pool fun u v C9 g9 ru rv lu lv _ => ?_
      rw [oAdd_tup (by simp; omega), opt_some, snocG qs t (u, v)]
      exact add (u, v) C9 ⟨ru, rv, lu, lv⟩ (g08.trans g9) _ _ _
    · rw [oAdd_tup (by simp; omega), opt_some, snocG qs t (mkS a c (ms.map (· + t)), mkS b c (ms.map (· + t)))]
      exact add _ C8 hh0 g08 _ _ _
  · rintro ρ C' ⟨x3, x6, x7, qs, rfl, g, ll, lh⟩
    simp -implicitDefEqProofs [-List.map_map]
    simp only [List.length_nil] at ll
    exact h qs ms C' g ⟨by omega, by omega, fun l hl => (lh l hl).1, fun l hl => (lh l hl).2⟩ (by omega) rn ln
theorem lears_ok {ls : List PG} {C : Cells} {P : D → Cells → Prop} (h : P (.lst ((ls.map fun l => (((a, b, c) : S3), l.1, l.2)).map (earD e))) C) : Ok (m_law_ears [SS a b c e, .tup (ls.map gD)]) C P := by
  simp -implicitDefEqProofs only [m_law_ears, b_law_ears, Ok_fnD]
  simp -implicitDefEqProofs [-List.map_map]
  refine lc_maps (k := fun l : PG => earD e (((a, b, c) : S3), l.1, l.2)) (fun l _ => ?_) ?_
  · simp -implicitDefEqProofs [-List.map_map, gD]
    rfl
  · rw [List.map_map] at h
    exact h
end Law

namespace Law
open PySem L2 DL
variable {a b c e : Int} {ls : List PG} {ns ms : List Int}
theorem eq_hD {C : Cells} {x y : HH} : oEq C (hD x) (hD y) = some (.bl (decide (x = y))) := by
  have q : ∀ x : HH, okQ (hD x) = true := fun x => by
    show (okL 58 (x.1.map D.int) && (okL 58 (x.2.map D.int) && true)) = true
    rw [okL_ints, okL_ints]; rfl
  show (if okQ (hD x) && okQ (hD y) then some (D.bl (eqD (hD x) (hD y))) else none) = _
  rw [q, q]
  have e : eqD (hD x) (hD y) = (eqL (x.1.map D.int) (y.1.map D.int) && (eqL (x.2.map D.int) (y.2.map D.int) && true)) := rfl
  rw [e, eqL_ints, eqL_ints, Bool.and_true]
  obtain ⟨x1, x2⟩ := x
  obtain ⟨y1, y2⟩ := y
  simp
/-- what the law asks of a lot, by shifts -/
def mkL (a b c : Int) (ns : List Int) (t : Int) : HH := (mkS a c (ns.map (· + t)), mkS b c (ns.map (· + t)))
def lawfitL (a b c : Int) (ls : List PG) (ns : List Int) : Bool := !(ns.any fun d => ls.all fun l => (mp a b c (d + l.1)).isEmpty) && ls.all fun l => decide (mkL a b c ns l.1 = l.2)
theorem mkL_mem0 {t k : Int} : k ∈ (mkL a b c ns t).1 ↔ ∃ d ∈ ns, (0, k) ∈ mp a b c (d + t) := by
  show k ∈ mkS a c (ns.map (· + t)) ↔ _
  rw [mkS_mem]
  constructor
  · rintro ⟨d', hd', q⟩
    obtain ⟨d, hd, rfl⟩ := List.mem_map.mp hd'
    exact ⟨d, hd, mp_side.mpr (.inl ⟨rfl, q⟩)⟩
  · rintro ⟨d, hd, q⟩
    rcases mp_side.mp q with ⟨_, q⟩ | ⟨q, _⟩
    · exact ⟨d + t, List.mem_map.mpr ⟨d, hd, rfl⟩, q⟩
    · exact absurd q (by decide)
theorem mkL_mem1 {t k : Int} : k ∈ (mkL a b c ns t).2 ↔ ∃ d ∈ ns, (1, k) ∈ mp a b c (d + t) := by
  show k ∈ mkS b c (ns.map (· + t)) ↔ _
  rw [mkS_mem]
  constructor
  · rintro ⟨d', hd', q⟩
    obtain ⟨d, hd, rfl⟩ := List.mem_map.mp hd'
    exact ⟨d, hd, mp_side.mpr (.inr ⟨rfl, q⟩)⟩
  · rintro ⟨d, hd, q⟩
    rcases mp_side.mp q with ⟨q, _⟩ | ⟨_, q⟩
    · exact absurd q (by decide)
    · exact ⟨d + t, List.mem_map.mpr ⟨d, hd, rfl⟩, q⟩
theorem posG_gearL {d : Int} : posG (ls.map (gearL a b c)) d = (ls.any (fun l => !(mp a b c (d + l.1)).isEmpty) && ls.all fun l => (mp a b c (d + l.1)).all (inS l.2)) := by
  unfold posG
  rw [List.any_map, List.all_map]
  rfl
theorem fitL_iff : fitG (ls.map (gearL a b c)) ns = true ↔ (∀ d ∈ ns, posG (ls.map (gearL a b c)) d = true) ∧ ∀ l ∈ ls, (∀ k ∈ l.2.1, ∃ d ∈ ns, (0, k) ∈ mp a b c (d + l.1)) ∧ ∀ k ∈ l.2.2, ∃ d ∈ ns, (1, k) ∈ mp a b c (d + l.1) := by
  unfold fitG
  rw [Bool.and_eq_true, List.all_eq_true, List.all_eq_true]
  refine and_congr_right fun _ => ?_
  constructor
  · intro h x hx
    obtain ⟨i, hi⟩ := List.mem_iff_getElem?.mp hx
    have key : ∀ s k, ((s = 0 ∧ k ∈ x.2.1) ∨ (s = 1 ∧ k ∈ x.2.2)) → ∃ d ∈ ns, (s, k) ∈ mp a b c (d + x.1) := fun s k hk => by
      have := h ((0 : Int) + i, s, k) (mem_ndF.mpr ⟨i, x.2, by rw [List.getElem?_map, List.getElem?_map, hi]; rfl, rfl, hk⟩)
      obtain ⟨d, hd, q⟩ := List.any_eq_true.mp this
      obtain ⟨i', l, h1, h2, h3⟩ := mem_mbG.mp (of_decide_eq_true q)
      have : i' = i := by omega
      subst this
      rw [List.getElem?_map, List.getElem?_map, hi] at h1
      cases h1
      exact ⟨d, hd, h3⟩
    exact ⟨fun k hk => key 0 k (.inl ⟨rfl, hk⟩), fun k hk => key 1 k (.inr ⟨rfl, hk⟩)⟩
  · rintro h ⟨j, s, k⟩ ht
    obtain ⟨i, hh, h1, h2, h3⟩ := mem_ndF.mp ht
    rw [List.getElem?_map, List.getElem?_map] at h1
    obtain ⟨g, hg, rfl⟩ := Option.map_eq_some_iff.mp h1
    obtain ⟨x, hx, rfl⟩ := Option.map_eq_some_iff.mp hg
    have hm := h x (List.mem_of_getElem? hx)
    have fin : ∀ d ∈ ns, (s, k) ∈ mp a b c (d + x.1) → (ns.any fun d => decide ((j, s, k) ∈ rowsG (ls.map (gearL a b c)) d)) = true := fun d hd q => by
      refine List.any_eq_true.mpr ⟨d, hd, decide_eq_true (mem_mbG.mpr ⟨i, mp a b c (d + x.1), ?_, h2, q⟩)⟩
      rw [List.getElem?_map, List.getElem?_map, hx]
      rfl
    rcases h3 with ⟨rfl, h3⟩ | ⟨rfl, h3⟩
    · obtain ⟨d, hd, q⟩ := hm.1 k h3
      exact fin d hd q
    · obtain ⟨d, hd, q⟩ := hm.2 k h3
      exact fin d hd q
theorem inS0 {h : HH} {k : Int} : inS h (0, k) = true ↔ k ∈ h.1 := by simp [inS]
theorem inS1 {h : HH} {k : Int} : inS h (1, k) = true ↔ k ∈ h.2 := by simp [inS]
theorem law_fitL (r : SR4 a b c e) (w : LOk a b c ls) : lawfitL a b c ls ns = fitG (ls.map (gearL a b c)) ns := by
  rw [Bool.eq_iff_iff, fitL_iff]
  unfold lawfitL
  rw [Bool.and_eq_true, List.all_eq_true, Bool.not_eq_true', List.any_eq_false]
  have ne_iff : ∀ d, (¬ (ls.all fun l => (mp a b c (d + l.1)).isEmpty) = true) ↔ (ls.any fun l => !(mp a b c (d + l.1)).isEmpty) = true := fun d => by
    rw [← List.not_all_eq_any_not]
    cases ls.all fun l => (mp a b c (d + l.1)).isEmpty <;> simp
  constructor
  · rintro ⟨h1, h2⟩
    have he : ∀ x ∈ ls, mkL a b c ns x.1 = x.2 := fun x hx => of_decide_eq_true (h2 x hx)
    refine ⟨fun d hd => ?_, fun x hx => ?_⟩
    · rw [posG_gearL, Bool.and_eq_true, List.all_eq_true]
      refine ⟨(ne_iff d).mp (h1 d hd), fun x hx => ?_⟩
      rw [List.all_eq_true]
      rintro ⟨s, k⟩ hp
      rw [← he x hx]
      rcases mp_01 hp with q | q
      · have q : s = 0 := q
        subst q
        exact inS0.mpr (mkL_mem0.mpr ⟨d, hd, hp⟩)
      · have q : s = 1 := q
        subst q
        exact inS1.mpr (mkL_mem1.mpr ⟨d, hd, hp⟩)
    · rw [← he x hx]
      exact ⟨fun k hk => mkL_mem0.mp hk, fun k hk => mkL_mem1.mp hk⟩
  · rintro ⟨h1, h2⟩
    refine ⟨fun d hd => (ne_iff d).mpr ?_, fun x hx => decide_eq_true ?_⟩
    · have := h1 d hd
      rw [posG_gearL, Bool.and_eq_true] at this
      exact this.1
    · have hh := w.hs x hx
      have mem : ∀ d ∈ ns, ∀ p ∈ mp a b c (d + x.1), inS x.2 p = true := fun d hd p hp => by
        have := h1 d hd
        rw [posG_gearL, Bool.and_eq_true, List.all_eq_true] at this
        exact List.all_eq_true.mp (this.2 x hx) p hp
      refine Prod.ext ?_ ?_
      · refine rise_eq (mkS_row r.pa).pw hh.ru.pw fun k => ?_
        rw [mkL_mem0]
        exact ⟨fun ⟨d, hd, q⟩ => inS0.mp (mem d hd _ q), fun hk => (h2 x hx).1 k hk⟩
      · refine rise_eq (mkS_row r.pb).pw hh.rv.pw fun k => ?_
        rw [mkL_mem1]
        exact ⟨fun ⟨d, hd, q⟩ => inS1.mp (mem d hd _ q), fun hk => (h2 x hx).2 k hk⟩
/-- all that are possible -/
theorem law_everyL (r : SR4 a b c e) (w : LOk a b c ls) : (ls.all fun l => decide (mkL a b c (posL a b c e ls) l.1 = l.2)) = fitG (ls.map (gearL a b c)) (posL a b c e ls) := by
  rw [← law_fitL r w]
  unfold lawfitL
  have : ((posL a b c e ls).any fun d => ls.all fun l => (mp a b c (d + l.1)).isEmpty) = false := by
    rw [List.any_eq_false]
    intro d hd
    have := (kept_mem.mp hd).2
    rw [posG_gearL, Bool.and_eq_true] at this
    have := this.1
    rw [← List.not_all_eq_any_not] at this
    simpa using this
  rw [this]
  rfl
theorem LOk.rev (w : LOk a b c ls) : LOk a b c ls.reverse := ⟨by rw [List.length_reverse]; exact w.l1, by rw [List.length_reverse]; exact w.l2, fun l hl => w.hs l (List.mem_reverse.mp hl), fun l hl => w.sh l (List.mem_reverse.mp hl)⟩
theorem posG_rev : posG (ls.reverse.map (gearL a b c)) = posG (ls.map (gearL a b c)) := by
  funext d
  rw [posG_gearL, posG_gearL, List.any_reverse, List.all_reverse]
theorem posL_rev : posL a b c e ls.reverse = posL a b c e ls := by
  show kept (posG (ls.reverse.map (gearL a b c))) e = _
  rw [posG_rev]
theorem fitG_rev : fitG (ls.reverse.map (gearL a b c)) ns = fitG (ls.map (gearL a b c)) ns := by
  rw [Bool.eq_iff_iff, fitL_iff, fitL_iff, posG_rev]
  simp only [List.mem_reverse]
theorem ldofit_ok {k : Nat} (r : SR4 a b c e) (w : LOk a b c ls) (hl : ns.length ≤ 60) {C : Cells} {P : D → Cells → Prop} (hp : PoolAt k C) (h : ∀ C', Gr k C C' → P (.bl (fitG (ls.map (gearL a b c)) ns)) C') : Ok (m_law_do_fit [.lst ((ls.map fun l => (((a, b, c) : S3), l.1, l.2)).map (earD e)), .tup (ns.map D.int)]) C P := by
  rw [← law_fitL r w] at h
  unfold lawfitL at h
  have em : (ls.map fun l => (((a, b, c) : S3), l.1, l.2)).map (earD e) = ls.map fun l => earD e (((a, b, c) : S3), l.1, l.2) := by rw [List.map_map]; rfl
  rw [em]
  simp -implicitDefEqProofs only [m_law_do_fit, b_law_do_fit, Ok_fnD]
  simp -implicitDefEqProofs [-List.map_map]
  refine lc_maps (f := D.int) (k := fun d => .bl (ls.all fun l => (mp a b c (d + l.1)).isEmpty)) (fun d hd => ?_) ?_
  · simp -implicitDefEqProofs [-List.map_map]
    refine lc_maps (k := fun l : PG => .bl (mp a b c (d + l.1)).isEmpty) (fun x hx => ?_) ?_
    · simp -implicitDefEqProofs [-List.map_map, earD, sD, lmarks_ok r]
      rw [oEq_nil mp_ok59]
      simp -implicitDefEqProofs
    rw [oAllB fun l : PG => (mp a b c (d + l.1)).isEmpty]
    exact ⟨rfl, rfl⟩
  rw [oAnyB fun d : Int => ls.all fun l => (mp a b c (d + l.1)).isEmpty]
  simp -implicitDefEqProofs only [truth_bl, opt_some]
  refine iff2_of (fun q => ?_) fun q => ?_
  · have := h C (Gr.refl hp)
    rw [q] at this
    simpa using this
  · refine lc_grow (k := fun l : PG => .bl (decide (mkL a b c ns l.1 = l.2))) hp (fun x hx C1 g1 => ?_) fun C1 g1 => ?_
    · simp -implicitDefEqProofs [-List.map_map, earD, sD]
      refine lmakes_ok r g1.pool (by omega) .tup fun C3 g3 => ?_
      have : two (mkS a c (ns.map (· + x.1))) (mkS b c (ns.map (· + x.1))) = hD (mkL a b c ns x.1) := rfl
      rw [this, eq_hD]
      exact ⟨g1.trans g3, rfl⟩
    · rw [oAllB fun l : PG => decide (mkL a b c ns l.1 = l.2)]
      have := h C1 g1
      rw [q] at this
      simpa using this
end Law

namespace Law
open PySem L2 DL
def tL (l : List Int) : D := .tup (l.map D.int)
theorem cut_map (xs : List Int) (lo hi : Option Int) : cutL (xs.map D.int) lo hi = (cutL xs lo hi).map D.int := by
  unfold cutL
  rw [List.length_map, ← List.map_drop, ← List.map_take]
theorem cut_row {lo hi : Int} {xs : List Int} (h : RowOk lo hi xs) (i j : Option Int) : RowOk lo hi (cutL xs i j) := by
  unfold cutL
  exact (h.drop _).take _
theorem row_len {e : Int} {l : List Int} (h : RowOk 0 (e - 1) l) : l.length ≤ e.toNat := by
  rw [← dl_len e]
  refine subG_len (h.pw.imp fun h => Int.ne_of_lt h) fun n hn => ?_
  have := h.bd n hn
  unfold dl
  exact List.mem_map.mpr ⟨n.toNat, List.mem_range.mpr (by omega), by omega⟩
theorem neq_bl {C : Cells} (b : Bool) : oNe C (.bl b) (.bl b) = some (.bl false) := by cases b <;> rfl
def spF (p : Int → Bool) : D → Option D
  | .int n => if p n then some (.int n) else none
  | _ => none
theorem spF_eq (p : Int → Bool) (xs : List Int) : (xs.map D.int).filterMap (spF p) = (xs.filter p).map D.int := by
  induction xs with
  | nil => rfl
  | cons x xs ih =>
    rw [List.map_cons, List.filterMap_cons, List.filter_cons]
    cases q : p x <;> simp [spF, q, ih]
theorem right_ok {k : Nat} {C : Cells} {P : D → Cells → Prop} (hp : PoolAt k C) (h : ∀ C', Gr k C C' → P (.bl true) C') : Ok (m_law_right [.hnd k]) C P := by
  simp -implicitDefEqProofs only [m_law_right, b_law_right, Ok_fnD]
  simp -implicitDefEqProofs
  refine for_inv (fun ρ C3 => ∃ x1 x2 x3 x4 x5 x6 x7 x8 x9 x10 x11 x12 x13 x14, ρ = [some (D.hnd k), x1, x2, x3, x4, x5, x6, x7, x8, x9, x10, x11, x12, x13, x14, none, none, none] ∧ Gr k C C3) ⟨none, none, none, none, none, none, none, none, none, none, none, none, none, none, rfl, Gr.refl hp⟩ ?_ ?_
  · rintro d ρ C3 hd ⟨x1, x2, x3, x4, x5, x6, x7, x8, x9, x10, x11, x12, x13, x14, rfl, g3⟩ J hJ
    obtain ⟨lap, rfl, l0, l1⟩ := mem_rg hd
    simp -implicitDefEqProofs
    refine sounder_pool2 g3.pool (by omega) (by omega) (by omega) (by omega) fun a b c e C4 r _ _ e50 g4 => ?_
    have g34 := g3.trans g4
    have e1 := r.e1
    try simp -implicitDefEqProofs [-List.map_map]
    refine llooks_ok r (by omega) (by omega) g34.pool fun ls ns C5 g5 w l3 rn ln => ?_
    have g35 := g34.trans g5
    simp -implicitDefEqProofs [-List.map_map]
    refine lears_ok ?_
    simp -implicitDefEqProofs only [SS_ix3, opt_some]
    have gl : (ls.map fun l => (((a, b, c) : S3), l.1, l.2)).map gear3 = ls.map (gearL a b c) := by rw [List.map_map]; rfl
    try simp -implicitDefEqProofs [-List.map_map]
    refine lpos_ok (ls := ls.map fun l => (((a, b, c) : S3), l.1, l.2)) (fun l hl => ?_) r.e1 r.e2 g35.pool fun m C6 g6 hm cm => ?_
    · obtain ⟨x, hx, rfl⟩ := List.mem_map.mp hl
      exact r
    rw [gl] at cm
    have g36 := g35.trans g6
    rw [oTuple_hnd cm, opt_some]
    obtain ⟨E, hE⟩ : ∃ E, E = posL a b c e ls := ⟨_, rfl⟩
    have hEr : RowOk 0 (e - 1) E := hE ▸ kept_row _ (by omega)
    have rw50 : ∀ {l : List Int}, RowOk 0 (e - 1) l → l.length ≤ 50 := fun h => Nat.le_trans (row_len h) (by omega)
    have lot_ : ∀ {l : List Int}, RowOk 0 (e - 1) l → Lot e l := fun h => ⟨h, Nat.le_trans (rw50 h) (by omega)⟩
    rw [show kept (posG (ls.map (gearL a b c))) e = E from hE.symm]
    simp -implicitDefEqProofs [-List.map_map]
    refine posshift_ok r w ?_
    try simp -implicitDefEqProofs [-List.map_map]
    refine canshift_ok r w ?_
    try simp -implicitDefEqProofs [-List.map_map]
    rw [← hE]
    refine lc_grow (k := fun l : PG => .bl (decide (mkL a b c E l.1 = l.2))) g36.pool (fun x hx C7 g7 => ?_) fun C7 g7 => ?_
    · simp -implicitDefEqProofs [-List.map_map, gD]
      refine lmakes_ok r g7.pool (by have := rw50 hEr; omega) .tup fun C8 g8 => ?_
      have : two (mkS a c (E.map (· + x.1))) (mkS b c (E.map (· + x.1))) = hD (mkL a b c E x.1) := rfl
      rw [this, eq_hD]
      exact ⟨g7.trans g8, rfl⟩
    have g37 := g36.trans g7
    have lv : (ls.all fun l => decide (mkL a b c E l.1 = l.2)) = fitG (ls.map (gearL a b c)) E := by rw [hE]; exact law_everyL r w
    rw [oAllB fun l : PG => decide (mkL a b c E l.1 = l.2), opt_some, lv]
    try simp -implicitDefEqProofs [-List.map_map]
    refine same_nest 11 (.tup [.tup (E.map D.int), .bl (fitG (ls.map (gearL a b c)) E)]) _ _ (by
      show (nest 10 (.tup (E.map D.int)) && (true && true)) = true
      rw [nest_ints 9]
      rfl) ?_
    simp -implicitDefEqProofs only [truth_bl, opt_some, iff2_t]
    simp -implicitDefEqProofs only [← List.map_reverse]
    refine posshift_ok (ls := ls.reverse) r w.rev ?_
    rw [posL_rev, ← hE, oNe_tup]
    simp -implicitDefEqProofs only [decide_true, Bool.not_true, Option.bind_some, bl_of, opt_some, iff2_f]
    refine canshift_ok (ls := ls.reverse) r w.rev ?_
    rw [posL_rev, ← hE, fitG_rev, neq_bl]
    simp -implicitDefEqProofs only [Option.bind_some, bl_of, opt_some, iff2_f, SS_ix3]
    refine below_ok g37.pool (by omega) (by omega) fun nw C8 w0 w1 g8 => ?_
    have g38 := g37.trans g8
    try simp -implicitDefEqProofs [-List.map_map]
    rw [cut_map, oAdd_tup (by simp; have := rw50 hEr; omega), opt_some, snoc_map]
    have dE : RowOk 0 (e - 1) (dsort (E ++ [nw])) := .dsort (bd_snoc hEr.bd w0 (by omega))
    rw [oSset2_ok rfl (by have := rw50 dE; omega) (by simp; have := rw50 hEr; omega), opt_some]
    try simp -implicitDefEqProofs [-List.map_map]
    refine lc_map (spF fun d => !decide (d = nw)) (fun x hx => ?_) _ _ (fun _ h => h) ?_
    · obtain ⟨n, _, rfl⟩ := List.mem_map.mp hx
      simp -implicitDefEqProofs [spF]
      by_cases q : n = nw <;> simp [q]
    rw [List.nil_append, spF_eq]
    try simp -implicitDefEqProofs [-List.map_map]
    refine lot_ok r.e1 r.e2 (by omega) (by omega) g38.pool fun l6 C9 g9 rl6 ll6 => ?_
    have g39 := g38.trans g9
    try simp -implicitDefEqProofs [-List.map_map]
    obtain ⟨lots, hlots⟩ : ∃ lots : List (List Int), lots = [ns, E, cutL E (some 1) none, dsort (E ++ [nw]), E.filter fun d => !decide (d = nw), l6, []] := ⟨_, rfl⟩
    have el : [D.tup (ns.map D.int), .tup (E.map D.int), .tup ((cutL E (some 1) none).map D.int), .tup ((dsort (E ++ [nw])).map D.int), .tup ((E.filter fun d => !decide (d = nw)).map D.int), .tup (l6.map D.int), .tup []] = lots.map tL := by rw [hlots]; rfl
    rw [el]
    have hlo : ∀ l ∈ lots, Lot e l := by
      rw [hlots]
      intro l hl
      simp only [List.mem_cons, List.not_mem_nil, or_false] at hl
      rcases hl with rfl | rfl | rfl | rfl | rfl | rfl | rfl
      · exact lot_ rn
      · exact lot_ hEr
      · exact lot_ (cut_row hEr _ _)
      · exact lot_ dE
      · exact lot_ (hEr.filter _)
      · exact lot_ rl6
      · exact ⟨⟨List.Pairwise.nil, fun _ h => nomatch h⟩, by simp⟩
    clear hlots el
    refine for_inv (fun ρ C' => ∃ (y5 y6 y8 y13 y14 : Option D), ρ = [some (D.hnd k), some (.int lap), some (SS a b c e), some (.lst ((ls.map fun l => (((a, b, c) : S3), l.1, l.2)).map (earD e))), some (.tup (E.map D.int)), y5, y6, some (.int nw), y8, x9, x10, some (.tup (ls.map gD)), some (.tup (ns.map D.int)), y13, y14, none, none, none] ∧ Gr k C C') ⟨_, _, _, _, _, rfl, g39⟩ ?_ ?_
    · rintro z ρ C9 hz ⟨y5, y6, y8, y13, y14, rfl, g⟩ J2 hJ2
      obtain ⟨l, hlm, rfl⟩ := List.mem_map.mp hz
      have hl := hlo l hlm
      have oln : ∀ C, oLen C [tL l] = some (.int l.length) := fun C => by
        show some (D.int ((l.map D.int).length : Int)) = _
        rw [List.length_map]
      have l61 : decide ((l.length : Int) < 61) = true := decide_eq_true (by have := hl.len; omega)
      simp -implicitDefEqProofs [-List.map_map]
      refine ldofit_ok r w hl.len g.pool fun C10 g10 => ?_
      try simp -implicitDefEqProofs [-List.map_map]
      refine fitshift_ok r w hl ?_
      rw [oln]
      simp -implicitDefEqProofs [-List.map_map, l61]
      refine same_nest 11 (.bl _) _ _ rfl ?_
      simp -implicitDefEqProofs [-List.map_map]
      exact hJ2 _ _ ⟨_, _, _, _, _, rfl, g.trans g10⟩
    rintro ρ C9 ⟨y5, y6, y8, y13, y14, rfl, g⟩
    try simp -implicitDefEqProofs [-List.map_map]
    exact hJ _ _ ⟨_, _, _, _, _, _, _, _, _, _, _, _, _, _, rfl, g⟩
  · rintro ρ C3 ⟨x1, x2, x3, x4, x5, x6, x7, x8, x9, x10, x11, x12, x13, x14, rfl, g3⟩
    have r1 : SR4 3 5 1 15 := by constructor <;> decide
    have r0 : SR4 3 5 0 15 := by constructor <;> decide
    have w1 : LOk 3 5 1 [(0, ([1], [1])), (1, ([2], [2]))] := by
      refine ⟨by decide, by decide, fun x hx => ?_, fun x hx => ?_⟩
      · simp only [List.mem_cons, List.not_mem_nil, or_false] at hx
        rcases hx with rfl | rfl <;> exact ⟨⟨by decide, by decide⟩, ⟨by decide, by decide⟩, by decide, by decide⟩
      · simp only [List.mem_cons, List.not_mem_nil, or_false] at hx
        rcases hx with rfl | rfl <;> decide
    have w0 : LOk 3 5 0 [(0, ([1, 2], [3, 4])), (3, ([0], []))] := by
      refine ⟨by decide, by decide, fun x hx => ?_, fun x hx => ?_⟩
      · simp only [List.mem_cons, List.not_mem_nil, or_false] at hx
        rcases hx with rfl | rfl <;> exact ⟨⟨by decide, by decide⟩, ⟨by decide, by decide⟩, by decide, by decide⟩
      · simp only [List.mem_cons, List.not_mem_nil, or_false] at hx
        rcases hx with rfl | rfl <;> decide
    simp -implicitDefEqProofs
    refine posshift_ok (ls := [(0, ([1], [1])), (1, ([2], [2]))]) r1 w1 ?_
    try simp -implicitDefEqProofs
    refine fitshift_ok (ls := [(0, ([1], [1])), (1, ([2], [2]))]) (ns := [1]) r1 w1 ⟨⟨by decide, by decide⟩, by decide⟩ ?_
    try simp -implicitDefEqProofs
    refine canshift_ok (ls := [(0, ([1, 2], [3, 4])), (3, ([0], []))]) r0 w0 ?_
    rw [show posL 3 5 1 15 [(0, ([1], [1])), (1, ([2], [2]))] = [1] by decide +kernel]
    rw [show fitG [gearL 3 5 1 (0, ([1], [1])), gearL 3 5 1 (1, ([2], [2]))] [1] = true by decide +kernel]
    rw [show fitG (([(0, ([1, 2], [3, 4])), (3, ([0], []))] : List PG).map (gearL 3 5 0)) (posL 3 5 0 15 [(0, ([1, 2], [3, 4])), (3, ([0], []))]) = false by decide +kernel]
    try simp -implicitDefEqProofs
    refine same_nest 11 (.tup [.tup [.int 1], .bl true, .bl false]) _ _ rfl ?_
    exact h _ g3
theorem plain : ∀ ns : List Int, ns.length ≤ 63 → ∃ C, m_law [.scr (ns.map D.int)] [] = .ok (.bl true, C) := by
  intro ns hn
  have main : Ok (m_law [.scr (ns.map D.int)]) [] fun x _ => x = .bl true := by
    simp -implicitDefEqProofs only [m_law, b_law, Ok_fnD]
    simp -implicitDefEqProofs [-List.map_map]
    rw [if_pos (by omega)]
    simp -implicitDefEqProofs [-List.map_map]
    refine lc_ok (fun xs acc C => ∃ n : Nat, acc = (List.replicate n true).map D.bl) ?_ ?_ _ _ _ (fun _ h => h) ⟨0, rfl⟩
    · rintro d xs acc C hd ⟨n, rfl⟩ J hJ
      obtain ⟨lap, rfl, h0, _⟩ := mem_rg hd
      simp -implicitDefEqProofs [-List.map_map]
      refine pool_ok hn h0 fun C' hp => ?_
      refine right_ok hp fun C2 g => ?_
      exact hJ _ _ ⟨n + 1, by rw [List.replicate_succ']; simp⟩
    · rintro acc C ⟨n, rfl⟩
      rw [oAll_ok, opt_some]
      simp
  obtain ⟨x, C', e, rfl⟩ := main.ex
  exact ⟨C', e⟩
end Law

namespace Law
open PySem L2 DL
section
variable {P : Program} {w : World} {K : PySem.W.Frag} {mg : Str → Option Value} {base : Heap} {t_LEAST_PERIOD t_MOST_DELAYS t_MOST_LOOKS t_MOST_PERIOD t_MOST_RANGE t_MOST_RESTS t_MOST_SHIFT t_SOUNDER_SIZE : Tok}
open PyProof.Rows (envOfC)
theorem sc_law_same : FnScope ["told", "due", "key", "x", "y"] ["told", "due"] (defScope s_law_same) := ⟨rfl, rfl, rfl, by decide +kernel, rfl, by decide +kernel, by decide +kernel⟩
theorem ok_law_same {f : Addr} {fd : FuncData} (d : Def K mg "_law_same" s_law_same ["told", "due"] f fd) (T : Nm K mg t_LEAST_PERIOD t_MOST_DELAYS t_MOST_LOOKS t_MOST_PERIOD t_MOST_RANGE t_MOST_RESTS t_MOST_SHIFT t_SOUNDER_SIZE) : ∀ k : Nat, Cal P w K mg base "_law_same" s_law_same ["told", "due"] (0 + k) 2 (m_law_same k)
  | 0 => ⟨f, fd, fn_bad (x := "_law_same") (qual := "_law_same") (st := s_law_same), d⟩
  | k + 1 => by
    have c_law_same := ok_law_same d T  k
    show Cal P w K mg base "_law_same" s_law_same ["told", "due"] (0 + k + 1) 2 (fnD 5 (b_law_same (m_law_same k)))
    refine cal_of d sc_law_same rfl rfl fun cdv A outer s H E hr => ?_
    have tk : Tk (cxOf (L2.CX P w) P w K mg base ["told", "due", "key", "x", "y"] "_law_same" (defScope s_law_same) f cdv A outer s H E) (fun c d _ H => E c d H) := tk_of (takes_of rfl rfl rfl rfl)
    have pw : PassesOwn (model P w) (cxOf (L2.CX P w) P w K mg base ["told", "due", "key", "x", "y"] "_law_same" (defScope s_law_same) f cdv A outer s H E).A (cxOf (L2.CX P w) P w K mg base ["told", "due", "key", "x", "y"] "_law_same" (defScope s_law_same) f cdv A outer s H E).env (cxOf (L2.CX P w) P w K mg base ["told", "due", "key", "x", "y"] "_law_same" (defScope s_law_same) f cdv A outer s H E).xe := passes_of rfl
    have u64 := hr.units
    have u65 := room65 hr
    have nd := sc_law_same.nd
    exact (ds_cons (ds_if (dt_cmp r_isN (de_var (i := 1)) de_non) (ds_cons (ds_ret (de_cmp r_isN (de_var (i := 0)) de_non)) ds_nil) ds_nil)
      (ds_cons (ds_if (dt_truth (de_blt (c_isi .n2) (by rfl) T.n_isinstance (by decide +kernel) (da_cons (de_var (i := 1)) (da_cons (de_ty (by rfl) T.n_bool (by decide +kernel)) da_nil)))) (ds_cons (ds_ret (de_and (de_blt (c_isi .n2) (by rfl) T.n_isinstance (by decide +kernel) (da_cons (de_var (i := 0)) (da_cons (de_ty (by rfl) T.n_bool (by decide +kernel)) da_nil))) (de_one (de_cmp (r_eq u64) (de_var (i := 0)) (de_var (i := 1)))))) ds_nil) ds_nil)
      (ds_cons (ds_if (dt_truth (de_blt (c_isi .n1) (by rfl) T.n_isinstance (by decide +kernel) (da_cons (de_var (i := 1)) (da_cons (de_ty (by rfl) T.n_int (by decide +kernel)) da_nil)))) (ds_cons (ds_ret (de_and (de_blt (c_isi .n1) (by rfl) T.n_isinstance (by decide +kernel) (da_cons (de_var (i := 0)) (da_cons (de_ty (by rfl) T.n_int (by decide +kernel)) da_nil))) (de_and (de_not (de_blt (c_isi .n2) (by rfl) T.n_isinstance (by decide +kernel) (da_cons (de_var (i := 0)) (da_cons (de_ty (by rfl) T.n_bool (by decide +kernel)) da_nil)))) (de_one (de_cmp (r_eq u64) (de_var (i := 0)) (de_var (i := 1))))))) ds_nil) ds_nil)
      (ds_cons (ds_if (dt_truth (de_blt (c_isi .n3) (by rfl) T.n_isinstance (by decide +kernel) (da_cons (de_var (i := 1)) (da_cons (de_ty (by rfl) T.n_str (by decide +kernel)) da_nil)))) (ds_cons (ds_ret (de_and (de_blt (c_isi .n3) (by rfl) T.n_isinstance (by decide +kernel) (da_cons (de_var (i := 0)) (da_cons (de_ty (by rfl) T.n_str (by decide +kernel)) da_nil))) (de_one (de_cmp (r_eq u64) (de_var (i := 0)) (de_var (i := 1)))))) ds_nil) ds_nil)
      (ds_cons (ds_if (dt_truth (de_blt (c_isi .n6) (by rfl) T.n_isinstance (by decide +kernel) (da_cons (de_var (i := 1)) (da_cons (de_ty (by rfl) T.n_dict (by decide +kernel)) da_nil)))) (ds_cons (ds_if (PW.pt (dw_or (dt_not (dt_truth (de_blt (c_isi .n6) (by rfl) T.n_isinstance (by decide +kernel) (da_cons (de_var (i := 0)) (da_cons (de_ty (by rfl) T.n_dict (by decide +kernel)) da_nil))))) (dw_or1 (dt_cmp (r_ne u64) (de_blt c_len (by rfl) T.n_len (by decide +kernel) (da_cons (de_var (i := 0)) da_nil)) (de_blt c_len (by rfl) T.n_len (by decide +kernel) (da_cons (de_var (i := 1)) da_nil)))))) (ds_cons (ds_ret de_bl) ds_nil) ds_nil)
      (ds_cons (ds_ret (de_blt (c_all rfl) (by rfl) T.n_all (by decide +kernel) (da_cons (de_lc [("key", 2)] rfl nd (di_seq (de_var (i := 1))) (fun _ _ _ _ _ => (dg_name nd)) (fun _ _ _ _ _ => dts_nil) (fun _ _ _ _ _ => (de_and (de_cmp (r_in u65) (de_var (i := 2)) (de_var (i := 0))) (de_one (cc c_law_same hr tk0 (da_cons (de_ix r_ix (de_var (i := 0)) (de_var (i := 2))) (da_cons (de_ix r_ix (de_var (i := 1)) (de_var (i := 2))) da_nil)) (Nat.le_refl _))))) (ok := by show blkC ["told", "due", "key", "x", "y"] (defScope s_law_same) _ [("key", 2)] = true; decide +kernel)) da_nil))) ds_nil)) ds_nil)
      (ds_cons (ds_if (PW.pt (dw_or (dt_cmp (r_ne u64) (de_blt (c_isi .n4) (by rfl) T.n_isinstance (by decide +kernel) (da_cons (de_var (i := 1)) (da_cons (de_ty (by rfl) T.n_tuple (by decide +kernel)) da_nil))) (de_blt (c_isi .n4) (by rfl) T.n_isinstance (by decide +kernel) (da_cons (de_var (i := 0)) (da_cons (de_ty (by rfl) T.n_tuple (by decide +kernel)) da_nil)))) (dw_or1 (dt_cmp (r_ne u64) (de_blt (c_isi .n5) (by rfl) T.n_isinstance (by decide +kernel) (da_cons (de_var (i := 1)) (da_cons (de_ty (by rfl) T.n_list (by decide +kernel)) da_nil))) (de_blt (c_isi .n5) (by rfl) T.n_isinstance (by decide +kernel) (da_cons (de_var (i := 0)) (da_cons (de_ty (by rfl) T.n_list (by decide +kernel)) da_nil))))))) (ds_cons (ds_ret de_bl) ds_nil) ds_nil)
      (ds_cons (ds_ret (de_and (de_cmp (r_eq u64) (de_blt c_len (by rfl) T.n_len (by decide +kernel) (da_cons (de_var (i := 0)) da_nil)) (de_blt c_len (by rfl) T.n_len (by decide +kernel) (da_cons (de_var (i := 1)) da_nil))) (de_one (de_blt (c_all rfl) (by rfl) T.n_all (by decide +kernel) (da_cons (de_lc [("x", 3), ("y", 4)] rfl nd (di_zip T.n_zip (da_cons (de_var (i := 0)) (da_cons (de_var (i := 1)) da_nil))) (fun _ _ _ _ _ => (dg_tup rfl (dgs_cons (dg_name nd) (dgs_cons (dg_name nd) dgs_nil)))) (fun _ _ _ _ _ => dts_nil) (fun _ _ _ _ _ => (cc c_law_same hr tk0 (da_cons (de_var (i := 3)) (da_cons (de_var (i := 4)) da_nil)) (Nat.le_refl _))) (ok := by show blkC ["told", "due", "key", "x", "y"] (defScope s_law_same) _ [("x", 3), ("y", 4)] = true; decide +kernel)) da_nil))))) ds_nil)))))))
theorem sc_law_below : FnScope ["pool", "many", "stirred", "figure"] ["pool", "many"] (defScope s_law_below) := ⟨rfl, rfl, rfl, by decide +kernel, rfl, by decide +kernel, by decide +kernel⟩
theorem ok_law_below {f : Addr} {fd : FuncData} (d : Def K mg "_law_below" s_law_below ["pool", "many"] f fd) (T : Nm K mg t_LEAST_PERIOD t_MOST_DELAYS t_MOST_LOOKS t_MOST_PERIOD t_MOST_RANGE t_MOST_RESTS t_MOST_SHIFT t_SOUNDER_SIZE) : Cal P w K mg base "_law_below" s_law_below ["pool", "many"] 1 2 m_law_below := by
  show Cal P w K mg base "_law_below" s_law_below ["pool", "many"] (0 + 1) 2 (fnD 4 b_law_below)
  refine cal_of d sc_law_below rfl rfl fun cdv A outer s H E hr => ?_
  have tk : Tk (cxOf (L2.CX P w) P w K mg base ["pool", "many", "stirred", "figure"] "_law_below" (defScope s_law_below) f cdv A outer s H E) (fun c d _ H => E c d H) := tk_of (takes_of rfl rfl rfl rfl)
  have pw : PassesOwn (model P w) (cxOf (L2.CX P w) P w K mg base ["pool", "many", "stirred", "figure"] "_law_below" (defScope s_law_below) f cdv A outer s H E).A (cxOf (L2.CX P w) P w K mg base ["pool", "many", "stirred", "figure"] "_law_below" (defScope s_law_below) f cdv A outer s H E).env (cxOf (L2.CX P w) P w K mg base ["pool", "many", "stirred", "figure"] "_law_below" (defScope s_law_below) f cdv A outer s H E).xe := passes_of rfl
  have u64 := hr.units
  have u65 := room65 hr
  have nd := sc_law_below.nd
  exact (ds_cons (ds_if (dt_cmp r_gt (de_ix r_ix (de_var (i := 0)) de_int) de_int) (ds_cons (ds_asg (de_blt c_divm (by rfl) T.n_divmod (by decide +kernel) (da_cons (de_ix r_ix (de_var (i := 0)) de_int) (da_cons (de_var (i := 1)) da_nil))) (dg_tup rfl (dgs_cons (dg_sub (de_var (i := 0)) de_int) (dgs_cons (dg_name nd) dgs_nil))) (ne_tup (ne_cons ne_sub (ne_cons ne_name ne_nil))))
    (ds_cons (ds_ret (de_var (i := 3))) ds_nil)) ds_nil)
    (ds_cons (ds_asg (de_bin r_add (de_ix r_ix (de_var (i := 0)) de_int) de_int) (dg_sub (de_var (i := 0)) de_int) ne_sub)
    (ds_cons (ds_set nd (de_bin r_mod (de_bty c_int (by rfl) T.n_int (by decide +kernel) (da_cons (de_bin r_add (de_bin r_add (de_bin r_mul (de_ix r_ix (de_var (i := 0)) de_int) de_int) (de_bin r_mul de_int (de_ix r_ix (de_var (i := 0)) de_int))) de_int) da_nil)) de_int))
    (ds_cons (ds_asg (de_bin r_mod (de_bty c_int (by rfl) T.n_int (by decide +kernel) (da_cons (de_bin r_add (de_bin r_mul (de_var (i := 2)) (de_bin r_add (de_bin r_mod (de_bty c_int (by rfl) T.n_int (by decide +kernel) (da_cons (de_var (i := 2)) da_nil)) de_int) de_int)) (de_ix r_ix (de_var (i := 0)) de_int)) da_nil)) de_int) (dg_sub (de_var (i := 0)) de_int) ne_sub)
    (ds_cons (ds_ret (de_bin r_mod (de_bty c_int (by rfl) T.n_int (by decide +kernel) (da_cons (de_bin r_fdv (de_ix r_ix (de_var (i := 0)) de_int) de_int) da_nil)) (de_var (i := 1)))) ds_nil)))))
theorem sc_law_one : FnScope ["pool", "some"] ["pool", "some"] (defScope s_law_one) := ⟨rfl, rfl, rfl, by decide +kernel, rfl, by decide +kernel, by decide +kernel⟩
theorem ok_law_one {f : Addr} {fd : FuncData} (d : Def K mg "_law_one" s_law_one ["pool", "some"] f fd) (T : Nm K mg t_LEAST_PERIOD t_MOST_DELAYS t_MOST_LOOKS t_MOST_PERIOD t_MOST_RANGE t_MOST_RESTS t_MOST_SHIFT t_SOUNDER_SIZE) (c_law_below : Cal P w K mg base "_law_below" s_law_below ["pool", "many"] 1 2 m_law_below) : Cal P w K mg base "_law_one" s_law_one ["pool", "some"] 2 2 m_law_one := by
  show Cal P w K mg base "_law_one" s_law_one ["pool", "some"] (1 + 1) 2 (fnD 2 b_law_one)
  refine cal_of d sc_law_one rfl rfl fun cdv A outer s H E hr => ?_
  have tk : Tk (cxOf (L2.CX P w) P w K mg base ["pool", "some"] "_law_one" (defScope s_law_one) f cdv A outer s H E) (fun c d _ H => E c d H) := tk_of (takes_of rfl rfl rfl rfl)
  have pw : PassesOwn (model P w) (cxOf (L2.CX P w) P w K mg base ["pool", "some"] "_law_one" (defScope s_law_one) f cdv A outer s H E).A (cxOf (L2.CX P w) P w K mg base ["pool", "some"] "_law_one" (defScope s_law_one) f cdv A outer s H E).env (cxOf (L2.CX P w) P w K mg base ["pool", "some"] "_law_one" (defScope s_law_one) f cdv A outer s H E).xe := passes_of rfl
  have u64 := hr.units
  have u65 := room65 hr
  have nd := sc_law_one.nd
  exact (ds_cons (ds_ret (de_ix r_ix (de_var (i := 1)) (cc c_law_below hr tk (da_cons (de_var (i := 0)) (da_cons (de_blt c_len (by rfl) T.n_len (by decide +kernel) (da_cons (de_var (i := 1)) da_nil)) da_nil))))) ds_nil)
theorem sc_law_sounder : FnScope ["pool", "high", "far", "p", "q"] ["pool", "high", "far"] (defScope s_law_sounder) := ⟨rfl, rfl, rfl, by decide +kernel, rfl, by decide +kernel, by decide +kernel⟩
theorem ok_law_sounder {f : Addr} {fd : FuncData} (d : Def K mg "_law_sounder" s_law_sounder ["pool", "high", "far"] f fd) (T : Nm K mg t_LEAST_PERIOD t_MOST_DELAYS t_MOST_LOOKS t_MOST_PERIOD t_MOST_RANGE t_MOST_RESTS t_MOST_SHIFT t_SOUNDER_SIZE) (c_law_below : Cal P w K mg base "_law_below" s_law_below ["pool", "many"] 1 2 m_law_below) (c_law_one : Cal P w K mg base "_law_one" s_law_one ["pool", "some"] 2 2 m_law_one) : Cal P w K mg base "_law_sounder" s_law_sounder ["pool", "high", "far"] 3 3 m_law_sounder := by
  show Cal P w K mg base "_law_sounder" s_law_sounder ["pool", "high", "far"] (2 + 1) 3 (fnD 5 b_law_sounder)
  refine cal_of d sc_law_sounder rfl rfl fun cdv A outer s H E hr => ?_
  have tk : Tk (cxOf (L2.CX P w) P w K mg base ["pool", "high", "far", "p", "q"] "_law_sounder" (defScope s_law_sounder) f cdv A outer s H E) (fun c d _ H => E c d H) := tk_of (takes_of rfl rfl rfl rfl)
  have pw : PassesOwn (model P w) (cxOf (L2.CX P w) P w K mg base ["pool", "high", "far", "p", "q"] "_law_sounder" (defScope s_law_sounder) f cdv A outer s H E).A (cxOf (L2.CX P w) P w K mg base ["pool", "high", "far", "p", "q"] "_law_sounder" (defScope s_law_sounder) f cdv A outer s H E).env (cxOf (L2.CX P w) P w K mg base ["pool", "high", "far", "p", "q"] "_law_sounder" (defScope s_law_sounder) f cdv A outer s H E).xe := passes_of rfl
  have u64 := hr.units
  have u65 := room65 hr
  have nd := sc_law_sounder.nd
  exact (ds_cons (ds_par rfl nd (by decide) (da_cons (de_bin r_add de_int (cc c_law_below hr tk (da_cons (de_var (i := 0)) (da_cons (de_bin r_sub (de_var (i := 1)) de_int) da_nil)))) (da_cons (de_bin r_add de_int (cc c_law_below hr tk (da_cons (de_var (i := 0)) (da_cons (de_bin r_sub (de_var (i := 1)) de_int) da_nil)))) da_nil)))
    (ds_cons (ds_ret (de_tupN (n := 4) (da_cons (de_var (i := 3)) (da_cons (de_var (i := 4)) (da_cons (de_if (dt_cmp r_gt (de_blt (c_min2 rfl) (by rfl) T.n_min (by decide +kernel) (da_cons (de_var (i := 3)) (da_cons (de_var (i := 4)) da_nil))) de_int) (cc c_law_below hr tk (da_cons (de_var (i := 0)) (da_cons (cc c_law_one hr tk (da_cons (de_var (i := 0)) (da_cons (de_tupN (n := 3) (da_cons de_int (da_cons de_int (da_cons (de_blt (c_min2 rfl) (by rfl) T.n_min (by decide +kernel) (da_cons (de_var (i := 3)) (da_cons (de_var (i := 4)) da_nil))) da_nil))) (lenCons (lenCons (lenCons lenNil)))) da_nil))) da_nil))) de_int) (da_cons (de_bin r_add de_int (cc c_law_below hr tk (da_cons (de_var (i := 0)) (da_cons (de_var (i := 2)) da_nil)))) da_nil)))) (lenCons (lenCons (lenCons (lenCons lenNil)))))) ds_nil))
theorem sc_law_lot : FnScope ["pool", "far", "most", "found", "lap"] ["pool", "far", "most"] (defScope s_law_lot) := ⟨rfl, rfl, rfl, by decide +kernel, rfl, by decide +kernel, by decide +kernel⟩
theorem ok_law_lot {f : Addr} {fd : FuncData} (d : Def K mg "_law_lot" s_law_lot ["pool", "far", "most"] f fd) (T : Nm K mg t_LEAST_PERIOD t_MOST_DELAYS t_MOST_LOOKS t_MOST_PERIOD t_MOST_RANGE t_MOST_RESTS t_MOST_SHIFT t_SOUNDER_SIZE) (c_law_below : Cal P w K mg base "_law_below" s_law_below ["pool", "many"] 1 2 m_law_below) : Cal P w K mg base "_law_lot" s_law_lot ["pool", "far", "most"] 2 3 m_law_lot := by
  show Cal P w K mg base "_law_lot" s_law_lot ["pool", "far", "most"] (1 + 1) 3 (fnD 5 b_law_lot)
  refine cal_of d sc_law_lot rfl rfl fun cdv A outer s H E hr => ?_
  have tk : Tk (cxOf (L2.CX P w) P w K mg base ["pool", "far", "most", "found", "lap"] "_law_lot" (defScope s_law_lot) f cdv A outer s H E) (fun c d _ H => E c d H) := tk_of (takes_of rfl rfl rfl rfl)
  have pw : PassesOwn (model P w) (cxOf (L2.CX P w) P w K mg base ["pool", "far", "most", "found", "lap"] "_law_lot" (defScope s_law_lot) f cdv A outer s H E).A (cxOf (L2.CX P w) P w K mg base ["pool", "far", "most", "found", "lap"] "_law_lot" (defScope s_law_lot) f cdv A outer s H E).env (cxOf (L2.CX P w) P w K mg base ["pool", "far", "most", "found", "lap"] "_law_lot" (defScope s_law_lot) f cdv A outer s H E).xe := passes_of rfl
  have u64 := hr.units
  have u65 := room65 hr
  have nd := sc_law_lot.nd
  exact (ds_cons (ds_set nd (de_cellN (n := 0) da_nil lenNil))
    (ds_cons (ds_for pw rfl (di_r1 T.n_range (da_cons (cc c_law_below hr tk (da_cons (de_var (i := 0)) (da_cons (de_bin r_add (de_var (i := 2)) de_int) da_nil))) da_nil)) (dg_name nd) ne_name (ds_cons (ds_expr (de_app (de_var (i := 3)) (da_cons (cc c_law_below hr tk (da_cons (de_var (i := 0)) (da_cons (de_var (i := 1)) da_nil))) da_nil))) ds_nil))
    (ds_cons (ds_ret (de_bty c_tuple (by rfl) T.n_tuple (by decide +kernel) (da_cons (de_sset rfl T.n_sorted T.n_set (de_var (i := 3))) da_nil))) ds_nil)))
theorem sc_law_marks : FnScope ["sounder", "delay", "rests", "side", "rest"] ["sounder", "delay"] (defScope s_law_marks) := ⟨rfl, rfl, rfl, by decide +kernel, rfl, by decide +kernel, by decide +kernel⟩
theorem ok_law_marks {f : Addr} {fd : FuncData} (d : Def K mg "_law_marks" s_law_marks ["sounder", "delay"] f fd) (T : Nm K mg t_LEAST_PERIOD t_MOST_DELAYS t_MOST_LOOKS t_MOST_PERIOD t_MOST_RANGE t_MOST_RESTS t_MOST_SHIFT t_SOUNDER_SIZE) : Cal P w K mg base "_law_marks" s_law_marks ["sounder", "delay"] 1 2 m_law_marks := by
  show Cal P w K mg base "_law_marks" s_law_marks ["sounder", "delay"] (0 + 1) 2 (fnD 5 b_law_marks)
  refine cal_of d sc_law_marks rfl rfl fun cdv A outer s H E hr => ?_
  have tk : Tk (cxOf (L2.CX P w) P w K mg base ["sounder", "delay", "rests", "side", "rest"] "_law_marks" (defScope s_law_marks) f cdv A outer s H E) (fun c d _ H => E c d H) := tk_of (takes_of rfl rfl rfl rfl)
  have pw : PassesOwn (model P w) (cxOf (L2.CX P w) P w K mg base ["sounder", "delay", "rests", "side", "rest"] "_law_marks" (defScope s_law_marks) f cdv A outer s H E).A (cxOf (L2.CX P w) P w K mg base ["sounder", "delay", "rests", "side", "rest"] "_law_marks" (defScope s_law_marks) f cdv A outer s H E).env (cxOf (L2.CX P w) P w K mg base ["sounder", "delay", "rests", "side", "rest"] "_law_marks" (defScope s_law_marks) f cdv A outer s H E).xe := passes_of rfl
  have u64 := hr.units
  have u65 := room65 hr
  have nd := sc_law_marks.nd
  exact (ds_cons (by first | exact (ds_setLc [("side", 3)] rfl nd (di_seq (de_tupN (n := 2) (da_cons de_int (da_cons de_int da_nil)) (lenCons (lenCons lenNil)))) (fun _ _ _ _ _ => (dg_name nd)) (fun _ _ _ _ _ => dts_nil) (fun _ _ _ _ _ => (de_tupN (n := 2) (da_cons (de_var (i := 3)) (da_cons (de_bin r_mod (de_bty c_int (by rfl) T.n_int (by decide +kernel) (da_cons (de_var (i := 1)) da_nil)) (de_ix r_ix (de_var (i := 0)) (de_var (i := 3)))) da_nil)) (lenCons (lenCons lenNil)))) (ok := by show blkC ["sounder", "delay", "rests", "side", "rest"] (defScope s_law_marks) _ [("side", 3)] = true; decide +kernel)) | exact (ds_set nd (de_lc [("side", 3)] rfl nd (di_seq (de_tupN (n := 2) (da_cons de_int (da_cons de_int da_nil)) (lenCons (lenCons lenNil)))) (fun _ _ _ _ _ => (dg_name nd)) (fun _ _ _ _ _ => dts_nil) (fun _ _ _ _ _ => (de_tupN (n := 2) (da_cons (de_var (i := 3)) (da_cons (de_bin r_mod (de_bty c_int (by rfl) T.n_int (by decide +kernel) (da_cons (de_var (i := 1)) da_nil)) (de_ix r_ix (de_var (i := 0)) (de_var (i := 3)))) da_nil)) (lenCons (lenCons lenNil)))) (ok := by show blkC ["sounder", "delay", "rests", "side", "rest"] (defScope s_law_marks) _ [("side", 3)] = true; decide +kernel))))
    (ds_cons (ds_ret (de_lc [("side", 3), ("rest", 4)] rfl nd (di_seq (de_var (i := 2))) (fun _ _ _ _ _ => (dg_tup rfl (dgs_cons (dg_name nd) (dgs_cons (dg_name nd) dgs_nil)))) (fun _ _ _ _ _ => (dts_one (dt_cmp r_ge (de_var (i := 4)) (de_ix r_ix (de_var (i := 0)) de_int)))) (fun _ _ _ _ _ => (de_tupN (n := 2) (da_cons (de_var (i := 3)) (da_cons (de_var (i := 4)) da_nil)) (lenCons (lenCons lenNil)))) (ok := by show blkC ["sounder", "delay", "rests", "side", "rest"] (defScope s_law_marks) _ [("side", 3), ("rest", 4)] = true; decide +kernel))) ds_nil))
theorem sc_law_makes : FnScope ["sounder", "delays", "shift", "found", "delay", "side", "rest"] ["sounder", "delays", "shift"] (defScope s_law_makes) := ⟨rfl, rfl, rfl, by decide +kernel, rfl, by decide +kernel, by decide +kernel⟩
theorem ok_law_makes {f : Addr} {fd : FuncData} (d : Def K mg "_law_makes" s_law_makes ["sounder", "delays", "shift"] f fd) (T : Nm K mg t_LEAST_PERIOD t_MOST_DELAYS t_MOST_LOOKS t_MOST_PERIOD t_MOST_RANGE t_MOST_RESTS t_MOST_SHIFT t_SOUNDER_SIZE) (c_law_marks : Cal P w K mg base "_law_marks" s_law_marks ["sounder", "delay"] 1 2 m_law_marks) : Cal P w K mg base "_law_makes" s_law_makes ["sounder", "delays", "shift"] 2 3 m_law_makes := by
  show Cal P w K mg base "_law_makes" s_law_makes ["sounder", "delays", "shift"] (1 + 1) 3 (fnD 7 b_law_makes)
  refine cal_of d sc_law_makes rfl rfl fun cdv A outer s H E hr => ?_
  have tk : Tk (cxOf (L2.CX P w) P w K mg base ["sounder", "delays", "shift", "found", "delay", "side", "rest"] "_law_makes" (defScope s_law_makes) f cdv A outer s H E) (fun c d _ H => E c d H) := tk_of (takes_of rfl rfl rfl rfl)
  have pw : PassesOwn (model P w) (cxOf (L2.CX P w) P w K mg base ["sounder", "delays", "shift", "found", "delay", "side", "rest"] "_law_makes" (defScope s_law_makes) f cdv A outer s H E).A (cxOf (L2.CX P w) P w K mg base ["sounder", "delays", "shift", "found", "delay", "side", "rest"] "_law_makes" (defScope s_law_makes) f cdv A outer s H E).env (cxOf (L2.CX P w) P w K mg base ["sounder", "delays", "shift", "found", "delay", "side", "rest"] "_law_makes" (defScope s_law_makes) f cdv A outer s H E).xe := passes_of rfl
  have u64 := hr.units
  have u65 := room65 hr
  have nd := sc_law_makes.nd
  exact (ds_cons (ds_set nd (de_tupN (n := 2) (da_cons (de_cellN (n := 0) da_nil lenNil) (da_cons (de_cellN (n := 0) da_nil lenNil) da_nil)) (lenCons (lenCons lenNil))))
    (ds_cons (ds_for pw rfl (di_seq (de_var (i := 1))) (dg_name nd) ne_name (ds_cons (ds_for pw rfl (di_seq (cc c_law_marks hr tk (da_cons (de_var (i := 0)) (da_cons (de_bin r_add (de_var (i := 4)) (de_var (i := 2))) da_nil)))) (dg_tup rfl (dgs_cons (dg_name nd) (dgs_cons (dg_name nd) dgs_nil))) (ne_tup (ne_cons ne_name (ne_cons ne_name ne_nil))) (ds_cons (ds_expr (de_app (de_ix r_ix (de_var (i := 3)) (de_var (i := 5))) (da_cons (de_var (i := 6)) da_nil))) ds_nil)) ds_nil))
    (ds_cons (ds_ret (de_tupN (n := 2) (da_cons (de_bty c_tuple (by rfl) T.n_tuple (by decide +kernel) (da_cons (de_sset rfl T.n_sorted T.n_set (de_ix r_ix (de_var (i := 3)) de_int)) da_nil)) (da_cons (de_bty c_tuple (by rfl) T.n_tuple (by decide +kernel) (da_cons (de_sset rfl T.n_sorted T.n_set (de_ix r_ix (de_var (i := 3)) de_int)) da_nil)) da_nil)) (lenCons (lenCons lenNil)))) ds_nil)))
theorem sc_law_bent_heard : FnScope ["pool", "sounder", "heard", "side", "way", "own", "rest", "each"] ["pool", "sounder", "heard"] (defScope s_law_bent_heard) := ⟨rfl, rfl, rfl, by decide +kernel, rfl, by decide +kernel, by decide +kernel⟩
theorem ok_law_bent_heard {f : Addr} {fd : FuncData} (d : Def K mg "_law_bent_heard" s_law_bent_heard ["pool", "sounder", "heard"] f fd) (T : Nm K mg t_LEAST_PERIOD t_MOST_DELAYS t_MOST_LOOKS t_MOST_PERIOD t_MOST_RANGE t_MOST_RESTS t_MOST_SHIFT t_SOUNDER_SIZE) (c_law_below : Cal P w K mg base "_law_below" s_law_below ["pool", "many"] 1 2 m_law_below) : Cal P w K mg base "_law_bent_heard" s_law_bent_heard ["pool", "sounder", "heard"] 2 3 m_law_bent_heard := by
  show Cal P w K mg base "_law_bent_heard" s_law_bent_heard ["pool", "sounder", "heard"] (1 + 1) 3 (fnD 8 b_law_bent_heard)
  refine cal_of d sc_law_bent_heard rfl rfl fun cdv A outer s H E hr => ?_
  have tk : Tk (cxOf (L2.CX P w) P w K mg base ["pool", "sounder", "heard", "side", "way", "own", "rest", "each"] "_law_bent_heard" (defScope s_law_bent_heard) f cdv A outer s H E) (fun c d _ H => E c d H) := tk_of (takes_of rfl rfl rfl rfl)
  have pw : PassesOwn (model P w) (cxOf (L2.CX P w) P w K mg base ["pool", "sounder", "heard", "side", "way", "own", "rest", "each"] "_law_bent_heard" (defScope s_law_bent_heard) f cdv A outer s H E).A (cxOf (L2.CX P w) P w K mg base ["pool", "sounder", "heard", "side", "way", "own", "rest", "each"] "_law_bent_heard" (defScope s_law_bent_heard) f cdv A outer s H E).env (cxOf (L2.CX P w) P w K mg base ["pool", "sounder", "heard", "side", "way", "own", "rest", "each"] "_law_bent_heard" (defScope s_law_bent_heard) f cdv A outer s H E).xe := passes_of rfl
  have u64 := hr.units
  have u65 := room65 hr
  have nd := sc_law_bent_heard.nd
  exact (ds_cons (ds_par rfl nd (by decide) (da_cons (cc c_law_below hr tk (da_cons (de_var (i := 0)) (da_cons de_int da_nil))) (da_cons (cc c_law_below hr tk (da_cons (de_var (i := 0)) (da_cons de_int da_nil))) da_nil)))
    (ds_cons (ds_asg (de_tupN (n := 2) (da_cons (de_ix r_ix (de_var (i := 2)) (de_var (i := 3))) (da_cons (de_bin r_add (de_ix r_ix (de_var (i := 1)) de_int) (cc c_law_below hr tk (da_cons (de_var (i := 0)) (da_cons (de_bin r_sub (de_ix r_ix (de_var (i := 1)) (de_var (i := 3))) (de_ix r_ix (de_var (i := 1)) de_int)) da_nil)))) da_nil)) (lenCons (lenCons lenNil))) (dg_tup rfl (dgs_cons (dg_name nd) (dgs_cons (dg_name nd) dgs_nil))) (ne_tup (ne_cons ne_name (ne_cons ne_name ne_nil))))
    (ds_cons (ds_if (PW.pt (dw_and (dt_cmp (r_eq u64) (de_var (i := 4)) de_int) (dw_and1 (dt_cmp r_lt (de_blt c_len (by rfl) T.n_len (by decide +kernel) (da_cons (de_var (i := 5)) da_nil)) de_int)))) (ds_cons (ds_set nd (de_bty c_tuple (by rfl) T.n_tuple (by decide +kernel) (da_cons (de_sset rfl T.n_sorted T.n_set (de_bin r_add (de_var (i := 5)) (de_tupN (n := 1) (da_cons (de_var (i := 6)) da_nil) (lenCons lenNil)))) da_nil))) ds_nil) ds_nil)
    (ds_cons (ds_if (dt_cmp (r_eq u64) (de_var (i := 4)) de_int) (ds_cons (ds_set nd (de_bty c_tuple (by rfl) T.n_tuple (by decide +kernel) (da_cons (de_lc [("each", 7)] rfl nd (di_seq (de_var (i := 5))) (fun _ _ _ _ _ => (dg_name nd)) (fun _ _ _ _ _ => (dts_one (dt_cmp (r_ne u64) (de_var (i := 7)) (de_var (i := 6))))) (fun _ _ _ _ _ => (de_var (i := 7))) (ok := by show blkC ["pool", "sounder", "heard", "side", "way", "own", "rest", "each"] (defScope s_law_bent_heard) _ [("each", 7)] = true; decide +kernel)) da_nil))) ds_nil) ds_nil)
    (ds_cons (ds_ret (de_if (dt_cmp (r_eq u64) (de_var (i := 3)) de_int) (de_tupN (n := 2) (da_cons (de_var (i := 5)) (da_cons (de_ix r_ix (de_var (i := 2)) de_int) da_nil)) (lenCons (lenCons lenNil))) (de_tupN (n := 2) (da_cons (de_ix r_ix (de_var (i := 2)) de_int) (da_cons (de_var (i := 5)) da_nil)) (lenCons (lenCons lenNil))))) ds_nil)))))
theorem sc_law_looks : FnScope ["pool", "sounder", "most", "lap", "lot", "found", "shift", "heard"] ["pool", "sounder", "most"] (defScope s_law_looks) := ⟨rfl, rfl, rfl, by decide +kernel, rfl, by decide +kernel, by decide +kernel⟩
theorem ok_law_looks {f : Addr} {fd : FuncData} (d : Def K mg "_law_looks" s_law_looks ["pool", "sounder", "most"] f fd) (T : Nm K mg t_LEAST_PERIOD t_MOST_DELAYS t_MOST_LOOKS t_MOST_PERIOD t_MOST_RANGE t_MOST_RESTS t_MOST_SHIFT t_SOUNDER_SIZE) (c_law_lot : Cal P w K mg base "_law_lot" s_law_lot ["pool", "far", "most"] 2 3 m_law_lot) (c_law_below : Cal P w K mg base "_law_below" s_law_below ["pool", "many"] 1 2 m_law_below) (c_law_one : Cal P w K mg base "_law_one" s_law_one ["pool", "some"] 2 2 m_law_one) (c_law_makes : Cal P w K mg base "_law_makes" s_law_makes ["sounder", "delays", "shift"] 2 3 m_law_makes) (c_law_bent_heard : Cal P w K mg base "_law_bent_heard" s_law_bent_heard ["pool", "sounder", "heard"] 2 3 m_law_bent_heard) : Cal P w K mg base "_law_looks" s_law_looks ["pool", "sounder", "most"] 3 3 m_law_looks := by
  show Cal P w K mg base "_law_looks" s_law_looks ["pool", "sounder", "most"] (2 + 1) 3 (fnD 8 b_law_looks)
  refine cal_of d sc_law_looks rfl rfl fun cdv A outer s H E hr => ?_
  have tk : Tk (cxOf (L2.CX P w) P w K mg base ["pool", "sounder", "most", "lap", "lot", "found", "shift", "heard"] "_law_looks" (defScope s_law_looks) f cdv A outer s H E) (fun c d _ H => E c d H) := tk_of (takes_of rfl rfl rfl rfl)
  have pw : PassesOwn (model P w) (cxOf (L2.CX P w) P w K mg base ["pool", "sounder", "most", "lap", "lot", "found", "shift", "heard"] "_law_looks" (defScope s_law_looks) f cdv A outer s H E).A (cxOf (L2.CX P w) P w K mg base ["pool", "sounder", "most", "lap", "lot", "found", "shift", "heard"] "_law_looks" (defScope s_law_looks) f cdv A outer s H E).env (cxOf (L2.CX P w) P w K mg base ["pool", "sounder", "most", "lap", "lot", "found", "shift", "heard"] "_law_looks" (defScope s_law_looks) f cdv A outer s H E).xe := passes_of rfl
  have u64 := hr.units
  have u65 := room65 hr
  have nd := sc_law_looks.nd
  exact (ds_cons (ds_par rfl nd (by decide) (da_cons (cc c_law_lot hr tk (da_cons (de_var (i := 0)) (da_cons (de_ix r_ix (de_var (i := 1)) de_int) (da_cons (de_var (i := 2)) da_nil)))) (da_cons (de_tupN (n := 0) da_nil lenNil) da_nil)))
    (ds_cons (ds_for pw rfl (di_r1 T.n_range (da_cons (de_bin r_add de_int (cc c_law_below hr tk (da_cons (de_var (i := 0)) (da_cons de_int da_nil)))) da_nil)) (dg_name nd) ne_name (ds_cons (ds_set nd (cc c_law_one hr tk (da_cons (de_var (i := 0)) (da_cons (de_tupN (n := 5) (da_cons de_int (da_cons de_int (da_cons (de_un r_neg de_int) (da_cons (de_bin r_sub (cc c_law_below hr tk (da_cons (de_var (i := 0)) (da_cons de_int da_nil))) de_int) (da_cons (de_bin r_sub (cc c_law_below hr tk (da_cons (de_var (i := 0)) (da_cons de_int da_nil))) de_int) da_nil))))) (lenCons (lenCons (lenCons (lenCons (lenCons lenNil)))))) da_nil))))
    (ds_cons (ds_set nd (cc c_law_makes hr tk (da_cons (de_var (i := 1)) (da_cons (de_var (i := 4)) (da_cons (de_var (i := 6)) da_nil)))))
    (ds_cons (ds_set nd (de_bin r_add (de_var (i := 5)) (de_tupN (n := 1) (da_cons (de_tupN (n := 2) (da_cons (de_var (i := 6)) (da_cons (de_if (dt_cmp (r_eq u64) (cc c_law_below hr tk (da_cons (de_var (i := 0)) (da_cons de_int da_nil))) de_int) (cc c_law_bent_heard hr tk (da_cons (de_var (i := 0)) (da_cons (de_var (i := 1)) (da_cons (de_var (i := 7)) da_nil)))) (de_var (i := 7))) da_nil)) (lenCons (lenCons lenNil))) da_nil) (lenCons lenNil)))) ds_nil))))
    (ds_cons (ds_ret (de_tupN (n := 2) (da_cons (de_var (i := 5)) (da_cons (de_var (i := 4)) da_nil)) (lenCons (lenCons lenNil)))) ds_nil)))
theorem sc_law_ears : FnScope ["sounder", "looks", "shift", "heard"] ["sounder", "looks"] (defScope s_law_ears) := ⟨rfl, rfl, rfl, by decide +kernel, rfl, by decide +kernel, by decide +kernel⟩
theorem ok_law_ears {f : Addr} {fd : FuncData} (d : Def K mg "_law_ears" s_law_ears ["sounder", "looks"] f fd) (T : Nm K mg t_LEAST_PERIOD t_MOST_DELAYS t_MOST_LOOKS t_MOST_PERIOD t_MOST_RANGE t_MOST_RESTS t_MOST_SHIFT t_SOUNDER_SIZE) : Cal P w K mg base "_law_ears" s_law_ears ["sounder", "looks"] 1 2 m_law_ears := by
  show Cal P w K mg base "_law_ears" s_law_ears ["sounder", "looks"] (0 + 1) 2 (fnD 4 b_law_ears)
  refine cal_of d sc_law_ears rfl rfl fun cdv A outer s H E hr => ?_
  have tk : Tk (cxOf (L2.CX P w) P w K mg base ["sounder", "looks", "shift", "heard"] "_law_ears" (defScope s_law_ears) f cdv A outer s H E) (fun c d _ H => E c d H) := tk_of (takes_of rfl rfl rfl rfl)
  have pw : PassesOwn (model P w) (cxOf (L2.CX P w) P w K mg base ["sounder", "looks", "shift", "heard"] "_law_ears" (defScope s_law_ears) f cdv A outer s H E).A (cxOf (L2.CX P w) P w K mg base ["sounder", "looks", "shift", "heard"] "_law_ears" (defScope s_law_ears) f cdv A outer s H E).env (cxOf (L2.CX P w) P w K mg base ["sounder", "looks", "shift", "heard"] "_law_ears" (defScope s_law_ears) f cdv A outer s H E).xe := passes_of rfl
  have u64 := hr.units
  have u65 := room65 hr
  have nd := sc_law_ears.nd
  exact (ds_cons (ds_ret (de_lc [("shift", 2), ("heard", 3)] rfl nd (di_seq (de_var (i := 1))) (fun _ _ _ _ _ => (dg_tup rfl (dgs_cons (dg_name nd) (dgs_cons (dg_name nd) dgs_nil)))) (fun _ _ _ _ _ => dts_nil) (fun _ _ _ _ _ => (de_tupN (n := 3) (da_cons (de_var (i := 0)) (da_cons (de_var (i := 2)) (da_cons (de_var (i := 3)) da_nil))) (lenCons (lenCons (lenCons lenNil))))) (ok := by show blkC ["sounder", "looks", "shift", "heard"] (defScope s_law_ears) _ [("shift", 2), ("heard", 3)] = true; decide +kernel))) ds_nil)
theorem sc_law_possible : FnScope ["ears", "far", "found", "delay", "rows", "sounder", "shift", "heard", "row", "side", "rest"] ["ears", "far"] (defScope s_law_possible) := ⟨rfl, rfl, rfl, by decide +kernel, rfl, by decide +kernel, by decide +kernel⟩
theorem ok_law_possible {f : Addr} {fd : FuncData} (d : Def K mg "_law_possible" s_law_possible ["ears", "far"] f fd) (T : Nm K mg t_LEAST_PERIOD t_MOST_DELAYS t_MOST_LOOKS t_MOST_PERIOD t_MOST_RANGE t_MOST_RESTS t_MOST_SHIFT t_SOUNDER_SIZE) (c_law_marks : Cal P w K mg base "_law_marks" s_law_marks ["sounder", "delay"] 1 2 m_law_marks) : Cal P w K mg base "_law_possible" s_law_possible ["ears", "far"] 2 2 m_law_possible := by
  show Cal P w K mg base "_law_possible" s_law_possible ["ears", "far"] (1 + 1) 2 (fnD 11 b_law_possible)
  refine cal_of d sc_law_possible rfl rfl fun cdv A outer s H E hr => ?_
  have tk : Tk (cxOf (L2.CX P w) P w K mg base ["ears", "far", "found", "delay", "rows", "sounder", "shift", "heard", "row", "side", "rest"] "_law_possible" (defScope s_law_possible) f cdv A outer s H E) (fun c d _ H => E c d H) := tk_of (takes_of rfl rfl rfl rfl)
  have pw : PassesOwn (model P w) (cxOf (L2.CX P w) P w K mg base ["ears", "far", "found", "delay", "rows", "sounder", "shift", "heard", "row", "side", "rest"] "_law_possible" (defScope s_law_possible) f cdv A outer s H E).A (cxOf (L2.CX P w) P w K mg base ["ears", "far", "found", "delay", "rows", "sounder", "shift", "heard", "row", "side", "rest"] "_law_possible" (defScope s_law_possible) f cdv A outer s H E).env (cxOf (L2.CX P w) P w K mg base ["ears", "far", "found", "delay", "rows", "sounder", "shift", "heard", "row", "side", "rest"] "_law_possible" (defScope s_law_possible) f cdv A outer s H E).xe := passes_of rfl
  have u64 := hr.units
  have u65 := room65 hr
  have nd := sc_law_possible.nd
  exact (ds_cons (ds_set nd (de_cellN (n := 0) da_nil lenNil))
    (ds_cons (ds_for pw rfl (di_r1 T.n_range (da_cons (de_var (i := 1)) da_nil)) (dg_name nd) ne_name (ds_cons (by first | exact (ds_setLc [("sounder", 5), ("shift", 6), ("heard", 7)] rfl nd (di_seq (de_var (i := 0))) (fun _ _ _ _ _ => (dg_tup rfl (dgs_cons (dg_name nd) (dgs_cons (dg_name nd) (dgs_cons (dg_name nd) dgs_nil))))) (fun _ _ _ _ _ => dts_nil) (fun _ _ _ _ _ => (cc c_law_marks hr tk0 (da_cons (de_var (i := 5)) (da_cons (de_bin r_add (de_var (i := 3)) (de_var (i := 6))) da_nil)))) (ok := by show blkC ["ears", "far", "found", "delay", "rows", "sounder", "shift", "heard", "row", "side", "rest"] (defScope s_law_possible) _ [("sounder", 5), ("shift", 6), ("heard", 7)] = true; decide +kernel)) | exact (ds_set nd (de_lc [("sounder", 5), ("shift", 6), ("heard", 7)] rfl nd (di_seq (de_var (i := 0))) (fun _ _ _ _ _ => (dg_tup rfl (dgs_cons (dg_name nd) (dgs_cons (dg_name nd) (dgs_cons (dg_name nd) dgs_nil))))) (fun _ _ _ _ _ => dts_nil) (fun _ _ _ _ _ => (cc c_law_marks hr tk0 (da_cons (de_var (i := 5)) (da_cons (de_bin r_add (de_var (i := 3)) (de_var (i := 6))) da_nil)))) (ok := by show blkC ["ears", "far", "found", "delay", "rows", "sounder", "shift", "heard", "row", "side", "rest"] (defScope s_law_possible) _ [("sounder", 5), ("shift", 6), ("heard", 7)] = true; decide +kernel))))
    (ds_cons (ds_if (PW.pt (dw_and (dt_truth (de_blt (c_any rfl) (by rfl) T.n_any (by decide +kernel) (da_cons (de_lc [("row", 8)] rfl nd (di_seq (de_var (i := 4))) (fun _ _ _ _ _ => (dg_name nd)) (fun _ _ _ _ _ => dts_nil) (fun _ _ _ _ _ => (de_cmp (r_ne u64) (de_var (i := 8)) (de_lstN (n := 0) da_nil lenNil))) (ok := by show blkC ["ears", "far", "found", "delay", "rows", "sounder", "shift", "heard", "row", "side", "rest"] (defScope s_law_possible) _ [("row", 8)] = true; decide +kernel)) da_nil))) (dw_and1 (dt_truth (de_blt (c_all rfl) (by rfl) T.n_all (by decide +kernel) (da_cons (de_lc [("sounder", 5), ("shift", 6), ("heard", 7), ("row", 8)] rfl nd (di_zip T.n_zip (da_cons (de_var (i := 4)) (da_cons (de_var (i := 0)) da_nil))) (fun _ _ _ _ _ => (dg_tup rfl (dgs_cons (dg_name nd) (dgs_cons (dg_tup rfl (dgs_cons (dg_name nd) (dgs_cons (dg_name nd) (dgs_cons (dg_name nd) dgs_nil)))) dgs_nil)))) (fun _ _ _ _ _ => dts_nil) (fun _ _ _ _ _ => (de_blt (c_all rfl) (by rfl) T.n_all (by decide +kernel) (da_cons (de_lc [("side", 9), ("rest", 10)] rfl nd (di_seq (de_var (i := 8))) (fun _ _ _ _ _ => (dg_tup rfl (dgs_cons (dg_name nd) (dgs_cons (dg_name nd) dgs_nil)))) (fun _ _ _ _ _ => dts_nil) (fun _ _ _ _ _ => (de_cmp (r_in u65) (de_var (i := 10)) (de_ix r_ix (de_var (i := 7)) (de_var (i := 9))))) (ok := by show blkC ["ears", "far", "found", "delay", "rows", "sounder", "shift", "heard", "row", "side", "rest"] (relS _ (defScope s_law_possible)) _ [("side", 9), ("rest", 10)] = true; decide +kernel)) da_nil))) (ok := by show blkC ["ears", "far", "found", "delay", "rows", "sounder", "shift", "heard", "row", "side", "rest"] (defScope s_law_possible) _ [("sounder", 5), ("shift", 6), ("heard", 7), ("row", 8)] = true; decide +kernel)) da_nil)))))) (ds_cons (ds_expr (de_app (de_var (i := 2)) (da_cons (de_var (i := 3)) da_nil))) ds_nil) ds_nil) ds_nil)))
    (ds_cons (ds_ret (de_var (i := 2))) ds_nil)))
theorem sc_law_do_fit : FnScope ["ears", "delays", "delay", "sounder", "shift", "heard"] ["ears", "delays"] (defScope s_law_do_fit) := ⟨rfl, rfl, rfl, by decide +kernel, rfl, by decide +kernel, by decide +kernel⟩
theorem ok_law_do_fit {f : Addr} {fd : FuncData} (d : Def K mg "_law_do_fit" s_law_do_fit ["ears", "delays"] f fd) (T : Nm K mg t_LEAST_PERIOD t_MOST_DELAYS t_MOST_LOOKS t_MOST_PERIOD t_MOST_RANGE t_MOST_RESTS t_MOST_SHIFT t_SOUNDER_SIZE) (c_law_marks : Cal P w K mg base "_law_marks" s_law_marks ["sounder", "delay"] 1 2 m_law_marks) (c_law_makes : Cal P w K mg base "_law_makes" s_law_makes ["sounder", "delays", "shift"] 2 3 m_law_makes) : Cal P w K mg base "_law_do_fit" s_law_do_fit ["ears", "delays"] 3 2 m_law_do_fit := by
  show Cal P w K mg base "_law_do_fit" s_law_do_fit ["ears", "delays"] (2 + 1) 2 (fnD 6 b_law_do_fit)
  refine cal_of d sc_law_do_fit rfl rfl fun cdv A outer s H E hr => ?_
  have tk : Tk (cxOf (L2.CX P w) P w K mg base ["ears", "delays", "delay", "sounder", "shift", "heard"] "_law_do_fit" (defScope s_law_do_fit) f cdv A outer s H E) (fun c d _ H => E c d H) := tk_of (takes_of rfl rfl rfl rfl)
  have pw : PassesOwn (model P w) (cxOf (L2.CX P w) P w K mg base ["ears", "delays", "delay", "sounder", "shift", "heard"] "_law_do_fit" (defScope s_law_do_fit) f cdv A outer s H E).A (cxOf (L2.CX P w) P w K mg base ["ears", "delays", "delay", "sounder", "shift", "heard"] "_law_do_fit" (defScope s_law_do_fit) f cdv A outer s H E).env (cxOf (L2.CX P w) P w K mg base ["ears", "delays", "delay", "sounder", "shift", "heard"] "_law_do_fit" (defScope s_law_do_fit) f cdv A outer s H E).xe := passes_of rfl
  have u64 := hr.units
  have u65 := room65 hr
  have nd := sc_law_do_fit.nd
  exact (ds_cons (ds_if (dt_truth (de_blt (c_any rfl) (by rfl) T.n_any (by decide +kernel) (da_cons (de_lc [("delay", 2)] rfl nd (di_seq (de_var (i := 1))) (fun _ _ _ _ _ => (dg_name nd)) (fun _ _ _ _ _ => dts_nil) (fun _ _ _ _ _ => (de_blt (c_all rfl) (by rfl) T.n_all (by decide +kernel) (da_cons (de_lc [("sounder", 3), ("shift", 4), ("heard", 5)] rfl nd (di_seq (de_var (i := 0))) (fun _ _ _ _ _ => (dg_tup rfl (dgs_cons (dg_name nd) (dgs_cons (dg_name nd) (dgs_cons (dg_name nd) dgs_nil))))) (fun _ _ _ _ _ => dts_nil) (fun _ _ _ _ _ => (de_cmp (r_eq u64) (cc c_law_marks hr tk0 (da_cons (de_var (i := 3)) (da_cons (de_bin r_add (de_var (i := 2)) (de_var (i := 4))) da_nil))) (de_lstN (n := 0) da_nil lenNil))) (ok := by show blkC ["ears", "delays", "delay", "sounder", "shift", "heard"] (relS _ (defScope s_law_do_fit)) _ [("sounder", 3), ("shift", 4), ("heard", 5)] = true; decide +kernel)) da_nil))) (ok := by show blkC ["ears", "delays", "delay", "sounder", "shift", "heard"] (defScope s_law_do_fit) _ [("delay", 2)] = true; decide +kernel)) da_nil))) (ds_cons (ds_ret de_bl) ds_nil) ds_nil)
    (ds_cons (ds_ret (de_blt (c_all rfl) (by rfl) T.n_all (by decide +kernel) (da_cons (de_lc [("sounder", 3), ("shift", 4), ("heard", 5)] rfl nd (di_seq (de_var (i := 0))) (fun _ _ _ _ _ => (dg_tup rfl (dgs_cons (dg_name nd) (dgs_cons (dg_name nd) (dgs_cons (dg_name nd) dgs_nil))))) (fun _ _ _ _ _ => dts_nil) (fun _ _ _ _ _ => (de_cmp (r_eq u64) (cc c_law_makes hr tk0 (da_cons (de_var (i := 3)) (da_cons (de_var (i := 1)) (da_cons (de_var (i := 4)) da_nil)))) (de_var (i := 5)))) (ok := by show blkC ["ears", "delays", "delay", "sounder", "shift", "heard"] (defScope s_law_do_fit) _ [("sounder", 3), ("shift", 4), ("heard", 5)] = true; decide +kernel)) da_nil))) ds_nil))
theorem sc_is_whole : FnScope ["value"] ["value"] (defScope s_is_whole) := ⟨rfl, rfl, rfl, by decide +kernel, rfl, by decide +kernel, by decide +kernel⟩
theorem ok_is_whole {f : Addr} {fd : FuncData} (d : Def K mg "is_whole" s_is_whole ["value"] f fd) (T : Nm K mg t_LEAST_PERIOD t_MOST_DELAYS t_MOST_LOOKS t_MOST_PERIOD t_MOST_RANGE t_MOST_RESTS t_MOST_SHIFT t_SOUNDER_SIZE) : Cal P w K mg base "is_whole" s_is_whole ["value"] 1 1 m_is_whole := by
  show Cal P w K mg base "is_whole" s_is_whole ["value"] (0 + 1) 1 (fnD 1 b_is_whole)
  refine cal_of d sc_is_whole rfl rfl fun cdv A outer s H E hr => ?_
  have tk : Tk (cxOf (L2.CX P w) P w K mg base ["value"] "is_whole" (defScope s_is_whole) f cdv A outer s H E) (fun c d _ H => E c d H) := tk_of (takes_of rfl rfl rfl rfl)
  have pw : PassesOwn (model P w) (cxOf (L2.CX P w) P w K mg base ["value"] "is_whole" (defScope s_is_whole) f cdv A outer s H E).A (cxOf (L2.CX P w) P w K mg base ["value"] "is_whole" (defScope s_is_whole) f cdv A outer s H E).env (cxOf (L2.CX P w) P w K mg base ["value"] "is_whole" (defScope s_is_whole) f cdv A outer s H E).xe := passes_of rfl
  have u64 := hr.units
  have u65 := room65 hr
  have nd := sc_is_whole.nd
  exact (ds_cons (ds_ret (de_and (de_blt (c_isi .n1) (by rfl) T.n_isinstance (by decide +kernel) (da_cons (de_var (i := 0)) (da_cons (de_ty (by rfl) T.n_int (by decide +kernel)) da_nil))) (de_one (de_not (de_blt (c_isi .n2) (by rfl) T.n_isinstance (by decide +kernel) (da_cons (de_var (i := 0)) (da_cons (de_ty (by rfl) T.n_bool (by decide +kernel)) da_nil))))))) ds_nil)
theorem sc_is_between : FnScope ["value", "low", "high"] ["value", "low", "high"] (defScope s_is_between) := ⟨rfl, rfl, rfl, by decide +kernel, rfl, by decide +kernel, by decide +kernel⟩
theorem ok_is_between {f : Addr} {fd : FuncData} (d : Def K mg "is_between" s_is_between ["value", "low", "high"] f fd) (T : Nm K mg t_LEAST_PERIOD t_MOST_DELAYS t_MOST_LOOKS t_MOST_PERIOD t_MOST_RANGE t_MOST_RESTS t_MOST_SHIFT t_SOUNDER_SIZE) (c_is_whole : Cal P w K mg base "is_whole" s_is_whole ["value"] 1 1 m_is_whole) : Cal P w K mg base "is_between" s_is_between ["value", "low", "high"] 2 3 m_is_between := by
  show Cal P w K mg base "is_between" s_is_between ["value", "low", "high"] (1 + 1) 3 (fnD 3 b_is_between)
  refine cal_of d sc_is_between rfl rfl fun cdv A outer s H E hr => ?_
  have tk : Tk (cxOf (L2.CX P w) P w K mg base ["value", "low", "high"] "is_between" (defScope s_is_between) f cdv A outer s H E) (fun c d _ H => E c d H) := tk_of (takes_of rfl rfl rfl rfl)
  have pw : PassesOwn (model P w) (cxOf (L2.CX P w) P w K mg base ["value", "low", "high"] "is_between" (defScope s_is_between) f cdv A outer s H E).A (cxOf (L2.CX P w) P w K mg base ["value", "low", "high"] "is_between" (defScope s_is_between) f cdv A outer s H E).env (cxOf (L2.CX P w) P w K mg base ["value", "low", "high"] "is_between" (defScope s_is_between) f cdv A outer s H E).xe := passes_of rfl
  have u64 := hr.units
  have u65 := room65 hr
  have nd := sc_is_between.nd
  exact (ds_cons (ds_ret (de_and (cc c_is_whole hr tk (da_cons (de_var (i := 0)) da_nil)) (de_one (de_ch r_le r_le (de_var (i := 1)) (de_var (i := 0)) (de_var (i := 2)))))) ds_nil)
theorem sc_is_up_to : FnScope ["value", "most"] ["value", "most"] (defScope s_is_up_to) := ⟨rfl, rfl, rfl, by decide +kernel, rfl, by decide +kernel, by decide +kernel⟩
theorem ok_is_up_to {f : Addr} {fd : FuncData} (d : Def K mg "is_up_to" s_is_up_to ["value", "most"] f fd) (T : Nm K mg t_LEAST_PERIOD t_MOST_DELAYS t_MOST_LOOKS t_MOST_PERIOD t_MOST_RANGE t_MOST_RESTS t_MOST_SHIFT t_SOUNDER_SIZE) (c_is_between : Cal P w K mg base "is_between" s_is_between ["value", "low", "high"] 2 3 m_is_between) : Cal P w K mg base "is_up_to" s_is_up_to ["value", "most"] 3 2 m_is_up_to := by
  show Cal P w K mg base "is_up_to" s_is_up_to ["value", "most"] (2 + 1) 2 (fnD 2 b_is_up_to)
  refine cal_of d sc_is_up_to rfl rfl fun cdv A outer s H E hr => ?_
  have tk : Tk (cxOf (L2.CX P w) P w K mg base ["value", "most"] "is_up_to" (defScope s_is_up_to) f cdv A outer s H E) (fun c d _ H => E c d H) := tk_of (takes_of rfl rfl rfl rfl)
  have pw : PassesOwn (model P w) (cxOf (L2.CX P w) P w K mg base ["value", "most"] "is_up_to" (defScope s_is_up_to) f cdv A outer s H E).A (cxOf (L2.CX P w) P w K mg base ["value", "most"] "is_up_to" (defScope s_is_up_to) f cdv A outer s H E).env (cxOf (L2.CX P w) P w K mg base ["value", "most"] "is_up_to" (defScope s_is_up_to) f cdv A outer s H E).xe := passes_of rfl
  have u64 := hr.units
  have u65 := room65 hr
  have nd := sc_is_up_to.nd
  exact (ds_cons (ds_ret (cc c_is_between hr tk (da_cons (de_var (i := 0)) (da_cons de_int (da_cons (de_var (i := 1)) da_nil))))) ds_nil)
theorem sc_is_tuple_up_to : FnScope ["value", "low", "high"] ["value", "low", "high"] (defScope s_is_tuple_up_to) := ⟨rfl, rfl, rfl, by decide +kernel, rfl, by decide +kernel, by decide +kernel⟩
theorem ok_is_tuple_up_to {f : Addr} {fd : FuncData} (d : Def K mg "is_tuple_up_to" s_is_tuple_up_to ["value", "low", "high"] f fd) (T : Nm K mg t_LEAST_PERIOD t_MOST_DELAYS t_MOST_LOOKS t_MOST_PERIOD t_MOST_RANGE t_MOST_RESTS t_MOST_SHIFT t_SOUNDER_SIZE) : Cal P w K mg base "is_tuple_up_to" s_is_tuple_up_to ["value", "low", "high"] 1 3 m_is_tuple_up_to := by
  show Cal P w K mg base "is_tuple_up_to" s_is_tuple_up_to ["value", "low", "high"] (0 + 1) 3 (fnD 3 b_is_tuple_up_to)
  refine cal_of d sc_is_tuple_up_to rfl rfl fun cdv A outer s H E hr => ?_
  have tk : Tk (cxOf (L2.CX P w) P w K mg base ["value", "low", "high"] "is_tuple_up_to" (defScope s_is_tuple_up_to) f cdv A outer s H E) (fun c d _ H => E c d H) := tk_of (takes_of rfl rfl rfl rfl)
  have pw : PassesOwn (model P w) (cxOf (L2.CX P w) P w K mg base ["value", "low", "high"] "is_tuple_up_to" (defScope s_is_tuple_up_to) f cdv A outer s H E).A (cxOf (L2.CX P w) P w K mg base ["value", "low", "high"] "is_tuple_up_to" (defScope s_is_tuple_up_to) f cdv A outer s H E).env (cxOf (L2.CX P w) P w K mg base ["value", "low", "high"] "is_tuple_up_to" (defScope s_is_tuple_up_to) f cdv A outer s H E).xe := passes_of rfl
  have u64 := hr.units
  have u65 := room65 hr
  have nd := sc_is_tuple_up_to.nd
  exact (ds_cons (ds_ret (de_and (de_blt (c_isi .n4) (by rfl) T.n_isinstance (by decide +kernel) (da_cons (de_var (i := 0)) (da_cons (de_ty (by rfl) T.n_tuple (by decide +kernel)) da_nil))) (de_one (de_ch r_le r_le (de_var (i := 1)) (de_blt c_len (by rfl) T.n_len (by decide +kernel) (da_cons (de_var (i := 0)) da_nil)) (de_var (i := 2)))))) ds_nil)
theorem sc_is_tuple_of : FnScope ["value", "many"] ["value", "many"] (defScope s_is_tuple_of) := ⟨rfl, rfl, rfl, by decide +kernel, rfl, by decide +kernel, by decide +kernel⟩
theorem ok_is_tuple_of {f : Addr} {fd : FuncData} (d : Def K mg "is_tuple_of" s_is_tuple_of ["value", "many"] f fd) (T : Nm K mg t_LEAST_PERIOD t_MOST_DELAYS t_MOST_LOOKS t_MOST_PERIOD t_MOST_RANGE t_MOST_RESTS t_MOST_SHIFT t_SOUNDER_SIZE) (c_is_tuple_up_to : Cal P w K mg base "is_tuple_up_to" s_is_tuple_up_to ["value", "low", "high"] 1 3 m_is_tuple_up_to) : Cal P w K mg base "is_tuple_of" s_is_tuple_of ["value", "many"] 2 2 m_is_tuple_of := by
  show Cal P w K mg base "is_tuple_of" s_is_tuple_of ["value", "many"] (1 + 1) 2 (fnD 2 b_is_tuple_of)
  refine cal_of d sc_is_tuple_of rfl rfl fun cdv A outer s H E hr => ?_
  have tk : Tk (cxOf (L2.CX P w) P w K mg base ["value", "many"] "is_tuple_of" (defScope s_is_tuple_of) f cdv A outer s H E) (fun c d _ H => E c d H) := tk_of (takes_of rfl rfl rfl rfl)
  have pw : PassesOwn (model P w) (cxOf (L2.CX P w) P w K mg base ["value", "many"] "is_tuple_of" (defScope s_is_tuple_of) f cdv A outer s H E).A (cxOf (L2.CX P w) P w K mg base ["value", "many"] "is_tuple_of" (defScope s_is_tuple_of) f cdv A outer s H E).env (cxOf (L2.CX P w) P w K mg base ["value", "many"] "is_tuple_of" (defScope s_is_tuple_of) f cdv A outer s H E).xe := passes_of rfl
  have u64 := hr.units
  have u65 := room65 hr
  have nd := sc_is_tuple_of.nd
  exact (ds_cons (ds_ret (cc c_is_tuple_up_to hr tk (da_cons (de_var (i := 0)) (da_cons (de_var (i := 1)) (da_cons (de_var (i := 1)) da_nil))))) ds_nil)
theorem sc_is_period : FnScope ["value"] ["value"] (defScope s_is_period) := ⟨rfl, rfl, rfl, by decide +kernel, rfl, by decide +kernel, by decide +kernel⟩
theorem ok_is_period {f : Addr} {fd : FuncData} (d : Def K mg "is_period" s_is_period ["value"] f fd) (T : Nm K mg t_LEAST_PERIOD t_MOST_DELAYS t_MOST_LOOKS t_MOST_PERIOD t_MOST_RANGE t_MOST_RESTS t_MOST_SHIFT t_SOUNDER_SIZE) (c_is_between : Cal P w K mg base "is_between" s_is_between ["value", "low", "high"] 2 3 m_is_between) : Cal P w K mg base "is_period" s_is_period ["value"] 3 1 m_is_period := by
  show Cal P w K mg base "is_period" s_is_period ["value"] (2 + 1) 1 (fnD 1 b_is_period)
  refine cal_of d sc_is_period rfl rfl fun cdv A outer s H E hr => ?_
  have tk : Tk (cxOf (L2.CX P w) P w K mg base ["value"] "is_period" (defScope s_is_period) f cdv A outer s H E) (fun c d _ H => E c d H) := tk_of (takes_of rfl rfl rfl rfl)
  have pw : PassesOwn (model P w) (cxOf (L2.CX P w) P w K mg base ["value"] "is_period" (defScope s_is_period) f cdv A outer s H E).A (cxOf (L2.CX P w) P w K mg base ["value"] "is_period" (defScope s_is_period) f cdv A outer s H E).env (cxOf (L2.CX P w) P w K mg base ["value"] "is_period" (defScope s_is_period) f cdv A outer s H E).xe := passes_of rfl
  have u64 := hr.units
  have u65 := room65 hr
  have nd := sc_is_period.nd
  exact (ds_cons (ds_ret (cc c_is_between hr tk (da_cons (de_var (i := 0)) (da_cons (de_globI T.k_LEAST_PERIOD) (da_cons (de_globI T.k_MOST_PERIOD) da_nil))))) ds_nil)
theorem sc_is_sounder_of : FnScope ["value"] ["value"] (defScope s_is_sounder_of) := ⟨rfl, rfl, rfl, by decide +kernel, rfl, by decide +kernel, by decide +kernel⟩
theorem ok_is_sounder_of {f : Addr} {fd : FuncData} (d : Def K mg "is_sounder_of" s_is_sounder_of ["value"] f fd) (T : Nm K mg t_LEAST_PERIOD t_MOST_DELAYS t_MOST_LOOKS t_MOST_PERIOD t_MOST_RANGE t_MOST_RESTS t_MOST_SHIFT t_SOUNDER_SIZE) (c_is_tuple_of : Cal P w K mg base "is_tuple_of" s_is_tuple_of ["value", "many"] 2 2 m_is_tuple_of) (c_is_period : Cal P w K mg base "is_period" s_is_period ["value"] 3 1 m_is_period) (c_is_up_to : Cal P w K mg base "is_up_to" s_is_up_to ["value", "most"] 3 2 m_is_up_to) (c_is_between : Cal P w K mg base "is_between" s_is_between ["value", "low", "high"] 2 3 m_is_between) : Cal P w K mg base "is_sounder_of" s_is_sounder_of ["value"] 4 1 m_is_sounder_of := by
  show Cal P w K mg base "is_sounder_of" s_is_sounder_of ["value"] (3 + 1) 1 (fnD 1 b_is_sounder_of)
  refine cal_of d sc_is_sounder_of rfl rfl fun cdv A outer s H E hr => ?_
  have tk : Tk (cxOf (L2.CX P w) P w K mg base ["value"] "is_sounder_of" (defScope s_is_sounder_of) f cdv A outer s H E) (fun c d _ H => E c d H) := tk_of (takes_of rfl rfl rfl rfl)
  have pw : PassesOwn (model P w) (cxOf (L2.CX P w) P w K mg base ["value"] "is_sounder_of" (defScope s_is_sounder_of) f cdv A outer s H E).A (cxOf (L2.CX P w) P w K mg base ["value"] "is_sounder_of" (defScope s_is_sounder_of) f cdv A outer s H E).env (cxOf (L2.CX P w) P w K mg base ["value"] "is_sounder_of" (defScope s_is_sounder_of) f cdv A outer s H E).xe := passes_of rfl
  have u64 := hr.units
  have u65 := room65 hr
  have nd := sc_is_sounder_of.nd
  exact (ds_cons (ds_if (PW.pt (dw_or (dt_not (dt_truth (cc c_is_tuple_of hr tk (da_cons (de_var (i := 0)) (da_cons (de_globI T.k_SOUNDER_SIZE) da_nil))))) (dw_or (dt_not (dt_truth (cc c_is_period hr tk (da_cons (de_ix r_ix (de_var (i := 0)) de_int) da_nil)))) (dw_or1 (dt_not (dt_truth (cc c_is_period hr tk (da_cons (de_ix r_ix (de_var (i := 0)) de_int) da_nil)))))))) (ds_cons (ds_ret de_bl) ds_nil) ds_nil)
    (ds_cons (ds_ret (de_and (cc c_is_up_to hr tk (da_cons (de_ix r_ix (de_var (i := 0)) de_int) (da_cons (de_bin r_sub (de_blt (c_min2 rfl) (by rfl) T.n_min (by decide +kernel) (da_cons (de_ix r_ix (de_var (i := 0)) de_int) (da_cons (de_ix r_ix (de_var (i := 0)) de_int) da_nil))) de_int) da_nil))) (de_one (cc c_is_between hr tk (da_cons (de_ix r_ix (de_var (i := 0)) de_int) (da_cons de_int (da_cons (de_globI T.k_MOST_RANGE) da_nil))))))) ds_nil))
theorem sc_check_sounder : FnScope ["sounder"] ["sounder"] (defScope s_check_sounder) := ⟨rfl, rfl, rfl, by decide +kernel, rfl, by decide +kernel, by decide +kernel⟩
theorem ok_check_sounder {f : Addr} {fd : FuncData} (d : Def K mg "check_sounder" s_check_sounder ["sounder"] f fd) (T : Nm K mg t_LEAST_PERIOD t_MOST_DELAYS t_MOST_LOOKS t_MOST_PERIOD t_MOST_RANGE t_MOST_RESTS t_MOST_SHIFT t_SOUNDER_SIZE) (c_is_sounder_of : Cal P w K mg base "is_sounder_of" s_is_sounder_of ["value"] 4 1 m_is_sounder_of) : Cal P w K mg base "check_sounder" s_check_sounder ["sounder"] 5 1 m_check_sounder := by
  show Cal P w K mg base "check_sounder" s_check_sounder ["sounder"] (4 + 1) 1 (fnD 1 b_check_sounder)
  refine cal_of d sc_check_sounder rfl rfl fun cdv A outer s H E hr => ?_
  have tk : Tk (cxOf (L2.CX P w) P w K mg base ["sounder"] "check_sounder" (defScope s_check_sounder) f cdv A outer s H E) (fun c d _ H => E c d H) := tk_of (takes_of rfl rfl rfl rfl)
  have pw : PassesOwn (model P w) (cxOf (L2.CX P w) P w K mg base ["sounder"] "check_sounder" (defScope s_check_sounder) f cdv A outer s H E).A (cxOf (L2.CX P w) P w K mg base ["sounder"] "check_sounder" (defScope s_check_sounder) f cdv A outer s H E).env (cxOf (L2.CX P w) P w K mg base ["sounder"] "check_sounder" (defScope s_check_sounder) f cdv A outer s H E).xe := passes_of rfl
  have u64 := hr.units
  have u65 := room65 hr
  have nd := sc_check_sounder.nd
  exact (ds_cons (ds_if (dt_not (dt_truth (cc c_is_sounder_of hr tk (da_cons (de_var (i := 0)) da_nil)))) (ds_cons ds_never ds_nil) ds_nil) ds_nil)
theorem sc_is_pair : FnScope ["value"] ["value"] (defScope s_is_pair) := ⟨rfl, rfl, rfl, by decide +kernel, rfl, by decide +kernel, by decide +kernel⟩
theorem ok_is_pair {f : Addr} {fd : FuncData} (d : Def K mg "is_pair" s_is_pair ["value"] f fd) (T : Nm K mg t_LEAST_PERIOD t_MOST_DELAYS t_MOST_LOOKS t_MOST_PERIOD t_MOST_RANGE t_MOST_RESTS t_MOST_SHIFT t_SOUNDER_SIZE) (c_is_tuple_of : Cal P w K mg base "is_tuple_of" s_is_tuple_of ["value", "many"] 2 2 m_is_tuple_of) : Cal P w K mg base "is_pair" s_is_pair ["value"] 3 1 m_is_pair := by
  show Cal P w K mg base "is_pair" s_is_pair ["value"] (2 + 1) 1 (fnD 1 b_is_pair)
  refine cal_of d sc_is_pair rfl rfl fun cdv A outer s H E hr => ?_
  have tk : Tk (cxOf (L2.CX P w) P w K mg base ["value"] "is_pair" (defScope s_is_pair) f cdv A outer s H E) (fun c d _ H => E c d H) := tk_of (takes_of rfl rfl rfl rfl)
  have pw : PassesOwn (model P w) (cxOf (L2.CX P w) P w K mg base ["value"] "is_pair" (defScope s_is_pair) f cdv A outer s H E).A (cxOf (L2.CX P w) P w K mg base ["value"] "is_pair" (defScope s_is_pair) f cdv A outer s H E).env (cxOf (L2.CX P w) P w K mg base ["value"] "is_pair" (defScope s_is_pair) f cdv A outer s H E).xe := passes_of rfl
  have u64 := hr.units
  have u65 := room65 hr
  have nd := sc_is_pair.nd
  exact (ds_cons (ds_ret (cc c_is_tuple_of hr tk (da_cons (de_var (i := 0)) (da_cons de_int da_nil)))) ds_nil)
theorem sc_is_shift : FnScope ["value"] ["value"] (defScope s_is_shift) := ⟨rfl, rfl, rfl, by decide +kernel, rfl, by decide +kernel, by decide +kernel⟩
theorem ok_is_shift {f : Addr} {fd : FuncData} (d : Def K mg "is_shift" s_is_shift ["value"] f fd) (T : Nm K mg t_LEAST_PERIOD t_MOST_DELAYS t_MOST_LOOKS t_MOST_PERIOD t_MOST_RANGE t_MOST_RESTS t_MOST_SHIFT t_SOUNDER_SIZE) (c_is_between : Cal P w K mg base "is_between" s_is_between ["value", "low", "high"] 2 3 m_is_between) : Cal P w K mg base "is_shift" s_is_shift ["value"] 3 1 m_is_shift := by
  show Cal P w K mg base "is_shift" s_is_shift ["value"] (2 + 1) 1 (fnD 1 b_is_shift)
  refine cal_of d sc_is_shift rfl rfl fun cdv A outer s H E hr => ?_
  have tk : Tk (cxOf (L2.CX P w) P w K mg base ["value"] "is_shift" (defScope s_is_shift) f cdv A outer s H E) (fun c d _ H => E c d H) := tk_of (takes_of rfl rfl rfl rfl)
  have pw : PassesOwn (model P w) (cxOf (L2.CX P w) P w K mg base ["value"] "is_shift" (defScope s_is_shift) f cdv A outer s H E).A (cxOf (L2.CX P w) P w K mg base ["value"] "is_shift" (defScope s_is_shift) f cdv A outer s H E).env (cxOf (L2.CX P w) P w K mg base ["value"] "is_shift" (defScope s_is_shift) f cdv A outer s H E).xe := passes_of rfl
  have u64 := hr.units
  have u65 := room65 hr
  have nd := sc_is_shift.nd
  exact (ds_cons (ds_ret (cc c_is_between hr tk (da_cons (de_var (i := 0)) (da_cons (de_un r_neg (de_globI T.k_MOST_SHIFT)) (da_cons (de_globI T.k_MOST_SHIFT) da_nil))))) ds_nil)
theorem sc_are_rising : FnScope ["values", "one", "two"] ["values"] (defScope s_are_rising) := ⟨rfl, rfl, rfl, by decide +kernel, rfl, by decide +kernel, by decide +kernel⟩
theorem ok_are_rising {f : Addr} {fd : FuncData} (d : Def K mg "are_rising" s_are_rising ["values"] f fd) (T : Nm K mg t_LEAST_PERIOD t_MOST_DELAYS t_MOST_LOOKS t_MOST_PERIOD t_MOST_RANGE t_MOST_RESTS t_MOST_SHIFT t_SOUNDER_SIZE) : Cal P w K mg base "are_rising" s_are_rising ["values"] 1 1 m_are_rising := by
  show Cal P w K mg base "are_rising" s_are_rising ["values"] (0 + 1) 1 (fnD 3 b_are_rising)
  refine cal_of d sc_are_rising rfl rfl fun cdv A outer s H E hr => ?_
  have tk : Tk (cxOf (L2.CX P w) P w K mg base ["values", "one", "two"] "are_rising" (defScope s_are_rising) f cdv A outer s H E) (fun c d _ H => E c d H) := tk_of (takes_of rfl rfl rfl rfl)
  have pw : PassesOwn (model P w) (cxOf (L2.CX P w) P w K mg base ["values", "one", "two"] "are_rising" (defScope s_are_rising) f cdv A outer s H E).A (cxOf (L2.CX P w) P w K mg base ["values", "one", "two"] "are_rising" (defScope s_are_rising) f cdv A outer s H E).env (cxOf (L2.CX P w) P w K mg base ["values", "one", "two"] "are_rising" (defScope s_are_rising) f cdv A outer s H E).xe := passes_of rfl
  have u64 := hr.units
  have u65 := room65 hr
  have nd := sc_are_rising.nd
  exact (ds_cons (ds_ret (de_blt (c_all rfl) (by rfl) T.n_all (by decide +kernel) (da_cons (de_lc [("one", 1), ("two", 2)] rfl nd (di_zip T.n_zip (da_cons (de_var (i := 0)) (da_cons (de_sl (de_var (i := 0)) (do_some de_int) do_none) da_nil))) (fun _ _ _ _ _ => (dg_tup rfl (dgs_cons (dg_name nd) (dgs_cons (dg_name nd) dgs_nil)))) (fun _ _ _ _ _ => dts_nil) (fun _ _ _ _ _ => (de_cmp r_lt (de_var (i := 1)) (de_var (i := 2)))) (ok := by show blkC ["values", "one", "two"] (defScope s_are_rising) _ [("one", 1), ("two", 2)] = true; decide +kernel)) da_nil))) ds_nil)
theorem sc_blind_of : FnScope ["sounder"] ["sounder"] (defScope s_blind_of) := ⟨rfl, rfl, rfl, by decide +kernel, rfl, by decide +kernel, by decide +kernel⟩
theorem ok_blind_of {f : Addr} {fd : FuncData} (d : Def K mg "blind_of" s_blind_of ["sounder"] f fd) (T : Nm K mg t_LEAST_PERIOD t_MOST_DELAYS t_MOST_LOOKS t_MOST_PERIOD t_MOST_RANGE t_MOST_RESTS t_MOST_SHIFT t_SOUNDER_SIZE) : Cal P w K mg base "blind_of" s_blind_of ["sounder"] 1 1 m_blind_of := by
  show Cal P w K mg base "blind_of" s_blind_of ["sounder"] (0 + 1) 1 (fnD 1 b_blind_of)
  refine cal_of d sc_blind_of rfl rfl fun cdv A outer s H E hr => ?_
  have tk : Tk (cxOf (L2.CX P w) P w K mg base ["sounder"] "blind_of" (defScope s_blind_of) f cdv A outer s H E) (fun c d _ H => E c d H) := tk_of (takes_of rfl rfl rfl rfl)
  have pw : PassesOwn (model P w) (cxOf (L2.CX P w) P w K mg base ["sounder"] "blind_of" (defScope s_blind_of) f cdv A outer s H E).A (cxOf (L2.CX P w) P w K mg base ["sounder"] "blind_of" (defScope s_blind_of) f cdv A outer s H E).env (cxOf (L2.CX P w) P w K mg base ["sounder"] "blind_of" (defScope s_blind_of) f cdv A outer s H E).xe := passes_of rfl
  have u64 := hr.units
  have u65 := room65 hr
  have nd := sc_blind_of.nd
  exact (ds_cons (ds_ret (de_ix r_ix (de_var (i := 0)) de_int)) ds_nil)
theorem sc_period_by : FnScope ["sounder", "side"] ["sounder", "side"] (defScope s_period_by) := ⟨rfl, rfl, rfl, by decide +kernel, rfl, by decide +kernel, by decide +kernel⟩
theorem ok_period_by {f : Addr} {fd : FuncData} (d : Def K mg "period_by" s_period_by ["sounder", "side"] f fd) (T : Nm K mg t_LEAST_PERIOD t_MOST_DELAYS t_MOST_LOOKS t_MOST_PERIOD t_MOST_RANGE t_MOST_RESTS t_MOST_SHIFT t_SOUNDER_SIZE) : Cal P w K mg base "period_by" s_period_by ["sounder", "side"] 1 2 m_period_by := by
  show Cal P w K mg base "period_by" s_period_by ["sounder", "side"] (0 + 1) 2 (fnD 2 b_period_by)
  refine cal_of d sc_period_by rfl rfl fun cdv A outer s H E hr => ?_
  have tk : Tk (cxOf (L2.CX P w) P w K mg base ["sounder", "side"] "period_by" (defScope s_period_by) f cdv A outer s H E) (fun c d _ H => E c d H) := tk_of (takes_of rfl rfl rfl rfl)
  have pw : PassesOwn (model P w) (cxOf (L2.CX P w) P w K mg base ["sounder", "side"] "period_by" (defScope s_period_by) f cdv A outer s H E).A (cxOf (L2.CX P w) P w K mg base ["sounder", "side"] "period_by" (defScope s_period_by) f cdv A outer s H E).env (cxOf (L2.CX P w) P w K mg base ["sounder", "side"] "period_by" (defScope s_period_by) f cdv A outer s H E).xe := passes_of rfl
  have u64 := hr.units
  have u65 := room65 hr
  have nd := sc_period_by.nd
  exact (ds_cons (ds_ret (de_ix r_ix (de_var (i := 0)) (de_var (i := 1)))) ds_nil)
theorem sc_is_rest_of : FnScope ["sounder", "side", "value"] ["sounder", "side", "value"] (defScope s_is_rest_of) := ⟨rfl, rfl, rfl, by decide +kernel, rfl, by decide +kernel, by decide +kernel⟩
theorem ok_is_rest_of {f : Addr} {fd : FuncData} (d : Def K mg "is_rest_of" s_is_rest_of ["sounder", "side", "value"] f fd) (T : Nm K mg t_LEAST_PERIOD t_MOST_DELAYS t_MOST_LOOKS t_MOST_PERIOD t_MOST_RANGE t_MOST_RESTS t_MOST_SHIFT t_SOUNDER_SIZE) (c_is_between : Cal P w K mg base "is_between" s_is_between ["value", "low", "high"] 2 3 m_is_between) (c_period_by : Cal P w K mg base "period_by" s_period_by ["sounder", "side"] 1 2 m_period_by) (c_blind_of : Cal P w K mg base "blind_of" s_blind_of ["sounder"] 1 1 m_blind_of) : Cal P w K mg base "is_rest_of" s_is_rest_of ["sounder", "side", "value"] 3 3 m_is_rest_of := by
  show Cal P w K mg base "is_rest_of" s_is_rest_of ["sounder", "side", "value"] (2 + 1) 3 (fnD 3 b_is_rest_of)
  refine cal_of d sc_is_rest_of rfl rfl fun cdv A outer s H E hr => ?_
  have tk : Tk (cxOf (L2.CX P w) P w K mg base ["sounder", "side", "value"] "is_rest_of" (defScope s_is_rest_of) f cdv A outer s H E) (fun c d _ H => E c d H) := tk_of (takes_of rfl rfl rfl rfl)
  have pw : PassesOwn (model P w) (cxOf (L2.CX P w) P w K mg base ["sounder", "side", "value"] "is_rest_of" (defScope s_is_rest_of) f cdv A outer s H E).A (cxOf (L2.CX P w) P w K mg base ["sounder", "side", "value"] "is_rest_of" (defScope s_is_rest_of) f cdv A outer s H E).env (cxOf (L2.CX P w) P w K mg base ["sounder", "side", "value"] "is_rest_of" (defScope s_is_rest_of) f cdv A outer s H E).xe := passes_of rfl
  have u64 := hr.units
  have u65 := room65 hr
  have nd := sc_is_rest_of.nd
  exact (ds_cons (ds_ret (cc c_is_between hr tk (da_cons (de_var (i := 2)) (da_cons (cc c_blind_of hr tk (da_cons (de_var (i := 0)) da_nil)) (da_cons (de_bin r_sub (cc c_period_by hr tk (da_cons (de_var (i := 0)) (da_cons (de_var (i := 1)) da_nil))) de_int) da_nil))))) ds_nil)
theorem sc_are_rests_of : FnScope ["sounder", "side", "value", "each"] ["sounder", "side", "value"] (defScope s_are_rests_of) := ⟨rfl, rfl, rfl, by decide +kernel, rfl, by decide +kernel, by decide +kernel⟩
theorem ok_are_rests_of {f : Addr} {fd : FuncData} (d : Def K mg "are_rests_of" s_are_rests_of ["sounder", "side", "value"] f fd) (T : Nm K mg t_LEAST_PERIOD t_MOST_DELAYS t_MOST_LOOKS t_MOST_PERIOD t_MOST_RANGE t_MOST_RESTS t_MOST_SHIFT t_SOUNDER_SIZE) (c_is_rest_of : Cal P w K mg base "is_rest_of" s_is_rest_of ["sounder", "side", "value"] 3 3 m_is_rest_of) (c_are_rising : Cal P w K mg base "are_rising" s_are_rising ["values"] 1 1 m_are_rising) : Cal P w K mg base "are_rests_of" s_are_rests_of ["sounder", "side", "value"] 4 3 m_are_rests_of := by
  show Cal P w K mg base "are_rests_of" s_are_rests_of ["sounder", "side", "value"] (3 + 1) 3 (fnD 4 b_are_rests_of)
  refine cal_of d sc_are_rests_of rfl rfl fun cdv A outer s H E hr => ?_
  have tk : Tk (cxOf (L2.CX P w) P w K mg base ["sounder", "side", "value", "each"] "are_rests_of" (defScope s_are_rests_of) f cdv A outer s H E) (fun c d _ H => E c d H) := tk_of (takes_of rfl rfl rfl rfl)
  have pw : PassesOwn (model P w) (cxOf (L2.CX P w) P w K mg base ["sounder", "side", "value", "each"] "are_rests_of" (defScope s_are_rests_of) f cdv A outer s H E).A (cxOf (L2.CX P w) P w K mg base ["sounder", "side", "value", "each"] "are_rests_of" (defScope s_are_rests_of) f cdv A outer s H E).env (cxOf (L2.CX P w) P w K mg base ["sounder", "side", "value", "each"] "are_rests_of" (defScope s_are_rests_of) f cdv A outer s H E).xe := passes_of rfl
  have u64 := hr.units
  have u65 := room65 hr
  have nd := sc_are_rests_of.nd
  exact (ds_cons (ds_if (PW.pt (dw_or (dt_not (dt_truth (de_blt (c_isi .n4) (by rfl) T.n_isinstance (by decide +kernel) (da_cons (de_var (i := 2)) (da_cons (de_ty (by rfl) T.n_tuple (by decide +kernel)) da_nil))))) (dw_or1 (dt_not (dt_truth (de_blt (c_all rfl) (by rfl) T.n_all (by decide +kernel) (da_cons (de_lc [("each", 3)] rfl nd (di_seq (de_var (i := 2))) (fun _ _ _ _ _ => (dg_name nd)) (fun _ _ _ _ _ => dts_nil) (fun _ _ _ _ _ => (cc c_is_rest_of hr tk0 (da_cons (de_var (i := 0)) (da_cons (de_var (i := 1)) (da_cons (de_var (i := 3)) da_nil))))) (ok := by show blkC ["sounder", "side", "value", "each"] (defScope s_are_rests_of) _ [("each", 3)] = true; decide +kernel)) da_nil))))))) (ds_cons (ds_ret de_bl) ds_nil) ds_nil)
    (ds_cons (ds_ret (cc c_are_rising hr tk (da_cons (de_var (i := 2)) da_nil))) ds_nil))
theorem sc_is_heard_pair_of : FnScope ["sounder", "value", "side"] ["sounder", "value"] (defScope s_is_heard_pair_of) := ⟨rfl, rfl, rfl, by decide +kernel, rfl, by decide +kernel, by decide +kernel⟩
theorem ok_is_heard_pair_of {f : Addr} {fd : FuncData} (d : Def K mg "is_heard_pair_of" s_is_heard_pair_of ["sounder", "value"] f fd) (T : Nm K mg t_LEAST_PERIOD t_MOST_DELAYS t_MOST_LOOKS t_MOST_PERIOD t_MOST_RANGE t_MOST_RESTS t_MOST_SHIFT t_SOUNDER_SIZE) (c_is_pair : Cal P w K mg base "is_pair" s_is_pair ["value"] 3 1 m_is_pair) (c_are_rests_of : Cal P w K mg base "are_rests_of" s_are_rests_of ["sounder", "side", "value"] 4 3 m_are_rests_of) : Cal P w K mg base "is_heard_pair_of" s_is_heard_pair_of ["sounder", "value"] 5 2 m_is_heard_pair_of := by
  show Cal P w K mg base "is_heard_pair_of" s_is_heard_pair_of ["sounder", "value"] (4 + 1) 2 (fnD 3 b_is_heard_pair_of)
  refine cal_of d sc_is_heard_pair_of rfl rfl fun cdv A outer s H E hr => ?_
  have tk : Tk (cxOf (L2.CX P w) P w K mg base ["sounder", "value", "side"] "is_heard_pair_of" (defScope s_is_heard_pair_of) f cdv A outer s H E) (fun c d _ H => E c d H) := tk_of (takes_of rfl rfl rfl rfl)
  have pw : PassesOwn (model P w) (cxOf (L2.CX P w) P w K mg base ["sounder", "value", "side"] "is_heard_pair_of" (defScope s_is_heard_pair_of) f cdv A outer s H E).A (cxOf (L2.CX P w) P w K mg base ["sounder", "value", "side"] "is_heard_pair_of" (defScope s_is_heard_pair_of) f cdv A outer s H E).env (cxOf (L2.CX P w) P w K mg base ["sounder", "value", "side"] "is_heard_pair_of" (defScope s_is_heard_pair_of) f cdv A outer s H E).xe := passes_of rfl
  have u64 := hr.units
  have u65 := room65 hr
  have nd := sc_is_heard_pair_of.nd
  exact (ds_cons (ds_if (PW.pt (dw_or (dt_not (dt_truth (cc c_is_pair hr tk (da_cons (de_var (i := 1)) da_nil)))) (dw_or1 (dt_not (dt_truth (de_blt (c_all rfl) (by rfl) T.n_all (by decide +kernel) (da_cons (de_lc [("side", 2)] rfl nd (di_seq (de_globK T.k_SIDES)) (fun _ _ _ _ _ => (dg_name nd)) (fun _ _ _ _ _ => dts_nil) (fun _ _ _ _ _ => (cc c_are_rests_of hr tk0 (da_cons (de_var (i := 0)) (da_cons (de_var (i := 2)) (da_cons (de_ix r_ix (de_var (i := 1)) (de_var (i := 2))) da_nil))))) (ok := by show blkC ["sounder", "value", "side"] (defScope s_is_heard_pair_of) _ [("side", 2)] = true; decide +kernel)) da_nil))))))) (ds_cons (ds_ret de_bl) ds_nil) ds_nil)
    (ds_cons (ds_ret (de_and (de_cmp r_le (de_blt c_len (by rfl) T.n_len (by decide +kernel) (da_cons (de_ix r_ix (de_var (i := 1)) de_int) da_nil)) (de_globI T.k_MOST_RESTS)) (de_one (de_cmp r_le (de_blt c_len (by rfl) T.n_len (by decide +kernel) (da_cons (de_ix r_ix (de_var (i := 1)) de_int) da_nil)) (de_globI T.k_MOST_RESTS))))) ds_nil))
theorem sc_is_shifted_look : FnScope ["sounder", "value"] ["sounder", "value"] (defScope s_is_shifted_look) := ⟨rfl, rfl, rfl, by decide +kernel, rfl, by decide +kernel, by decide +kernel⟩
theorem ok_is_shifted_look {f : Addr} {fd : FuncData} (d : Def K mg "is_shifted_look" s_is_shifted_look ["sounder", "value"] f fd) (T : Nm K mg t_LEAST_PERIOD t_MOST_DELAYS t_MOST_LOOKS t_MOST_PERIOD t_MOST_RANGE t_MOST_RESTS t_MOST_SHIFT t_SOUNDER_SIZE) (c_is_pair : Cal P w K mg base "is_pair" s_is_pair ["value"] 3 1 m_is_pair) (c_is_shift : Cal P w K mg base "is_shift" s_is_shift ["value"] 3 1 m_is_shift) (c_is_heard_pair_of : Cal P w K mg base "is_heard_pair_of" s_is_heard_pair_of ["sounder", "value"] 5 2 m_is_heard_pair_of) : Cal P w K mg base "is_shifted_look" s_is_shifted_look ["sounder", "value"] 6 2 m_is_shifted_look := by
  show Cal P w K mg base "is_shifted_look" s_is_shifted_look ["sounder", "value"] (5 + 1) 2 (fnD 2 b_is_shifted_look)
  refine cal_of d sc_is_shifted_look rfl rfl fun cdv A outer s H E hr => ?_
  have tk : Tk (cxOf (L2.CX P w) P w K mg base ["sounder", "value"] "is_shifted_look" (defScope s_is_shifted_look) f cdv A outer s H E) (fun c d _ H => E c d H) := tk_of (takes_of rfl rfl rfl rfl)
  have pw : PassesOwn (model P w) (cxOf (L2.CX P w) P w K mg base ["sounder", "value"] "is_shifted_look" (defScope s_is_shifted_look) f cdv A outer s H E).A (cxOf (L2.CX P w) P w K mg base ["sounder", "value"] "is_shifted_look" (defScope s_is_shifted_look) f cdv A outer s H E).env (cxOf (L2.CX P w) P w K mg base ["sounder", "value"] "is_shifted_look" (defScope s_is_shifted_look) f cdv A outer s H E).xe := passes_of rfl
  have u64 := hr.units
  have u65 := room65 hr
  have nd := sc_is_shifted_look.nd
  exact (ds_cons (ds_ret (de_and (cc c_is_pair hr tk (da_cons (de_var (i := 1)) da_nil)) (de_and (cc c_is_shift hr tk (da_cons (de_ix r_ix (de_var (i := 1)) de_int) da_nil)) (de_one (cc c_is_heard_pair_of hr tk (da_cons (de_var (i := 0)) (da_cons (de_ix r_ix (de_var (i := 1)) de_int) da_nil))))))) ds_nil)
theorem sc_wrong_in_looks : FnScope ["sounder", "value", "index", "each"] ["sounder", "value"] (defScope s_wrong_in_looks) := ⟨rfl, rfl, rfl, by decide +kernel, rfl, by decide +kernel, by decide +kernel⟩
theorem ok_wrong_in_looks {f : Addr} {fd : FuncData} (d : Def K mg "wrong_in_looks" s_wrong_in_looks ["sounder", "value"] f fd) (T : Nm K mg t_LEAST_PERIOD t_MOST_DELAYS t_MOST_LOOKS t_MOST_PERIOD t_MOST_RANGE t_MOST_RESTS t_MOST_SHIFT t_SOUNDER_SIZE) (c_is_tuple_up_to : Cal P w K mg base "is_tuple_up_to" s_is_tuple_up_to ["value", "low", "high"] 1 3 m_is_tuple_up_to) (c_is_shifted_look : Cal P w K mg base "is_shifted_look" s_is_shifted_look ["sounder", "value"] 6 2 m_is_shifted_look) : Cal P w K mg base "wrong_in_looks" s_wrong_in_looks ["sounder", "value"] 7 2 m_wrong_in_looks := by
  show Cal P w K mg base "wrong_in_looks" s_wrong_in_looks ["sounder", "value"] (6 + 1) 2 (fnD 4 b_wrong_in_looks)
  refine cal_of d sc_wrong_in_looks rfl rfl fun cdv A outer s H E hr => ?_
  have tk : Tk (cxOf (L2.CX P w) P w K mg base ["sounder", "value", "index", "each"] "wrong_in_looks" (defScope s_wrong_in_looks) f cdv A outer s H E) (fun c d _ H => E c d H) := tk_of (takes_of rfl rfl rfl rfl)
  have pw : PassesOwn (model P w) (cxOf (L2.CX P w) P w K mg base ["sounder", "value", "index", "each"] "wrong_in_looks" (defScope s_wrong_in_looks) f cdv A outer s H E).A (cxOf (L2.CX P w) P w K mg base ["sounder", "value", "index", "each"] "wrong_in_looks" (defScope s_wrong_in_looks) f cdv A outer s H E).env (cxOf (L2.CX P w) P w K mg base ["sounder", "value", "index", "each"] "wrong_in_looks" (defScope s_wrong_in_looks) f cdv A outer s H E).xe := passes_of rfl
  have u64 := hr.units
  have u65 := room65 hr
  have nd := sc_wrong_in_looks.nd
  exact (ds_cons (ds_if (dt_not (dt_truth (cc c_is_tuple_up_to hr tk (da_cons (de_var (i := 1)) (da_cons de_int (da_cons (de_globI T.k_MOST_LOOKS) da_nil)))))) (ds_cons (ds_ret (de_lstN (n := 1) (da_cons de_non da_nil) (lenCons lenNil))) ds_nil) ds_nil)
    (ds_cons (ds_ret (de_sl (de_lc [("index", 2), ("each", 3)] rfl nd (di_enumT T.n_enumerate (da_cons (de_var (i := 1)) da_nil)) (fun _ _ _ _ _ => (dg_tup rfl (dgs_cons (dg_name nd) (dgs_cons (dg_name nd) dgs_nil)))) (fun _ _ _ _ _ => (dts_one (dt_not (dt_truth (cc c_is_shifted_look hr tk0 (da_cons (de_var (i := 0)) (da_cons (de_var (i := 3)) da_nil))))))) (fun _ _ _ _ _ => (de_var (i := 2))) (ok := by show blkC ["sounder", "value", "index", "each"] (defScope s_wrong_in_looks) _ [("index", 2), ("each", 3)] = true; decide +kernel)) do_none (do_some de_int))) ds_nil))
theorem sc_check_looks : FnScope ["sounder", "looks", "index"] ["sounder", "looks"] (defScope s_check_looks) := ⟨rfl, rfl, rfl, by decide +kernel, rfl, by decide +kernel, by decide +kernel⟩
theorem ok_check_looks {f : Addr} {fd : FuncData} (d : Def K mg "check_looks" s_check_looks ["sounder", "looks"] f fd) (T : Nm K mg t_LEAST_PERIOD t_MOST_DELAYS t_MOST_LOOKS t_MOST_PERIOD t_MOST_RANGE t_MOST_RESTS t_MOST_SHIFT t_SOUNDER_SIZE) (c_check_sounder : Cal P w K mg base "check_sounder" s_check_sounder ["sounder"] 5 1 m_check_sounder) (c_wrong_in_looks : Cal P w K mg base "wrong_in_looks" s_wrong_in_looks ["sounder", "value"] 7 2 m_wrong_in_looks) : Cal P w K mg base "check_looks" s_check_looks ["sounder", "looks"] 8 2 m_check_looks := by
  show Cal P w K mg base "check_looks" s_check_looks ["sounder", "looks"] (7 + 1) 2 (fnD 3 b_check_looks)
  refine cal_of d sc_check_looks rfl rfl fun cdv A outer s H E hr => ?_
  have tk : Tk (cxOf (L2.CX P w) P w K mg base ["sounder", "looks", "index"] "check_looks" (defScope s_check_looks) f cdv A outer s H E) (fun c d _ H => E c d H) := tk_of (takes_of rfl rfl rfl rfl)
  have pw : PassesOwn (model P w) (cxOf (L2.CX P w) P w K mg base ["sounder", "looks", "index"] "check_looks" (defScope s_check_looks) f cdv A outer s H E).A (cxOf (L2.CX P w) P w K mg base ["sounder", "looks", "index"] "check_looks" (defScope s_check_looks) f cdv A outer s H E).env (cxOf (L2.CX P w) P w K mg base ["sounder", "looks", "index"] "check_looks" (defScope s_check_looks) f cdv A outer s H E).xe := passes_of rfl
  have u64 := hr.units
  have u65 := room65 hr
  have nd := sc_check_looks.nd
  exact (ds_cons (ds_expr (cc c_check_sounder hr tk (da_cons (de_var (i := 0)) da_nil)))
    (ds_cons (ds_for pw rfl (di_seq (cc c_wrong_in_looks hr tk (da_cons (de_var (i := 0)) (da_cons (de_var (i := 1)) da_nil)))) (dg_name nd) ne_name (ds_cons ds_never ds_nil)) ds_nil))
theorem sc_marked_of : FnScope ["rows", "needed", "delay", "marks", "mark"] ["rows", "needed"] (defScope s_marked_of) := ⟨rfl, rfl, rfl, by decide +kernel, rfl, by decide +kernel, by decide +kernel⟩
theorem ok_marked_of {f : Addr} {fd : FuncData} (d : Def K mg "marked_of" s_marked_of ["rows", "needed"] f fd) (T : Nm K mg t_LEAST_PERIOD t_MOST_DELAYS t_MOST_LOOKS t_MOST_PERIOD t_MOST_RANGE t_MOST_RESTS t_MOST_SHIFT t_SOUNDER_SIZE) : Cal P w K mg base "marked_of" s_marked_of ["rows", "needed"] 1 2 m_marked_of := by
  show Cal P w K mg base "marked_of" s_marked_of ["rows", "needed"] (0 + 1) 2 (fnD 5 b_marked_of)
  refine cal_of d sc_marked_of rfl rfl fun cdv A outer s H E hr => ?_
  have tk : Tk (cxOf (L2.CX P w) P w K mg base ["rows", "needed", "delay", "marks", "mark"] "marked_of" (defScope s_marked_of) f cdv A outer s H E) (fun c d _ H => E c d H) := tk_of (takes_of rfl rfl rfl rfl)
  have pw : PassesOwn (model P w) (cxOf (L2.CX P w) P w K mg base ["rows", "needed", "delay", "marks", "mark"] "marked_of" (defScope s_marked_of) f cdv A outer s H E).A (cxOf (L2.CX P w) P w K mg base ["rows", "needed", "delay", "marks", "mark"] "marked_of" (defScope s_marked_of) f cdv A outer s H E).env (cxOf (L2.CX P w) P w K mg base ["rows", "needed", "delay", "marks", "mark"] "marked_of" (defScope s_marked_of) f cdv A outer s H E).xe := passes_of rfl
  have u64 := hr.units
  have u65 := room65 hr
  have nd := sc_marked_of.nd
  exact (ds_cons (ds_ret (de_dc1K [("delay", 2), ("marks", 3)] rfl nd (di_seq (de_var (i := 0))) (fun _ _ _ _ _ => (dg_tup rfl (dgs_cons (dg_name nd) (dgs_cons (dg_name nd) dgs_nil)))) (fun _ _ _ _ _ => (dts_one (PW.pt (dw_and (dt_cmp (r_ne u64) (de_var (i := 3)) (de_lstN (n := 0) da_nil lenNil)) (dw_and1 (dt_truth (de_blt (c_all rfl) (by rfl) T.n_all (by decide +kernel) (da_cons (de_lc [("mark", 4)] rfl nd (di_seq (de_var (i := 3))) (fun _ _ _ _ _ => (dg_name nd)) (fun _ _ _ _ _ => dts_nil) (fun _ _ _ _ _ => (de_cmp (r_inK u64) (de_var (i := 4)) (de_var (i := 1)))) (ok := by show blkC ["rows", "needed", "delay", "marks", "mark"] (relS _ (defScope s_marked_of)) _ [("mark", 4)] = true; decide +kernel)) da_nil)))))))) (fun _ _ _ _ _ => (de_var (i := 2))) (fun _ _ _ _ _ => (de_var (i := 3))) (ok := by show blkC ["rows", "needed", "delay", "marks", "mark"] (defScope s_marked_of) _ [("delay", 2), ("marks", 3)] = true; decide +kernel))) ds_nil)
theorem sc_needed_marks : FnScope ["heards", "rows", "side", "rest", "mark", "index", "heard"] ["heards"] (defScope s_needed_marks) := ⟨rfl, rfl, rfl, by decide +kernel, rfl, by decide +kernel, by decide +kernel⟩
theorem ok_needed_marks {f : Addr} {fd : FuncData} (d : Def K mg "needed_marks" s_needed_marks ["heards"] f fd) (T : Nm K mg t_LEAST_PERIOD t_MOST_DELAYS t_MOST_LOOKS t_MOST_PERIOD t_MOST_RANGE t_MOST_RESTS t_MOST_SHIFT t_SOUNDER_SIZE) : Cal P w K mg base "needed_marks" s_needed_marks ["heards"] 1 1 m_needed_marks := by
  show Cal P w K mg base "needed_marks" s_needed_marks ["heards"] (0 + 1) 1 (fnD 7 b_needed_marks)
  refine cal_of d sc_needed_marks rfl rfl fun cdv A outer s H E hr => ?_
  have tk : Tk (cxOf (L2.CX P w) P w K mg base ["heards", "rows", "side", "rest", "mark", "index", "heard"] "needed_marks" (defScope s_needed_marks) f cdv A outer s H E) (fun c d _ H => E c d H) := tk_of (takes_of rfl rfl rfl rfl)
  have pw : PassesOwn (model P w) (cxOf (L2.CX P w) P w K mg base ["heards", "rows", "side", "rest", "mark", "index", "heard"] "needed_marks" (defScope s_needed_marks) f cdv A outer s H E).A (cxOf (L2.CX P w) P w K mg base ["heards", "rows", "side", "rest", "mark", "index", "heard"] "needed_marks" (defScope s_needed_marks) f cdv A outer s H E).env (cxOf (L2.CX P w) P w K mg base ["heards", "rows", "side", "rest", "mark", "index", "heard"] "needed_marks" (defScope s_needed_marks) f cdv A outer s H E).xe := passes_of rfl
  have u64 := hr.units
  have u65 := room65 hr
  have nd := sc_needed_marks.nd
  exact (ds_cons (by first | exact (ds_setLc3 [("side", 2), ("rest", 3), ("index", 5), ("heard", 6)] [2, 3] [3] rfl nd (di_enumA T.n_enumerate (da_cons (de_var (i := 0)) da_nil)) (fun _ _ _ _ _ => (dg_tup rfl (dgs_cons (dg_name nd) (dgs_cons (dg_name nd) dgs_nil)))) (fun _ _ _ _ _ => dts_nil) (fun _ _ _ _ _ => (di_seq (de_tupN (n := 2) (da_cons de_int (da_cons de_int da_nil)) (lenCons (lenCons lenNil))))) (fun _ _ _ _ _ => (dg_name nd)) (fun _ _ _ _ _ => dts_nil) (fun _ _ _ _ _ => (di_seq (de_ix r_ix (de_var (i := 6)) (de_var (i := 2))))) (fun _ _ _ _ _ => (dg_name nd)) (fun _ _ _ _ _ => dts_nil) (fun _ _ _ _ _ => (de_tupN (n := 3) (da_cons (de_var (i := 5)) (da_cons (de_var (i := 2)) (da_cons (de_var (i := 3)) da_nil))) (lenCons (lenCons (lenCons lenNil))))) (ok := by show blkC ["heards", "rows", "side", "rest", "mark", "index", "heard"] (defScope s_needed_marks) _ [("side", 2), ("rest", 3), ("index", 5), ("heard", 6)] = true; decide +kernel)) | exact (ds_set nd (de_lc3 [("side", 2), ("rest", 3), ("index", 5), ("heard", 6)] [2, 3] [3] rfl nd (di_enumA T.n_enumerate (da_cons (de_var (i := 0)) da_nil)) (fun _ _ _ _ _ => (dg_tup rfl (dgs_cons (dg_name nd) (dgs_cons (dg_name nd) dgs_nil)))) (fun _ _ _ _ _ => dts_nil) (fun _ _ _ _ _ => (di_seq (de_tupN (n := 2) (da_cons de_int (da_cons de_int da_nil)) (lenCons (lenCons lenNil))))) (fun _ _ _ _ _ => (dg_name nd)) (fun _ _ _ _ _ => dts_nil) (fun _ _ _ _ _ => (di_seq (de_ix r_ix (de_var (i := 6)) (de_var (i := 2))))) (fun _ _ _ _ _ => (dg_name nd)) (fun _ _ _ _ _ => dts_nil) (fun _ _ _ _ _ => (de_tupN (n := 3) (da_cons (de_var (i := 5)) (da_cons (de_var (i := 2)) (da_cons (de_var (i := 3)) da_nil))) (lenCons (lenCons (lenCons lenNil))))) (ok := by show blkC ["heards", "rows", "side", "rest", "mark", "index", "heard"] (defScope s_needed_marks) _ [("side", 2), ("rest", 3), ("index", 5), ("heard", 6)] = true; decide +kernel))))
    (ds_cons (ds_ret (de_dc1T [("mark", 4)] rfl u64 nd (di_seq (de_var (i := 1))) (fun _ _ _ _ _ => (dg_name nd)) (fun _ _ _ _ _ => dts_nil) (fun _ _ _ _ _ => (de_var (i := 4))) (fun _ _ _ _ _ => de_bl) (ok := by show blkC ["heards", "rows", "side", "rest", "mark", "index", "heard"] (defScope s_needed_marks) _ [("mark", 4)] = true; decide +kernel))) ds_nil))
theorem sc_needed_in : FnScope ["looks", "_", "heard"] ["looks"] (defScope s_needed_in) := ⟨rfl, rfl, rfl, by decide +kernel, rfl, by decide +kernel, by decide +kernel⟩
theorem ok_needed_in {f : Addr} {fd : FuncData} (d : Def K mg "needed_in" s_needed_in ["looks"] f fd) (T : Nm K mg t_LEAST_PERIOD t_MOST_DELAYS t_MOST_LOOKS t_MOST_PERIOD t_MOST_RANGE t_MOST_RESTS t_MOST_SHIFT t_SOUNDER_SIZE) (c_needed_marks : Cal P w K mg base "needed_marks" s_needed_marks ["heards"] 1 1 m_needed_marks) : Cal P w K mg base "needed_in" s_needed_in ["looks"] 2 1 m_needed_in := by
  show Cal P w K mg base "needed_in" s_needed_in ["looks"] (1 + 1) 1 (fnD 3 b_needed_in)
  refine cal_of d sc_needed_in rfl rfl fun cdv A outer s H E hr => ?_
  have tk : Tk (cxOf (L2.CX P w) P w K mg base ["looks", "_", "heard"] "needed_in" (defScope s_needed_in) f cdv A outer s H E) (fun c d _ H => E c d H) := tk_of (takes_of rfl rfl rfl rfl)
  have pw : PassesOwn (model P w) (cxOf (L2.CX P w) P w K mg base ["looks", "_", "heard"] "needed_in" (defScope s_needed_in) f cdv A outer s H E).A (cxOf (L2.CX P w) P w K mg base ["looks", "_", "heard"] "needed_in" (defScope s_needed_in) f cdv A outer s H E).env (cxOf (L2.CX P w) P w K mg base ["looks", "_", "heard"] "needed_in" (defScope s_needed_in) f cdv A outer s H E).xe := passes_of rfl
  have u64 := hr.units
  have u65 := room65 hr
  have nd := sc_needed_in.nd
  exact (ds_cons (ds_ret (cc c_needed_marks hr tk (da_cons (de_lc [("_", 1), ("heard", 2)] rfl nd (di_seq (de_var (i := 0))) (fun _ _ _ _ _ => (dg_tup rfl (dgs_cons (dg_name nd) (dgs_cons (dg_name nd) dgs_nil)))) (fun _ _ _ _ _ => dts_nil) (fun _ _ _ _ _ => (de_var (i := 2))) (ok := by show blkC ["looks", "_", "heard"] (defScope s_needed_in) _ [("_", 1), ("heard", 2)] = true; decide +kernel)) da_nil))) ds_nil)
theorem sc_rest_by : FnScope ["sounder", "side", "delay"] ["sounder", "side", "delay"] (defScope s_rest_by) := ⟨rfl, rfl, rfl, by decide +kernel, rfl, by decide +kernel, by decide +kernel⟩
theorem ok_rest_by {f : Addr} {fd : FuncData} (d : Def K mg "rest_by" s_rest_by ["sounder", "side", "delay"] f fd) (T : Nm K mg t_LEAST_PERIOD t_MOST_DELAYS t_MOST_LOOKS t_MOST_PERIOD t_MOST_RANGE t_MOST_RESTS t_MOST_SHIFT t_SOUNDER_SIZE) (c_period_by : Cal P w K mg base "period_by" s_period_by ["sounder", "side"] 1 2 m_period_by) : Cal P w K mg base "rest_by" s_rest_by ["sounder", "side", "delay"] 2 3 m_rest_by := by
  show Cal P w K mg base "rest_by" s_rest_by ["sounder", "side", "delay"] (1 + 1) 3 (fnD 3 b_rest_by)
  refine cal_of d sc_rest_by rfl rfl fun cdv A outer s H E hr => ?_
  have tk : Tk (cxOf (L2.CX P w) P w K mg base ["sounder", "side", "delay"] "rest_by" (defScope s_rest_by) f cdv A outer s H E) (fun c d _ H => E c d H) := tk_of (takes_of rfl rfl rfl rfl)
  have pw : PassesOwn (model P w) (cxOf (L2.CX P w) P w K mg base ["sounder", "side", "delay"] "rest_by" (defScope s_rest_by) f cdv A outer s H E).A (cxOf (L2.CX P w) P w K mg base ["sounder", "side", "delay"] "rest_by" (defScope s_rest_by) f cdv A outer s H E).env (cxOf (L2.CX P w) P w K mg base ["sounder", "side", "delay"] "rest_by" (defScope s_rest_by) f cdv A outer s H E).xe := passes_of rfl
  have u64 := hr.units
  have u65 := room65 hr
  have nd := sc_rest_by.nd
  exact (ds_cons (ds_ret (de_bin r_mod (de_bty c_int (by rfl) T.n_int (by decide +kernel) (da_cons (de_var (i := 2)) da_nil)) (cc c_period_by hr tk (da_cons (de_var (i := 0)) (da_cons (de_var (i := 1)) da_nil))))) ds_nil)
theorem sc_hears : FnScope ["sounder", "side", "delay"] ["sounder", "side", "delay"] (defScope s_hears) := ⟨rfl, rfl, rfl, by decide +kernel, rfl, by decide +kernel, by decide +kernel⟩
theorem ok_hears {f : Addr} {fd : FuncData} (d : Def K mg "hears" s_hears ["sounder", "side", "delay"] f fd) (T : Nm K mg t_LEAST_PERIOD t_MOST_DELAYS t_MOST_LOOKS t_MOST_PERIOD t_MOST_RANGE t_MOST_RESTS t_MOST_SHIFT t_SOUNDER_SIZE) (c_rest_by : Cal P w K mg base "rest_by" s_rest_by ["sounder", "side", "delay"] 2 3 m_rest_by) (c_blind_of : Cal P w K mg base "blind_of" s_blind_of ["sounder"] 1 1 m_blind_of) : Cal P w K mg base "hears" s_hears ["sounder", "side", "delay"] 3 3 m_hears := by
  show Cal P w K mg base "hears" s_hears ["sounder", "side", "delay"] (2 + 1) 3 (fnD 3 b_hears)
  refine cal_of d sc_hears rfl rfl fun cdv A outer s H E hr => ?_
  have tk : Tk (cxOf (L2.CX P w) P w K mg base ["sounder", "side", "delay"] "hears" (defScope s_hears) f cdv A outer s H E) (fun c d _ H => E c d H) := tk_of (takes_of rfl rfl rfl rfl)
  have pw : PassesOwn (model P w) (cxOf (L2.CX P w) P w K mg base ["sounder", "side", "delay"] "hears" (defScope s_hears) f cdv A outer s H E).A (cxOf (L2.CX P w) P w K mg base ["sounder", "side", "delay"] "hears" (defScope s_hears) f cdv A outer s H E).env (cxOf (L2.CX P w) P w K mg base ["sounder", "side", "delay"] "hears" (defScope s_hears) f cdv A outer s H E).xe := passes_of rfl
  have u64 := hr.units
  have u65 := room65 hr
  have nd := sc_hears.nd
  exact (ds_cons (ds_ret (de_cmp r_ge (cc c_rest_by hr tk (da_cons (de_var (i := 0)) (da_cons (de_var (i := 1)) (da_cons (de_var (i := 2)) da_nil)))) (cc c_blind_of hr tk (da_cons (de_var (i := 0)) da_nil)))) ds_nil)
theorem sc_marks_of : FnScope ["sounder", "delay", "side"] ["sounder", "delay"] (defScope s_marks_of) := ⟨rfl, rfl, rfl, by decide +kernel, rfl, by decide +kernel, by decide +kernel⟩
theorem ok_marks_of {f : Addr} {fd : FuncData} (d : Def K mg "marks_of" s_marks_of ["sounder", "delay"] f fd) (T : Nm K mg t_LEAST_PERIOD t_MOST_DELAYS t_MOST_LOOKS t_MOST_PERIOD t_MOST_RANGE t_MOST_RESTS t_MOST_SHIFT t_SOUNDER_SIZE) (c_hears : Cal P w K mg base "hears" s_hears ["sounder", "side", "delay"] 3 3 m_hears) (c_rest_by : Cal P w K mg base "rest_by" s_rest_by ["sounder", "side", "delay"] 2 3 m_rest_by) : Cal P w K mg base "marks_of" s_marks_of ["sounder", "delay"] 4 2 m_marks_of := by
  show Cal P w K mg base "marks_of" s_marks_of ["sounder", "delay"] (3 + 1) 2 (fnD 3 b_marks_of)
  refine cal_of d sc_marks_of rfl rfl fun cdv A outer s H E hr => ?_
  have tk : Tk (cxOf (L2.CX P w) P w K mg base ["sounder", "delay", "side"] "marks_of" (defScope s_marks_of) f cdv A outer s H E) (fun c d _ H => E c d H) := tk_of (takes_of rfl rfl rfl rfl)
  have pw : PassesOwn (model P w) (cxOf (L2.CX P w) P w K mg base ["sounder", "delay", "side"] "marks_of" (defScope s_marks_of) f cdv A outer s H E).A (cxOf (L2.CX P w) P w K mg base ["sounder", "delay", "side"] "marks_of" (defScope s_marks_of) f cdv A outer s H E).env (cxOf (L2.CX P w) P w K mg base ["sounder", "delay", "side"] "marks_of" (defScope s_marks_of) f cdv A outer s H E).xe := passes_of rfl
  have u64 := hr.units
  have u65 := room65 hr
  have nd := sc_marks_of.nd
  exact (ds_cons (ds_ret (de_lc [("side", 2)] rfl nd (di_seq (de_globK T.k_SIDES)) (fun _ _ _ _ _ => (dg_name nd)) (fun _ _ _ _ _ => (dts_one (dt_truth (cc c_hears hr tk0 (da_cons (de_var (i := 0)) (da_cons (de_var (i := 2)) (da_cons (de_var (i := 1)) da_nil))))))) (fun _ _ _ _ _ => (de_tupN (n := 2) (da_cons (de_var (i := 2)) (da_cons (cc c_rest_by hr tk0 (da_cons (de_var (i := 0)) (da_cons (de_var (i := 2)) (da_cons (de_var (i := 1)) da_nil)))) da_nil)) (lenCons (lenCons lenNil)))) (ok := by show blkC ["sounder", "delay", "side"] (defScope s_marks_of) _ [("side", 2)] = true; decide +kernel))) ds_nil)
theorem sc_marks_by_shifts : FnScope ["sounder", "shifts", "delay", "mark", "index", "shift"] ["sounder", "shifts", "delay"] (defScope s_marks_by_shifts) := ⟨rfl, rfl, rfl, by decide +kernel, rfl, by decide +kernel, by decide +kernel⟩
theorem ok_marks_by_shifts {f : Addr} {fd : FuncData} (d : Def K mg "marks_by_shifts" s_marks_by_shifts ["sounder", "shifts", "delay"] f fd) (T : Nm K mg t_LEAST_PERIOD t_MOST_DELAYS t_MOST_LOOKS t_MOST_PERIOD t_MOST_RANGE t_MOST_RESTS t_MOST_SHIFT t_SOUNDER_SIZE) (c_marks_of : Cal P w K mg base "marks_of" s_marks_of ["sounder", "delay"] 4 2 m_marks_of) : Cal P w K mg base "marks_by_shifts" s_marks_by_shifts ["sounder", "shifts", "delay"] 5 3 m_marks_by_shifts := by
  show Cal P w K mg base "marks_by_shifts" s_marks_by_shifts ["sounder", "shifts", "delay"] (4 + 1) 3 (fnD 6 b_marks_by_shifts)
  refine cal_of d sc_marks_by_shifts rfl rfl fun cdv A outer s H E hr => ?_
  have tk : Tk (cxOf (L2.CX P w) P w K mg base ["sounder", "shifts", "delay", "mark", "index", "shift"] "marks_by_shifts" (defScope s_marks_by_shifts) f cdv A outer s H E) (fun c d _ H => E c d H) := tk_of (takes_of rfl rfl rfl rfl)
  have pw : PassesOwn (model P w) (cxOf (L2.CX P w) P w K mg base ["sounder", "shifts", "delay", "mark", "index", "shift"] "marks_by_shifts" (defScope s_marks_by_shifts) f cdv A outer s H E).A (cxOf (L2.CX P w) P w K mg base ["sounder", "shifts", "delay", "mark", "index", "shift"] "marks_by_shifts" (defScope s_marks_by_shifts) f cdv A outer s H E).env (cxOf (L2.CX P w) P w K mg base ["sounder", "shifts", "delay", "mark", "index", "shift"] "marks_by_shifts" (defScope s_marks_by_shifts) f cdv A outer s H E).xe := passes_of rfl
  have u64 := hr.units
  have u65 := room65 hr
  have nd := sc_marks_by_shifts.nd
  exact (ds_cons (ds_ret (de_lc2 [("mark", 3), ("index", 4), ("shift", 5)] [3] rfl nd (di_enum T.n_enumerate (da_cons (de_var (i := 1)) da_nil)) (fun _ _ _ _ _ => (dg_tup rfl (dgs_cons (dg_name nd) (dgs_cons (dg_name nd) dgs_nil)))) (fun _ _ _ _ _ => dts_nil) (fun _ _ _ _ _ => (di_seq (cc c_marks_of hr tk0 (da_cons (de_var (i := 0)) (da_cons (de_bin r_add (de_var (i := 2)) (de_var (i := 5))) da_nil))))) (fun _ _ _ _ _ => (dg_name nd)) (fun _ _ _ _ _ => dts_nil) (fun _ _ _ _ _ => (de_tupB (da_cons (de_var (i := 4)) (da_star (de_var (i := 3)) da_nil)))) (ok := by show blkC ["sounder", "shifts", "delay", "mark", "index", "shift"] (defScope s_marks_by_shifts) _ [("mark", 3), ("index", 4), ("shift", 5)] = true; decide +kernel))) ds_nil)
theorem sc_range_of : FnScope ["sounder"] ["sounder"] (defScope s_range_of) := ⟨rfl, rfl, rfl, by decide +kernel, rfl, by decide +kernel, by decide +kernel⟩
theorem ok_range_of {f : Addr} {fd : FuncData} (d : Def K mg "range_of" s_range_of ["sounder"] f fd) (T : Nm K mg t_LEAST_PERIOD t_MOST_DELAYS t_MOST_LOOKS t_MOST_PERIOD t_MOST_RANGE t_MOST_RESTS t_MOST_SHIFT t_SOUNDER_SIZE) : Cal P w K mg base "range_of" s_range_of ["sounder"] 1 1 m_range_of := by
  show Cal P w K mg base "range_of" s_range_of ["sounder"] (0 + 1) 1 (fnD 1 b_range_of)
  refine cal_of d sc_range_of rfl rfl fun cdv A outer s H E hr => ?_
  have tk : Tk (cxOf (L2.CX P w) P w K mg base ["sounder"] "range_of" (defScope s_range_of) f cdv A outer s H E) (fun c d _ H => E c d H) := tk_of (takes_of rfl rfl rfl rfl)
  have pw : PassesOwn (model P w) (cxOf (L2.CX P w) P w K mg base ["sounder"] "range_of" (defScope s_range_of) f cdv A outer s H E).A (cxOf (L2.CX P w) P w K mg base ["sounder"] "range_of" (defScope s_range_of) f cdv A outer s H E).env (cxOf (L2.CX P w) P w K mg base ["sounder"] "range_of" (defScope s_range_of) f cdv A outer s H E).xe := passes_of rfl
  have u64 := hr.units
  have u65 := room65 hr
  have nd := sc_range_of.nd
  exact (ds_cons (ds_ret (de_ix r_ix (de_var (i := 0)) de_int)) ds_nil)
theorem sc_all_delays : FnScope ["sounder"] ["sounder"] (defScope s_all_delays) := ⟨rfl, rfl, rfl, by decide +kernel, rfl, by decide +kernel, by decide +kernel⟩
theorem ok_all_delays {f : Addr} {fd : FuncData} (d : Def K mg "all_delays" s_all_delays ["sounder"] f fd) (T : Nm K mg t_LEAST_PERIOD t_MOST_DELAYS t_MOST_LOOKS t_MOST_PERIOD t_MOST_RANGE t_MOST_RESTS t_MOST_SHIFT t_SOUNDER_SIZE) (c_range_of : Cal P w K mg base "range_of" s_range_of ["sounder"] 1 1 m_range_of) : Cal P w K mg base "all_delays" s_all_delays ["sounder"] 2 1 m_all_delays := by
  show Cal P w K mg base "all_delays" s_all_delays ["sounder"] (1 + 1) 1 (fnD 1 b_all_delays)
  refine cal_of d sc_all_delays rfl rfl fun cdv A outer s H E hr => ?_
  have tk : Tk (cxOf (L2.CX P w) P w K mg base ["sounder"] "all_delays" (defScope s_all_delays) f cdv A outer s H E) (fun c d _ H => E c d H) := tk_of (takes_of rfl rfl rfl rfl)
  have pw : PassesOwn (model P w) (cxOf (L2.CX P w) P w K mg base ["sounder"] "all_delays" (defScope s_all_delays) f cdv A outer s H E).A (cxOf (L2.CX P w) P w K mg base ["sounder"] "all_delays" (defScope s_all_delays) f cdv A outer s H E).env (cxOf (L2.CX P w) P w K mg base ["sounder"] "all_delays" (defScope s_all_delays) f cdv A outer s H E).xe := passes_of rfl
  have u64 := hr.units
  have u65 := room65 hr
  have nd := sc_all_delays.nd
  exact (ds_cons (ds_ret (de_lr1 rfl T.n_list T.n_range (cc c_range_of hr tk (da_cons (de_var (i := 0)) da_nil)))) ds_nil)
theorem sc_marked_in : FnScope ["sounder", "looks", "shifts", "rows", "delay", "shift", "_"] ["sounder", "looks"] (defScope s_marked_in) := ⟨rfl, rfl, rfl, by decide +kernel, rfl, by decide +kernel, by decide +kernel⟩
theorem ok_marked_in {f : Addr} {fd : FuncData} (d : Def K mg "marked_in" s_marked_in ["sounder", "looks"] f fd) (T : Nm K mg t_LEAST_PERIOD t_MOST_DELAYS t_MOST_LOOKS t_MOST_PERIOD t_MOST_RANGE t_MOST_RESTS t_MOST_SHIFT t_SOUNDER_SIZE) (c_all_delays : Cal P w K mg base "all_delays" s_all_delays ["sounder"] 2 1 m_all_delays) (c_marks_by_shifts : Cal P w K mg base "marks_by_shifts" s_marks_by_shifts ["sounder", "shifts", "delay"] 5 3 m_marks_by_shifts) (c_marked_of : Cal P w K mg base "marked_of" s_marked_of ["rows", "needed"] 1 2 m_marked_of) (c_needed_in : Cal P w K mg base "needed_in" s_needed_in ["looks"] 2 1 m_needed_in) : Cal P w K mg base "marked_in" s_marked_in ["sounder", "looks"] 6 2 m_marked_in := by
  show Cal P w K mg base "marked_in" s_marked_in ["sounder", "looks"] (5 + 1) 2 (fnD 7 b_marked_in)
  refine cal_of d sc_marked_in rfl rfl fun cdv A outer s H E hr => ?_
  have tk : Tk (cxOf (L2.CX P w) P w K mg base ["sounder", "looks", "shifts", "rows", "delay", "shift", "_"] "marked_in" (defScope s_marked_in) f cdv A outer s H E) (fun c d _ H => E c d H) := tk_of (takes_of rfl rfl rfl rfl)
  have pw : PassesOwn (model P w) (cxOf (L2.CX P w) P w K mg base ["sounder", "looks", "shifts", "rows", "delay", "shift", "_"] "marked_in" (defScope s_marked_in) f cdv A outer s H E).A (cxOf (L2.CX P w) P w K mg base ["sounder", "looks", "shifts", "rows", "delay", "shift", "_"] "marked_in" (defScope s_marked_in) f cdv A outer s H E).env (cxOf (L2.CX P w) P w K mg base ["sounder", "looks", "shifts", "rows", "delay", "shift", "_"] "marked_in" (defScope s_marked_in) f cdv A outer s H E).xe := passes_of rfl
  have u64 := hr.units
  have u65 := room65 hr
  have nd := sc_marked_in.nd
  exact (ds_cons (by first | exact (ds_setLc [("shift", 5), ("_", 6)] rfl nd (di_seq (de_var (i := 1))) (fun _ _ _ _ _ => (dg_tup rfl (dgs_cons (dg_name nd) (dgs_cons (dg_name nd) dgs_nil)))) (fun _ _ _ _ _ => dts_nil) (fun _ _ _ _ _ => (de_var (i := 5))) (ok := by show blkC ["sounder", "looks", "shifts", "rows", "delay", "shift", "_"] (defScope s_marked_in) _ [("shift", 5), ("_", 6)] = true; decide +kernel)) | exact (ds_set nd (de_lc [("shift", 5), ("_", 6)] rfl nd (di_seq (de_var (i := 1))) (fun _ _ _ _ _ => (dg_tup rfl (dgs_cons (dg_name nd) (dgs_cons (dg_name nd) dgs_nil)))) (fun _ _ _ _ _ => dts_nil) (fun _ _ _ _ _ => (de_var (i := 5))) (ok := by show blkC ["sounder", "looks", "shifts", "rows", "delay", "shift", "_"] (defScope s_marked_in) _ [("shift", 5), ("_", 6)] = true; decide +kernel))))
    (ds_cons (by first | exact (ds_setLc [("delay", 4)] rfl nd (di_seq (cc c_all_delays hr tk (da_cons (de_var (i := 0)) da_nil))) (fun _ _ _ _ _ => (dg_name nd)) (fun _ _ _ _ _ => dts_nil) (fun _ _ _ _ _ => (de_tupN (n := 2) (da_cons (de_var (i := 4)) (da_cons (cc c_marks_by_shifts hr tk0 (da_cons (de_var (i := 0)) (da_cons (de_var (i := 2)) (da_cons (de_var (i := 4)) da_nil)))) da_nil)) (lenCons (lenCons lenNil)))) (ok := by show blkC ["sounder", "looks", "shifts", "rows", "delay", "shift", "_"] (defScope s_marked_in) _ [("delay", 4)] = true; decide +kernel)) | exact (ds_set nd (de_lc [("delay", 4)] rfl nd (di_seq (cc c_all_delays hr tk (da_cons (de_var (i := 0)) da_nil))) (fun _ _ _ _ _ => (dg_name nd)) (fun _ _ _ _ _ => dts_nil) (fun _ _ _ _ _ => (de_tupN (n := 2) (da_cons (de_var (i := 4)) (da_cons (cc c_marks_by_shifts hr tk0 (da_cons (de_var (i := 0)) (da_cons (de_var (i := 2)) (da_cons (de_var (i := 4)) da_nil)))) da_nil)) (lenCons (lenCons lenNil)))) (ok := by show blkC ["sounder", "looks", "shifts", "rows", "delay", "shift", "_"] (defScope s_marked_in) _ [("delay", 4)] = true; decide +kernel))))
    (ds_cons (ds_ret (cc c_marked_of hr tk (da_cons (de_var (i := 3)) (da_cons (cc c_needed_in hr tk (da_cons (de_var (i := 1)) da_nil)) da_nil)))) ds_nil)))
theorem sc_possible_shifted_by : FnScope ["sounder", "looks"] ["sounder", "looks"] (defScope s_possible_shifted_by) := ⟨rfl, rfl, rfl, by decide +kernel, rfl, by decide +kernel, by decide +kernel⟩
theorem ok_possible_shifted_by {f : Addr} {fd : FuncData} (d : Def K mg "possible_shifted_by" s_possible_shifted_by ["sounder", "looks"] f fd) (T : Nm K mg t_LEAST_PERIOD t_MOST_DELAYS t_MOST_LOOKS t_MOST_PERIOD t_MOST_RANGE t_MOST_RESTS t_MOST_SHIFT t_SOUNDER_SIZE) (c_marked_in : Cal P w K mg base "marked_in" s_marked_in ["sounder", "looks"] 6 2 m_marked_in) : Cal P w K mg base "possible_shifted_by" s_possible_shifted_by ["sounder", "looks"] 7 2 m_possible_shifted_by := by
  show Cal P w K mg base "possible_shifted_by" s_possible_shifted_by ["sounder", "looks"] (6 + 1) 2 (fnD 2 b_possible_shifted_by)
  refine cal_of d sc_possible_shifted_by rfl rfl fun cdv A outer s H E hr => ?_
  have tk : Tk (cxOf (L2.CX P w) P w K mg base ["sounder", "looks"] "possible_shifted_by" (defScope s_possible_shifted_by) f cdv A outer s H E) (fun c d _ H => E c d H) := tk_of (takes_of rfl rfl rfl rfl)
  have pw : PassesOwn (model P w) (cxOf (L2.CX P w) P w K mg base ["sounder", "looks"] "possible_shifted_by" (defScope s_possible_shifted_by) f cdv A outer s H E).A (cxOf (L2.CX P w) P w K mg base ["sounder", "looks"] "possible_shifted_by" (defScope s_possible_shifted_by) f cdv A outer s H E).env (cxOf (L2.CX P w) P w K mg base ["sounder", "looks"] "possible_shifted_by" (defScope s_possible_shifted_by) f cdv A outer s H E).xe := passes_of rfl
  have u64 := hr.units
  have u65 := room65 hr
  have nd := sc_possible_shifted_by.nd
  exact (ds_cons (ds_ret (de_blt c_sorted (by rfl) T.n_sorted (by decide +kernel) (da_cons (de_bty (c_listD rfl) (by rfl) T.n_list (by decide +kernel) (da_cons (cc c_marked_in hr tk (da_cons (de_var (i := 0)) (da_cons (de_var (i := 1)) da_nil))) da_nil)) da_nil))) ds_nil)
theorem sc_possible_shifted : FnScope ["sounder", "looks"] ["sounder", "looks"] (defScope s_possible_shifted) := ⟨rfl, rfl, rfl, by decide +kernel, rfl, by decide +kernel, by decide +kernel⟩
theorem ok_possible_shifted {f : Addr} {fd : FuncData} (d : Def K mg "possible_shifted" s_possible_shifted ["sounder", "looks"] f fd) (T : Nm K mg t_LEAST_PERIOD t_MOST_DELAYS t_MOST_LOOKS t_MOST_PERIOD t_MOST_RANGE t_MOST_RESTS t_MOST_SHIFT t_SOUNDER_SIZE) (c_check_looks : Cal P w K mg base "check_looks" s_check_looks ["sounder", "looks"] 8 2 m_check_looks) (c_possible_shifted_by : Cal P w K mg base "possible_shifted_by" s_possible_shifted_by ["sounder", "looks"] 7 2 m_possible_shifted_by) : Cal P w K mg base "possible_shifted" s_possible_shifted ["sounder", "looks"] 9 2 m_possible_shifted := by
  show Cal P w K mg base "possible_shifted" s_possible_shifted ["sounder", "looks"] (8 + 1) 2 (fnD 2 b_possible_shifted)
  refine cal_of d sc_possible_shifted rfl rfl fun cdv A outer s H E hr => ?_
  have tk : Tk (cxOf (L2.CX P w) P w K mg base ["sounder", "looks"] "possible_shifted" (defScope s_possible_shifted) f cdv A outer s H E) (fun c d _ H => E c d H) := tk_of (takes_of rfl rfl rfl rfl)
  have pw : PassesOwn (model P w) (cxOf (L2.CX P w) P w K mg base ["sounder", "looks"] "possible_shifted" (defScope s_possible_shifted) f cdv A outer s H E).A (cxOf (L2.CX P w) P w K mg base ["sounder", "looks"] "possible_shifted" (defScope s_possible_shifted) f cdv A outer s H E).env (cxOf (L2.CX P w) P w K mg base ["sounder", "looks"] "possible_shifted" (defScope s_possible_shifted) f cdv A outer s H E).xe := passes_of rfl
  have u64 := hr.units
  have u65 := room65 hr
  have nd := sc_possible_shifted.nd
  exact (ds_cons (ds_expr (cc c_check_looks hr tk (da_cons (de_var (i := 0)) (da_cons (de_var (i := 1)) da_nil))))
    (ds_cons (ds_ret (de_bty c_tuple (by rfl) T.n_tuple (by decide +kernel) (da_cons (cc c_possible_shifted_by hr tk (da_cons (de_var (i := 0)) (da_cons (de_var (i := 1)) da_nil))) da_nil))) ds_nil))
theorem sc_is_delay_of : FnScope ["sounder", "value"] ["sounder", "value"] (defScope s_is_delay_of) := ⟨rfl, rfl, rfl, by decide +kernel, rfl, by decide +kernel, by decide +kernel⟩
theorem ok_is_delay_of {f : Addr} {fd : FuncData} (d : Def K mg "is_delay_of" s_is_delay_of ["sounder", "value"] f fd) (T : Nm K mg t_LEAST_PERIOD t_MOST_DELAYS t_MOST_LOOKS t_MOST_PERIOD t_MOST_RANGE t_MOST_RESTS t_MOST_SHIFT t_SOUNDER_SIZE) (c_is_up_to : Cal P w K mg base "is_up_to" s_is_up_to ["value", "most"] 3 2 m_is_up_to) (c_range_of : Cal P w K mg base "range_of" s_range_of ["sounder"] 1 1 m_range_of) : Cal P w K mg base "is_delay_of" s_is_delay_of ["sounder", "value"] 4 2 m_is_delay_of := by
  show Cal P w K mg base "is_delay_of" s_is_delay_of ["sounder", "value"] (3 + 1) 2 (fnD 2 b_is_delay_of)
  refine cal_of d sc_is_delay_of rfl rfl fun cdv A outer s H E hr => ?_
  have tk : Tk (cxOf (L2.CX P w) P w K mg base ["sounder", "value"] "is_delay_of" (defScope s_is_delay_of) f cdv A outer s H E) (fun c d _ H => E c d H) := tk_of (takes_of rfl rfl rfl rfl)
  have pw : PassesOwn (model P w) (cxOf (L2.CX P w) P w K mg base ["sounder", "value"] "is_delay_of" (defScope s_is_delay_of) f cdv A outer s H E).A (cxOf (L2.CX P w) P w K mg base ["sounder", "value"] "is_delay_of" (defScope s_is_delay_of) f cdv A outer s H E).env (cxOf (L2.CX P w) P w K mg base ["sounder", "value"] "is_delay_of" (defScope s_is_delay_of) f cdv A outer s H E).xe := passes_of rfl
  have u64 := hr.units
  have u65 := room65 hr
  have nd := sc_is_delay_of.nd
  exact (ds_cons (ds_ret (cc c_is_up_to hr tk (da_cons (de_var (i := 1)) (da_cons (de_bin r_sub (cc c_range_of hr tk (da_cons (de_var (i := 0)) da_nil)) de_int) da_nil)))) ds_nil)
theorem sc_wrong_in_delays : FnScope ["sounder", "value", "index", "each"] ["sounder", "value"] (defScope s_wrong_in_delays) := ⟨rfl, rfl, rfl, by decide +kernel, rfl, by decide +kernel, by decide +kernel⟩
theorem ok_wrong_in_delays {f : Addr} {fd : FuncData} (d : Def K mg "wrong_in_delays" s_wrong_in_delays ["sounder", "value"] f fd) (T : Nm K mg t_LEAST_PERIOD t_MOST_DELAYS t_MOST_LOOKS t_MOST_PERIOD t_MOST_RANGE t_MOST_RESTS t_MOST_SHIFT t_SOUNDER_SIZE) (c_is_tuple_up_to : Cal P w K mg base "is_tuple_up_to" s_is_tuple_up_to ["value", "low", "high"] 1 3 m_is_tuple_up_to) (c_is_delay_of : Cal P w K mg base "is_delay_of" s_is_delay_of ["sounder", "value"] 4 2 m_is_delay_of) : Cal P w K mg base "wrong_in_delays" s_wrong_in_delays ["sounder", "value"] 5 2 m_wrong_in_delays := by
  show Cal P w K mg base "wrong_in_delays" s_wrong_in_delays ["sounder", "value"] (4 + 1) 2 (fnD 4 b_wrong_in_delays)
  refine cal_of d sc_wrong_in_delays rfl rfl fun cdv A outer s H E hr => ?_
  have tk : Tk (cxOf (L2.CX P w) P w K mg base ["sounder", "value", "index", "each"] "wrong_in_delays" (defScope s_wrong_in_delays) f cdv A outer s H E) (fun c d _ H => E c d H) := tk_of (takes_of rfl rfl rfl rfl)
  have pw : PassesOwn (model P w) (cxOf (L2.CX P w) P w K mg base ["sounder", "value", "index", "each"] "wrong_in_delays" (defScope s_wrong_in_delays) f cdv A outer s H E).A (cxOf (L2.CX P w) P w K mg base ["sounder", "value", "index", "each"] "wrong_in_delays" (defScope s_wrong_in_delays) f cdv A outer s H E).env (cxOf (L2.CX P w) P w K mg base ["sounder", "value", "index", "each"] "wrong_in_delays" (defScope s_wrong_in_delays) f cdv A outer s H E).xe := passes_of rfl
  have u64 := hr.units
  have u65 := room65 hr
  have nd := sc_wrong_in_delays.nd
  exact (ds_cons (ds_if (dt_not (dt_truth (cc c_is_tuple_up_to hr tk (da_cons (de_var (i := 1)) (da_cons de_int (da_cons (de_globI T.k_MOST_DELAYS) da_nil)))))) (ds_cons (ds_ret (de_lstN (n := 1) (da_cons de_non da_nil) (lenCons lenNil))) ds_nil) ds_nil)
    (ds_cons (ds_for pw rfl (di_enumT T.n_enumerate (da_cons (de_var (i := 1)) da_nil)) (dg_tup rfl (dgs_cons (dg_name nd) (dgs_cons (dg_name nd) dgs_nil))) (ne_tup (ne_cons ne_name (ne_cons ne_name ne_nil))) (ds_cons (ds_if (PW.pt (dw_or (dt_not (dt_truth (cc c_is_delay_of hr tk (da_cons (de_var (i := 0)) (da_cons (de_var (i := 3)) da_nil))))) (dw_or1 (PW.pt (dw_and (dt_cmp r_gt (de_var (i := 2)) de_int) (dw_and1 (dt_cmp r_le (de_var (i := 3)) (de_ix r_ix (de_var (i := 1)) (de_bin r_sub (de_var (i := 2)) de_int))))))))) (ds_cons (ds_ret (de_lstN (n := 1) (da_cons (de_var (i := 2)) da_nil) (lenCons lenNil))) ds_nil) ds_nil) ds_nil))
    (ds_cons (ds_ret (de_lstN (n := 0) da_nil lenNil)) ds_nil)))
theorem sc_check_delays : FnScope ["sounder", "delays", "index"] ["sounder", "delays"] (defScope s_check_delays) := ⟨rfl, rfl, rfl, by decide +kernel, rfl, by decide +kernel, by decide +kernel⟩
theorem ok_check_delays {f : Addr} {fd : FuncData} (d : Def K mg "check_delays" s_check_delays ["sounder", "delays"] f fd) (T : Nm K mg t_LEAST_PERIOD t_MOST_DELAYS t_MOST_LOOKS t_MOST_PERIOD t_MOST_RANGE t_MOST_RESTS t_MOST_SHIFT t_SOUNDER_SIZE) (c_wrong_in_delays : Cal P w K mg base "wrong_in_delays" s_wrong_in_delays ["sounder", "value"] 5 2 m_wrong_in_delays) : Cal P w K mg base "check_delays" s_check_delays ["sounder", "delays"] 6 2 m_check_delays := by
  show Cal P w K mg base "check_delays" s_check_delays ["sounder", "delays"] (5 + 1) 2 (fnD 3 b_check_delays)
  refine cal_of d sc_check_delays rfl rfl fun cdv A outer s H E hr => ?_
  have tk : Tk (cxOf (L2.CX P w) P w K mg base ["sounder", "delays", "index"] "check_delays" (defScope s_check_delays) f cdv A outer s H E) (fun c d _ H => E c d H) := tk_of (takes_of rfl rfl rfl rfl)
  have pw : PassesOwn (model P w) (cxOf (L2.CX P w) P w K mg base ["sounder", "delays", "index"] "check_delays" (defScope s_check_delays) f cdv A outer s H E).A (cxOf (L2.CX P w) P w K mg base ["sounder", "delays", "index"] "check_delays" (defScope s_check_delays) f cdv A outer s H E).env (cxOf (L2.CX P w) P w K mg base ["sounder", "delays", "index"] "check_delays" (defScope s_check_delays) f cdv A outer s H E).xe := passes_of rfl
  have u64 := hr.units
  have u65 := room65 hr
  have nd := sc_check_delays.nd
  exact (ds_cons (ds_for pw rfl (di_seq (cc c_wrong_in_delays hr tk (da_cons (de_var (i := 0)) (da_cons (de_var (i := 1)) da_nil)))) (dg_name nd) ne_name (ds_cons ds_never ds_nil)) ds_nil)
theorem sc_marks_in : FnScope ["marked", "delays", "delay", "mark"] ["marked", "delays"] (defScope s_marks_in) := ⟨rfl, rfl, rfl, by decide +kernel, rfl, by decide +kernel, by decide +kernel⟩
theorem ok_marks_in {f : Addr} {fd : FuncData} (d : Def K mg "marks_in" s_marks_in ["marked", "delays"] f fd) (T : Nm K mg t_LEAST_PERIOD t_MOST_DELAYS t_MOST_LOOKS t_MOST_PERIOD t_MOST_RANGE t_MOST_RESTS t_MOST_SHIFT t_SOUNDER_SIZE) : Cal P w K mg base "marks_in" s_marks_in ["marked", "delays"] 1 2 m_marks_in := by
  show Cal P w K mg base "marks_in" s_marks_in ["marked", "delays"] (0 + 1) 2 (fnD 4 b_marks_in)
  refine cal_of d sc_marks_in rfl rfl fun cdv A outer s H E hr => ?_
  have tk : Tk (cxOf (L2.CX P w) P w K mg base ["marked", "delays", "delay", "mark"] "marks_in" (defScope s_marks_in) f cdv A outer s H E) (fun c d _ H => E c d H) := tk_of (takes_of rfl rfl rfl rfl)
  have pw : PassesOwn (model P w) (cxOf (L2.CX P w) P w K mg base ["marked", "delays", "delay", "mark"] "marks_in" (defScope s_marks_in) f cdv A outer s H E).A (cxOf (L2.CX P w) P w K mg base ["marked", "delays", "delay", "mark"] "marks_in" (defScope s_marks_in) f cdv A outer s H E).env (cxOf (L2.CX P w) P w K mg base ["marked", "delays", "delay", "mark"] "marks_in" (defScope s_marks_in) f cdv A outer s H E).xe := passes_of rfl
  have u64 := hr.units
  have u65 := room65 hr
  have nd := sc_marks_in.nd
  exact (ds_cons (ds_ret (de_dc2 [("delay", 2), ("mark", 3)] [3] rfl u64 nd (di_seq (de_var (i := 1))) (fun _ _ _ _ _ => (dg_name nd)) (fun _ _ _ _ _ => dts_nil) (fun _ _ _ _ _ => (di_seq (de_ixK u64 (de_var (i := 0)) (de_var (i := 2))))) (fun _ _ _ _ _ => (dg_name nd)) (fun _ _ _ _ _ => dts_nil) (fun _ _ _ _ _ => (de_var (i := 3))) (fun _ _ _ _ _ => de_bl) (ok := by show blkC ["marked", "delays", "delay", "mark"] (defScope s_marks_in) _ [("delay", 2), ("mark", 3)] = true; decide +kernel))) ds_nil)
theorem sc_do_mark_all : FnScope ["marked", "needed", "delays", "delay"] ["marked", "needed", "delays"] (defScope s_do_mark_all) := ⟨rfl, rfl, rfl, by decide +kernel, rfl, by decide +kernel, by decide +kernel⟩
theorem ok_do_mark_all {f : Addr} {fd : FuncData} (d : Def K mg "do_mark_all" s_do_mark_all ["marked", "needed", "delays"] f fd) (T : Nm K mg t_LEAST_PERIOD t_MOST_DELAYS t_MOST_LOOKS t_MOST_PERIOD t_MOST_RANGE t_MOST_RESTS t_MOST_SHIFT t_SOUNDER_SIZE) (c_marks_in : Cal P w K mg base "marks_in" s_marks_in ["marked", "delays"] 1 2 m_marks_in) : Cal P w K mg base "do_mark_all" s_do_mark_all ["marked", "needed", "delays"] 2 3 m_do_mark_all := by
  show Cal P w K mg base "do_mark_all" s_do_mark_all ["marked", "needed", "delays"] (1 + 1) 3 (fnD 4 b_do_mark_all)
  refine cal_of d sc_do_mark_all rfl rfl fun cdv A outer s H E hr => ?_
  have tk : Tk (cxOf (L2.CX P w) P w K mg base ["marked", "needed", "delays", "delay"] "do_mark_all" (defScope s_do_mark_all) f cdv A outer s H E) (fun c d _ H => E c d H) := tk_of (takes_of rfl rfl rfl rfl)
  have pw : PassesOwn (model P w) (cxOf (L2.CX P w) P w K mg base ["marked", "needed", "delays", "delay"] "do_mark_all" (defScope s_do_mark_all) f cdv A outer s H E).A (cxOf (L2.CX P w) P w K mg base ["marked", "needed", "delays", "delay"] "do_mark_all" (defScope s_do_mark_all) f cdv A outer s H E).env (cxOf (L2.CX P w) P w K mg base ["marked", "needed", "delays", "delay"] "do_mark_all" (defScope s_do_mark_all) f cdv A outer s H E).xe := passes_of rfl
  have u64 := hr.units
  have u65 := room65 hr
  have nd := sc_do_mark_all.nd
  exact (ds_cons (ds_if (dt_not (dt_truth (de_blt (c_all rfl) (by rfl) T.n_all (by decide +kernel) (da_cons (de_lc [("delay", 3)] rfl nd (di_seq (de_var (i := 2))) (fun _ _ _ _ _ => (dg_name nd)) (fun _ _ _ _ _ => dts_nil) (fun _ _ _ _ _ => (de_cmp (r_inK u64) (de_var (i := 3)) (de_var (i := 0)))) (ok := by show blkC ["marked", "needed", "delays", "delay"] (defScope s_do_mark_all) _ [("delay", 3)] = true; decide +kernel)) da_nil)))) (ds_cons (ds_ret de_bl) ds_nil) ds_nil)
    (ds_cons (ds_ret (de_cmp (r_eq u64) (de_blt c_lenK (by rfl) T.n_len (by decide +kernel) (da_cons (cc c_marks_in hr tk (da_cons (de_var (i := 0)) (da_cons (de_var (i := 2)) da_nil))) da_nil)) (de_blt c_lenK (by rfl) T.n_len (by decide +kernel) (da_cons (de_var (i := 1)) da_nil)))) ds_nil))
theorem sc_do_fit_shifted_by : FnScope ["sounder", "looks", "delays"] ["sounder", "looks", "delays"] (defScope s_do_fit_shifted_by) := ⟨rfl, rfl, rfl, by decide +kernel, rfl, by decide +kernel, by decide +kernel⟩
theorem ok_do_fit_shifted_by {f : Addr} {fd : FuncData} (d : Def K mg "do_fit_shifted_by" s_do_fit_shifted_by ["sounder", "looks", "delays"] f fd) (T : Nm K mg t_LEAST_PERIOD t_MOST_DELAYS t_MOST_LOOKS t_MOST_PERIOD t_MOST_RANGE t_MOST_RESTS t_MOST_SHIFT t_SOUNDER_SIZE) (c_do_mark_all : Cal P w K mg base "do_mark_all" s_do_mark_all ["marked", "needed", "delays"] 2 3 m_do_mark_all) (c_needed_in : Cal P w K mg base "needed_in" s_needed_in ["looks"] 2 1 m_needed_in) (c_marked_in : Cal P w K mg base "marked_in" s_marked_in ["sounder", "looks"] 6 2 m_marked_in) : Cal P w K mg base "do_fit_shifted_by" s_do_fit_shifted_by ["sounder", "looks", "delays"] 7 3 m_do_fit_shifted_by := by
  show Cal P w K mg base "do_fit_shifted_by" s_do_fit_shifted_by ["sounder", "looks", "delays"] (6 + 1) 3 (fnD 3 b_do_fit_shifted_by)
  refine cal_of d sc_do_fit_shifted_by rfl rfl fun cdv A outer s H E hr => ?_
  have tk : Tk (cxOf (L2.CX P w) P w K mg base ["sounder", "looks", "delays"] "do_fit_shifted_by" (defScope s_do_fit_shifted_by) f cdv A outer s H E) (fun c d _ H => E c d H) := tk_of (takes_of rfl rfl rfl rfl)
  have pw : PassesOwn (model P w) (cxOf (L2.CX P w) P w K mg base ["sounder", "looks", "delays"] "do_fit_shifted_by" (defScope s_do_fit_shifted_by) f cdv A outer s H E).A (cxOf (L2.CX P w) P w K mg base ["sounder", "looks", "delays"] "do_fit_shifted_by" (defScope s_do_fit_shifted_by) f cdv A outer s H E).env (cxOf (L2.CX P w) P w K mg base ["sounder", "looks", "delays"] "do_fit_shifted_by" (defScope s_do_fit_shifted_by) f cdv A outer s H E).xe := passes_of rfl
  have u64 := hr.units
  have u65 := room65 hr
  have nd := sc_do_fit_shifted_by.nd
  exact (ds_cons (ds_ret (cc c_do_mark_all hr tk (da_cons (cc c_marked_in hr tk (da_cons (de_var (i := 0)) (da_cons (de_var (i := 1)) da_nil))) (da_cons (cc c_needed_in hr tk (da_cons (de_var (i := 1)) da_nil)) (da_cons (de_var (i := 2)) da_nil))))) ds_nil)
theorem sc_do_fit_shifted : FnScope ["sounder", "looks", "delays"] ["sounder", "looks", "delays"] (defScope s_do_fit_shifted) := ⟨rfl, rfl, rfl, by decide +kernel, rfl, by decide +kernel, by decide +kernel⟩
theorem ok_do_fit_shifted {f : Addr} {fd : FuncData} (d : Def K mg "do_fit_shifted" s_do_fit_shifted ["sounder", "looks", "delays"] f fd) (T : Nm K mg t_LEAST_PERIOD t_MOST_DELAYS t_MOST_LOOKS t_MOST_PERIOD t_MOST_RANGE t_MOST_RESTS t_MOST_SHIFT t_SOUNDER_SIZE) (c_check_looks : Cal P w K mg base "check_looks" s_check_looks ["sounder", "looks"] 8 2 m_check_looks) (c_check_delays : Cal P w K mg base "check_delays" s_check_delays ["sounder", "delays"] 6 2 m_check_delays) (c_do_fit_shifted_by : Cal P w K mg base "do_fit_shifted_by" s_do_fit_shifted_by ["sounder", "looks", "delays"] 7 3 m_do_fit_shifted_by) : Cal P w K mg base "do_fit_shifted" s_do_fit_shifted ["sounder", "looks", "delays"] 9 3 m_do_fit_shifted := by
  show Cal P w K mg base "do_fit_shifted" s_do_fit_shifted ["sounder", "looks", "delays"] (8 + 1) 3 (fnD 3 b_do_fit_shifted)
  refine cal_of d sc_do_fit_shifted rfl rfl fun cdv A outer s H E hr => ?_
  have tk : Tk (cxOf (L2.CX P w) P w K mg base ["sounder", "looks", "delays"] "do_fit_shifted" (defScope s_do_fit_shifted) f cdv A outer s H E) (fun c d _ H => E c d H) := tk_of (takes_of rfl rfl rfl rfl)
  have pw : PassesOwn (model P w) (cxOf (L2.CX P w) P w K mg base ["sounder", "looks", "delays"] "do_fit_shifted" (defScope s_do_fit_shifted) f cdv A outer s H E).A (cxOf (L2.CX P w) P w K mg base ["sounder", "looks", "delays"] "do_fit_shifted" (defScope s_do_fit_shifted) f cdv A outer s H E).env (cxOf (L2.CX P w) P w K mg base ["sounder", "looks", "delays"] "do_fit_shifted" (defScope s_do_fit_shifted) f cdv A outer s H E).xe := passes_of rfl
  have u64 := hr.units
  have u65 := room65 hr
  have nd := sc_do_fit_shifted.nd
  exact (ds_cons (ds_expr (cc c_check_looks hr tk (da_cons (de_var (i := 0)) (da_cons (de_var (i := 1)) da_nil))))
    (ds_cons (ds_expr (cc c_check_delays hr tk (da_cons (de_var (i := 0)) (da_cons (de_var (i := 2)) da_nil))))
    (ds_cons (ds_ret (cc c_do_fit_shifted_by hr tk (da_cons (de_var (i := 0)) (da_cons (de_var (i := 1)) (da_cons (de_var (i := 2)) da_nil))))) ds_nil)))
theorem sc_can_mark_all : FnScope ["marked", "needed"] ["marked", "needed"] (defScope s_can_mark_all) := ⟨rfl, rfl, rfl, by decide +kernel, rfl, by decide +kernel, by decide +kernel⟩
theorem ok_can_mark_all {f : Addr} {fd : FuncData} (d : Def K mg "can_mark_all" s_can_mark_all ["marked", "needed"] f fd) (T : Nm K mg t_LEAST_PERIOD t_MOST_DELAYS t_MOST_LOOKS t_MOST_PERIOD t_MOST_RANGE t_MOST_RESTS t_MOST_SHIFT t_SOUNDER_SIZE) (c_do_mark_all : Cal P w K mg base "do_mark_all" s_do_mark_all ["marked", "needed", "delays"] 2 3 m_do_mark_all) : Cal P w K mg base "can_mark_all" s_can_mark_all ["marked", "needed"] 3 2 m_can_mark_all := by
  show Cal P w K mg base "can_mark_all" s_can_mark_all ["marked", "needed"] (2 + 1) 2 (fnD 2 b_can_mark_all)
  refine cal_of d sc_can_mark_all rfl rfl fun cdv A outer s H E hr => ?_
  have tk : Tk (cxOf (L2.CX P w) P w K mg base ["marked", "needed"] "can_mark_all" (defScope s_can_mark_all) f cdv A outer s H E) (fun c d _ H => E c d H) := tk_of (takes_of rfl rfl rfl rfl)
  have pw : PassesOwn (model P w) (cxOf (L2.CX P w) P w K mg base ["marked", "needed"] "can_mark_all" (defScope s_can_mark_all) f cdv A outer s H E).A (cxOf (L2.CX P w) P w K mg base ["marked", "needed"] "can_mark_all" (defScope s_can_mark_all) f cdv A outer s H E).env (cxOf (L2.CX P w) P w K mg base ["marked", "needed"] "can_mark_all" (defScope s_can_mark_all) f cdv A outer s H E).xe := passes_of rfl
  have u64 := hr.units
  have u65 := room65 hr
  have nd := sc_can_mark_all.nd
  exact (ds_cons (ds_ret (cc c_do_mark_all hr tk (da_cons (de_var (i := 0)) (da_cons (de_var (i := 1)) (da_cons (de_bty (c_listD rfl) (by rfl) T.n_list (by decide +kernel) (da_cons (de_var (i := 0)) da_nil)) da_nil))))) ds_nil)
theorem sc_can_be_shifted_by : FnScope ["sounder", "looks"] ["sounder", "looks"] (defScope s_can_be_shifted_by) := ⟨rfl, rfl, rfl, by decide +kernel, rfl, by decide +kernel, by decide +kernel⟩
theorem ok_can_be_shifted_by {f : Addr} {fd : FuncData} (d : Def K mg "can_be_shifted_by" s_can_be_shifted_by ["sounder", "looks"] f fd) (T : Nm K mg t_LEAST_PERIOD t_MOST_DELAYS t_MOST_LOOKS t_MOST_PERIOD t_MOST_RANGE t_MOST_RESTS t_MOST_SHIFT t_SOUNDER_SIZE) (c_can_mark_all : Cal P w K mg base "can_mark_all" s_can_mark_all ["marked", "needed"] 3 2 m_can_mark_all) (c_needed_in : Cal P w K mg base "needed_in" s_needed_in ["looks"] 2 1 m_needed_in) (c_marked_in : Cal P w K mg base "marked_in" s_marked_in ["sounder", "looks"] 6 2 m_marked_in) : Cal P w K mg base "can_be_shifted_by" s_can_be_shifted_by ["sounder", "looks"] 7 2 m_can_be_shifted_by := by
  show Cal P w K mg base "can_be_shifted_by" s_can_be_shifted_by ["sounder", "looks"] (6 + 1) 2 (fnD 2 b_can_be_shifted_by)
  refine cal_of d sc_can_be_shifted_by rfl rfl fun cdv A outer s H E hr => ?_
  have tk : Tk (cxOf (L2.CX P w) P w K mg base ["sounder", "looks"] "can_be_shifted_by" (defScope s_can_be_shifted_by) f cdv A outer s H E) (fun c d _ H => E c d H) := tk_of (takes_of rfl rfl rfl rfl)
  have pw : PassesOwn (model P w) (cxOf (L2.CX P w) P w K mg base ["sounder", "looks"] "can_be_shifted_by" (defScope s_can_be_shifted_by) f cdv A outer s H E).A (cxOf (L2.CX P w) P w K mg base ["sounder", "looks"] "can_be_shifted_by" (defScope s_can_be_shifted_by) f cdv A outer s H E).env (cxOf (L2.CX P w) P w K mg base ["sounder", "looks"] "can_be_shifted_by" (defScope s_can_be_shifted_by) f cdv A outer s H E).xe := passes_of rfl
  have u64 := hr.units
  have u65 := room65 hr
  have nd := sc_can_be_shifted_by.nd
  exact (ds_cons (ds_ret (cc c_can_mark_all hr tk (da_cons (cc c_marked_in hr tk (da_cons (de_var (i := 0)) (da_cons (de_var (i := 1)) da_nil))) (da_cons (cc c_needed_in hr tk (da_cons (de_var (i := 1)) da_nil)) da_nil)))) ds_nil)
theorem sc_can_be_shifted : FnScope ["sounder", "looks"] ["sounder", "looks"] (defScope s_can_be_shifted) := ⟨rfl, rfl, rfl, by decide +kernel, rfl, by decide +kernel, by decide +kernel⟩
theorem ok_can_be_shifted {f : Addr} {fd : FuncData} (d : Def K mg "can_be_shifted" s_can_be_shifted ["sounder", "looks"] f fd) (T : Nm K mg t_LEAST_PERIOD t_MOST_DELAYS t_MOST_LOOKS t_MOST_PERIOD t_MOST_RANGE t_MOST_RESTS t_MOST_SHIFT t_SOUNDER_SIZE) (c_check_looks : Cal P w K mg base "check_looks" s_check_looks ["sounder", "looks"] 8 2 m_check_looks) (c_can_be_shifted_by : Cal P w K mg base "can_be_shifted_by" s_can_be_shifted_by ["sounder", "looks"] 7 2 m_can_be_shifted_by) : Cal P w K mg base "can_be_shifted" s_can_be_shifted ["sounder", "looks"] 9 2 m_can_be_shifted := by
  show Cal P w K mg base "can_be_shifted" s_can_be_shifted ["sounder", "looks"] (8 + 1) 2 (fnD 2 b_can_be_shifted)
  refine cal_of d sc_can_be_shifted rfl rfl fun cdv A outer s H E hr => ?_
  have tk : Tk (cxOf (L2.CX P w) P w K mg base ["sounder", "looks"] "can_be_shifted" (defScope s_can_be_shifted) f cdv A outer s H E) (fun c d _ H => E c d H) := tk_of (takes_of rfl rfl rfl rfl)
  have pw : PassesOwn (model P w) (cxOf (L2.CX P w) P w K mg base ["sounder", "looks"] "can_be_shifted" (defScope s_can_be_shifted) f cdv A outer s H E).A (cxOf (L2.CX P w) P w K mg base ["sounder", "looks"] "can_be_shifted" (defScope s_can_be_shifted) f cdv A outer s H E).env (cxOf (L2.CX P w) P w K mg base ["sounder", "looks"] "can_be_shifted" (defScope s_can_be_shifted) f cdv A outer s H E).xe := passes_of rfl
  have u64 := hr.units
  have u65 := room65 hr
  have nd := sc_can_be_shifted.nd
  exact (ds_cons (ds_expr (cc c_check_looks hr tk (da_cons (de_var (i := 0)) (da_cons (de_var (i := 1)) da_nil))))
    (ds_cons (ds_ret (cc c_can_be_shifted_by hr tk (da_cons (de_var (i := 0)) (da_cons (de_var (i := 1)) da_nil)))) ds_nil))
theorem sc_law_right : FnScope ["pool", "lap", "sounder", "ears", "every", "told", "can", "new", "some", "dull", "moved", "looks", "lot", "due", "mine", "shift", "heard", "each"] ["pool"] (defScope s_law_right) := ⟨rfl, rfl, rfl, by decide +kernel, rfl, by decide +kernel, by decide +kernel⟩
theorem ok_law_right {f : Addr} {fd : FuncData} (d : Def K mg "_law_right" s_law_right ["pool"] f fd) (T : Nm K mg t_LEAST_PERIOD t_MOST_DELAYS t_MOST_LOOKS t_MOST_PERIOD t_MOST_RANGE t_MOST_RESTS t_MOST_SHIFT t_SOUNDER_SIZE) (c_law_sounder : Cal P w K mg base "_law_sounder" s_law_sounder ["pool", "high", "far"] 3 3 m_law_sounder) (c_law_looks : Cal P w K mg base "_law_looks" s_law_looks ["pool", "sounder", "most"] 3 3 m_law_looks) (c_law_ears : Cal P w K mg base "_law_ears" s_law_ears ["sounder", "looks"] 1 2 m_law_ears) (c_law_possible : Cal P w K mg base "_law_possible" s_law_possible ["ears", "far"] 2 2 m_law_possible) (c_can_be_shifted : Cal P w K mg base "can_be_shifted" s_can_be_shifted ["sounder", "looks"] 9 2 m_can_be_shifted) (c_possible_shifted : Cal P w K mg base "possible_shifted" s_possible_shifted ["sounder", "looks"] 9 2 m_possible_shifted) (c_law_makes : Cal P w K mg base "_law_makes" s_law_makes ["sounder", "delays", "shift"] 2 3 m_law_makes) (c_law_same : Cal P w K mg base "_law_same" s_law_same ["told", "due"] 12 2 (m_law_same 12)) (c_law_below : Cal P w K mg base "_law_below" s_law_below ["pool", "many"] 1 2 m_law_below) (c_law_lot : Cal P w K mg base "_law_lot" s_law_lot ["pool", "far", "most"] 2 3 m_law_lot) (c_law_do_fit : Cal P w K mg base "_law_do_fit" s_law_do_fit ["ears", "delays"] 3 2 m_law_do_fit) (c_do_fit_shifted : Cal P w K mg base "do_fit_shifted" s_do_fit_shifted ["sounder", "looks", "delays"] 9 3 m_do_fit_shifted) : Cal P w K mg base "_law_right" s_law_right ["pool"] 13 1 m_law_right := by
  show Cal P w K mg base "_law_right" s_law_right ["pool"] (12 + 1) 1 (fnD 18 b_law_right)
  refine cal_of d sc_law_right rfl rfl fun cdv A outer s H E hr => ?_
  have tk : Tk (cxOf (L2.CX P w) P w K mg base ["pool", "lap", "sounder", "ears", "every", "told", "can", "new", "some", "dull", "moved", "looks", "lot", "due", "mine", "shift", "heard", "each"] "_law_right" (defScope s_law_right) f cdv A outer s H E) (fun c d _ H => E c d H) := tk_of (takes_of rfl rfl rfl rfl)
  have pw : PassesOwn (model P w) (cxOf (L2.CX P w) P w K mg base ["pool", "lap", "sounder", "ears", "every", "told", "can", "new", "some", "dull", "moved", "looks", "lot", "due", "mine", "shift", "heard", "each"] "_law_right" (defScope s_law_right) f cdv A outer s H E).A (cxOf (L2.CX P w) P w K mg base ["pool", "lap", "sounder", "ears", "every", "told", "can", "new", "some", "dull", "moved", "looks", "lot", "due", "mine", "shift", "heard", "each"] "_law_right" (defScope s_law_right) f cdv A outer s H E).env (cxOf (L2.CX P w) P w K mg base ["pool", "lap", "sounder", "ears", "every", "told", "can", "new", "some", "dull", "moved", "looks", "lot", "due", "mine", "shift", "heard", "each"] "_law_right" (defScope s_law_right) f cdv A outer s H E).xe := passes_of rfl
  have u64 := hr.units
  have u65 := room65 hr
  have nd := sc_law_right.nd
  exact (ds_cons (ds_for pw rfl (di_r1 T.n_range (da_cons de_int da_nil)) (dg_name nd) ne_name (ds_cons (ds_set nd (cc c_law_sounder hr tk (da_cons (de_var (i := 0)) (da_cons de_int (da_cons de_int da_nil)))))
    (ds_cons (ds_asg (cc c_law_looks hr tk (da_cons (de_var (i := 0)) (da_cons (de_var (i := 2)) (da_cons de_int da_nil)))) (dg_tup rfl (dgs_cons (dg_name nd) (dgs_cons (dg_name nd) dgs_nil))) (ne_tup (ne_cons ne_name (ne_cons ne_name ne_nil))))
    (ds_cons (ds_set nd (cc c_law_ears hr tk (da_cons (de_var (i := 2)) (da_cons (de_var (i := 11)) da_nil))))
    (ds_cons (ds_set nd (de_bty c_tuple (by rfl) T.n_tuple (by decide +kernel) (da_cons (cc c_law_possible hr tk (da_cons (de_var (i := 3)) (da_cons (de_ix r_ix (de_var (i := 2)) de_int) da_nil))) da_nil)))
    (ds_cons (ds_set nd (de_if (dt_cmp (r_eq u64) (de_var (i := 1)) de_int) (de_tupN (n := 2) (da_cons (cc0 (ks := ["looks", "sounder"]) [1, 0] c_possible_shifted hr tk (dk_cons (de_var (i := 11)) (dk_cons (de_var (i := 2)) dk_nil)) (fun _ _ _ _ _ _ us ws h1 h2 => match us, ws, h1, h2 with | [], [_, _], _, _ => rfl)) (da_cons (cc0 (ks := ["looks", "sounder"]) [1, 0] c_can_be_shifted hr tk (dk_cons (de_var (i := 11)) (dk_cons (de_var (i := 2)) dk_nil)) (fun _ _ _ _ _ _ us ws h1 h2 => match us, ws, h1, h2 with | [], [_, _], _, _ => rfl)) da_nil)) (lenCons (lenCons lenNil))) (de_tupN (n := 2) (da_cons (cc c_possible_shifted hr tk (da_cons (de_var (i := 2)) (da_cons (de_var (i := 11)) da_nil))) (da_cons (cc c_can_be_shifted hr tk (da_cons (de_var (i := 2)) (da_cons (de_var (i := 11)) da_nil))) da_nil)) (lenCons (lenCons lenNil)))))
    (ds_cons (ds_set nd (de_blt (c_all rfl) (by rfl) T.n_all (by decide +kernel) (da_cons (de_lc [("shift", 15), ("heard", 16)] rfl nd (di_seq (de_var (i := 11))) (fun _ _ _ _ _ => (dg_tup rfl (dgs_cons (dg_name nd) (dgs_cons (dg_name nd) dgs_nil)))) (fun _ _ _ _ _ => dts_nil) (fun _ _ _ _ _ => (de_cmp (r_eq u64) (cc c_law_makes hr tk0 (da_cons (de_var (i := 2)) (da_cons (de_var (i := 4)) (da_cons (de_var (i := 15)) da_nil)))) (de_var (i := 16)))) (ok := by show blkC ["pool", "lap", "sounder", "ears", "every", "told", "can", "new", "some", "dull", "moved", "looks", "lot", "due", "mine", "shift", "heard", "each"] (defScope s_law_right) _ [("shift", 15), ("heard", 16)] = true; decide +kernel)) da_nil)))
    (ds_cons (ds_if (PW.pt (dw_or (dt_not (dt_truth (cc c_law_same hr tk (da_cons (de_var (i := 5)) (da_cons (de_tupN (n := 2) (da_cons (de_var (i := 4)) (da_cons (de_var (i := 6)) da_nil)) (lenCons (lenCons lenNil))) da_nil))))) (dw_or (dt_cmp (r_ne u64) (cc c_possible_shifted hr tk (da_cons (de_var (i := 2)) (da_cons (de_revT (de_var (i := 11))) da_nil))) (de_var (i := 4))) (dw_or1 (dt_cmp (r_ne u64) (cc c_can_be_shifted hr tk (da_cons (de_var (i := 2)) (da_cons (de_revT (de_var (i := 11))) da_nil))) (de_var (i := 6))))))) (ds_cons (ds_ret de_bl) ds_nil) ds_nil)
    (ds_cons (ds_set nd (cc c_law_below hr tk (da_cons (de_var (i := 0)) (da_cons (de_ix r_ix (de_var (i := 2)) de_int) da_nil))))
    (ds_cons (ds_for pw rfl (di_seq (de_tupN (n := 7) (da_cons (de_var (i := 12)) (da_cons (de_var (i := 4)) (da_cons (de_sl (de_var (i := 4)) (do_some de_int) do_none) (da_cons (de_bty c_tuple (by rfl) T.n_tuple (by decide +kernel) (da_cons (de_sset2 rfl T.n_sorted T.n_set (de_bin r_add (de_var (i := 4)) (de_tupN (n := 1) (da_cons (de_var (i := 7)) da_nil) (lenCons lenNil)))) da_nil)) (da_cons (de_bty c_tuple (by rfl) T.n_tuple (by decide +kernel) (da_cons (de_lc [("each", 17)] rfl nd (di_seq (de_var (i := 4))) (fun _ _ _ _ _ => (dg_name nd)) (fun _ _ _ _ _ => (dts_one (dt_cmp (r_ne u64) (de_var (i := 17)) (de_var (i := 7))))) (fun _ _ _ _ _ => (de_var (i := 17))) (ok := by show blkC ["pool", "lap", "sounder", "ears", "every", "told", "can", "new", "some", "dull", "moved", "looks", "lot", "due", "mine", "shift", "heard", "each"] (defScope s_law_right) _ [("each", 17)] = true; decide +kernel)) da_nil)) (da_cons (cc c_law_lot hr tk (da_cons (de_var (i := 0)) (da_cons (de_ix r_ix (de_var (i := 2)) de_int) (da_cons de_int da_nil)))) (da_cons (de_tupN (n := 0) da_nil lenNil) da_nil))))))) (lenCons (lenCons (lenCons (lenCons (lenCons (lenCons (lenCons lenNil))))))))) (dg_name nd) ne_name (ds_cons (ds_set nd (cc c_law_do_fit hr tk (da_cons (de_var (i := 3)) (da_cons (de_var (i := 8)) da_nil))))
    (ds_cons (ds_set nd (de_if (dt_cmp (r_eq u64) (de_var (i := 1)) de_int) (cc0 (ks := ["delays", "looks", "sounder"]) [2, 1, 0] c_do_fit_shifted hr tk (dk_cons (de_var (i := 8)) (dk_cons (de_var (i := 11)) (dk_cons (de_var (i := 2)) dk_nil))) (fun _ _ _ _ _ _ us ws h1 h2 => match us, ws, h1, h2 with | [], [_, _, _], _, _ => rfl)) (cc c_do_fit_shifted hr tk (da_cons (de_var (i := 2)) (da_cons (de_var (i := 11)) (da_cons (de_var (i := 8)) da_nil))))))
    (ds_cons (ds_if (PW.pt (dw_and (dt_cmp r_lt (de_blt c_len (by rfl) T.n_len (by decide +kernel) (da_cons (de_var (i := 8)) da_nil)) de_int) (dw_and1 (dt_not (dt_truth (cc c_law_same hr tk (da_cons (de_var (i := 14)) (da_cons (de_var (i := 13)) da_nil)))))))) (ds_cons (ds_ret de_bl) ds_nil) ds_nil) ds_nil)))) ds_nil))))))))))
    (ds_cons (ds_asg (de_tupN (n := 2) (da_cons (de_tupN (n := 4) (da_cons de_int (da_cons de_int (da_cons de_int (da_cons de_int da_nil)))) (lenCons (lenCons (lenCons (lenCons lenNil))))) (da_cons (de_tupN (n := 2) (da_cons (de_tupN (n := 2) (da_cons de_int (da_cons (de_tupN (n := 2) (da_cons (de_tupN (n := 1) (da_cons de_int da_nil) (lenCons lenNil)) (da_cons (de_tupN (n := 1) (da_cons de_int da_nil) (lenCons lenNil)) da_nil)) (lenCons (lenCons lenNil))) da_nil)) (lenCons (lenCons lenNil))) (da_cons (de_tupN (n := 2) (da_cons de_int (da_cons (de_tupN (n := 2) (da_cons (de_tupN (n := 1) (da_cons de_int da_nil) (lenCons lenNil)) (da_cons (de_tupN (n := 1) (da_cons de_int da_nil) (lenCons lenNil)) da_nil)) (lenCons (lenCons lenNil))) da_nil)) (lenCons (lenCons lenNil))) da_nil)) (lenCons (lenCons lenNil))) da_nil)) (lenCons (lenCons lenNil))) (dg_tup rfl (dgs_cons (dg_name nd) (dgs_cons (dg_name nd) dgs_nil))) (ne_tup (ne_cons ne_name (ne_cons ne_name ne_nil))))
    (ds_cons (ds_ret (cc c_law_same hr tk (da_cons (de_tupN (n := 3) (da_cons (cc c_possible_shifted hr tk (da_cons (de_var (i := 9)) (da_cons (de_var (i := 10)) da_nil))) (da_cons (cc c_do_fit_shifted hr tk (da_cons (de_var (i := 9)) (da_cons (de_var (i := 10)) (da_cons (de_tupN (n := 1) (da_cons de_int da_nil) (lenCons lenNil)) da_nil)))) (da_cons (cc c_can_be_shifted hr tk (da_cons (de_tupN (n := 4) (da_cons de_int (da_cons de_int (da_cons de_int (da_cons de_int da_nil)))) (lenCons (lenCons (lenCons (lenCons lenNil))))) (da_cons (de_tupN (n := 2) (da_cons (de_tupN (n := 2) (da_cons de_int (da_cons (de_tupN (n := 2) (da_cons (de_tupN (n := 2) (da_cons de_int (da_cons de_int da_nil)) (lenCons (lenCons lenNil))) (da_cons (de_tupN (n := 2) (da_cons de_int (da_cons de_int da_nil)) (lenCons (lenCons lenNil))) da_nil)) (lenCons (lenCons lenNil))) da_nil)) (lenCons (lenCons lenNil))) (da_cons (de_tupN (n := 2) (da_cons de_int (da_cons (de_tupN (n := 2) (da_cons (de_tupN (n := 1) (da_cons de_int da_nil) (lenCons lenNil)) (da_cons (de_tupN (n := 0) da_nil lenNil) da_nil)) (lenCons (lenCons lenNil))) da_nil)) (lenCons (lenCons lenNil))) da_nil)) (lenCons (lenCons lenNil))) da_nil))) da_nil))) (lenCons (lenCons (lenCons lenNil)))) (da_cons (de_tupN (n := 3) (da_cons (de_tupN (n := 1) (da_cons de_int da_nil) (lenCons lenNil)) (da_cons de_bl (da_cons de_bl da_nil))) (lenCons (lenCons (lenCons lenNil)))) da_nil)))) ds_nil)))
theorem sc_law_pool : FnScope ["script", "lap", "cell", "stirred", "each"] ["script", "lap"] (defScope s_law_pool) := ⟨rfl, rfl, rfl, by decide +kernel, rfl, by decide +kernel, by decide +kernel⟩
theorem ok_law_pool {f : Addr} {fd : FuncData} (d : Def K mg "_law_pool" s_law_pool ["script", "lap"] f fd) (T : Nm K mg t_LEAST_PERIOD t_MOST_DELAYS t_MOST_LOOKS t_MOST_PERIOD t_MOST_RANGE t_MOST_RESTS t_MOST_SHIFT t_SOUNDER_SIZE) : Cal P w K mg base "_law_pool" s_law_pool ["script", "lap"] 1 2 m_law_pool := by
  show Cal P w K mg base "_law_pool" s_law_pool ["script", "lap"] (0 + 1) 2 (fnD 5 b_law_pool)
  refine cal_of d sc_law_pool rfl rfl fun cdv A outer s H E hr => ?_
  have tk : Tk (cxOf (L2.CX P w) P w K mg base ["script", "lap", "cell", "stirred", "each"] "_law_pool" (defScope s_law_pool) f cdv A outer s H E) (fun c d _ H => E c d H) := tk_of (takes_of rfl rfl rfl rfl)
  have pw : PassesOwn (model P w) (cxOf (L2.CX P w) P w K mg base ["script", "lap", "cell", "stirred", "each"] "_law_pool" (defScope s_law_pool) f cdv A outer s H E).A (cxOf (L2.CX P w) P w K mg base ["script", "lap", "cell", "stirred", "each"] "_law_pool" (defScope s_law_pool) f cdv A outer s H E).env (cxOf (L2.CX P w) P w K mg base ["script", "lap", "cell", "stirred", "each"] "_law_pool" (defScope s_law_pool) f cdv A outer s H E).xe := passes_of rfl
  have u64 := hr.units
  have u65 := room65 hr
  have nd := sc_law_pool.nd
  exact (ds_cons (ds_set nd (de_if (dt_cmp r_lt (de_var (i := 1)) (de_blt c_len (by rfl) T.n_len (by decide +kernel) (da_cons (de_var (i := 0)) da_nil))) (de_bty c_int (by rfl) T.n_int (by decide +kernel) (da_cons (de_ix r_ix (de_var (i := 0)) (de_var (i := 1))) da_nil)) (de_bin r_add (de_bin r_mul de_int (de_var (i := 1))) de_int)))
    (ds_cons (ds_set nd (de_bin r_add de_int (de_bin r_mul de_int (de_var (i := 1)))))
    (ds_cons (ds_for pw rfl (di_seq (de_sl (de_var (i := 0)) do_none (do_some de_int))) (dg_name nd) ne_name (ds_cons (ds_set nd (de_bin r_mod (de_bty c_int (by rfl) T.n_int (by decide +kernel) (da_cons (de_bin r_add (de_bin r_add (de_bin r_mul (de_var (i := 3)) de_int) (de_bin r_mod (de_bty c_int (by rfl) T.n_int (by decide +kernel) (da_cons (de_var (i := 4)) da_nil)) de_int)) de_int) da_nil)) de_int)) ds_nil))
    (ds_cons (ds_set nd (de_bin r_mod (de_bty c_int (by rfl) T.n_int (by decide +kernel) (da_cons (de_bin r_add (de_bin r_add (de_bin r_mul (de_var (i := 3)) de_int) (de_bin r_mul (de_bin r_mod (de_bty c_int (by rfl) T.n_int (by decide +kernel) (da_cons (de_var (i := 2)) da_nil)) de_int) de_int)) de_int) da_nil)) de_int))
    (ds_cons (ds_ret (de_cellN (n := 3) (da_cons (de_if (PW.pt (dw_or (dt_cmp r_lt (de_var (i := 2)) de_int) (dw_or1 (dt_cmp r_ge (de_var (i := 2)) (de_bin r_pow de_int de_int))))) (de_bin r_mod (de_bty c_int (by rfl) T.n_int (by decide +kernel) (da_cons (de_blt c_abs (by rfl) T.n_abs (by decide +kernel) (da_cons (de_var (i := 2)) da_nil)) da_nil)) (de_bin r_pow de_int de_int)) de_int) (da_cons (de_var (i := 3)) (da_cons de_int da_nil))) (lenCons (lenCons (lenCons lenNil))))) ds_nil)))))
theorem sc_law : FnScope ["script", "lap"] ["script"] (defScope s_law) := ⟨rfl, rfl, rfl, by decide +kernel, rfl, by decide +kernel, by decide +kernel⟩
theorem ok_law {f : Addr} {fd : FuncData} (d : Def K mg "law" s_law ["script"] f fd) (T : Nm K mg t_LEAST_PERIOD t_MOST_DELAYS t_MOST_LOOKS t_MOST_PERIOD t_MOST_RANGE t_MOST_RESTS t_MOST_SHIFT t_SOUNDER_SIZE) (c_law_right : Cal P w K mg base "_law_right" s_law_right ["pool"] 13 1 m_law_right) (c_law_pool : Cal P w K mg base "_law_pool" s_law_pool ["script", "lap"] 1 2 m_law_pool) : FnOk P w K mg base (L2.CX P w) 14 f fd ["script"] (spD K mg 1 m_law) := by
  show FnOk P w K mg base (L2.CX P w) (13 + 1) f fd ["script"] (spD K mg 1 (fnD (List.length (["script", "lap"] : List Str)) b_law))
  refine fn_ok b_law d.1 sc_law rfl fun cdv A outer s H E hr => ?_
  have tk : Tk (cxOf (L2.CX P w) P w K mg base ["script", "lap"] "law" (defScope s_law) f cdv A outer s H E) (fun c d _ H => E c d H) := tk_of (takes_of rfl rfl rfl rfl)
  have pw : PassesOwn (model P w) (cxOf (L2.CX P w) P w K mg base ["script", "lap"] "law" (defScope s_law) f cdv A outer s H E).A (cxOf (L2.CX P w) P w K mg base ["script", "lap"] "law" (defScope s_law) f cdv A outer s H E).env (cxOf (L2.CX P w) P w K mg base ["script", "lap"] "law" (defScope s_law) f cdv A outer s H E).xe := passes_of rfl
  have u64 := hr.units
  have u65 := room65 hr
  have nd := sc_law.nd
  exact (ds_cons (ds_ret (de_blt (c_all rfl) (by rfl) T.n_all (by decide +kernel) (da_cons (de_lc [("lap", 1)] rfl nd (di_r1 T.n_range (da_cons (de_blt (c_max2 rfl) (by rfl) T.n_max (by decide +kernel) (da_cons de_int (da_cons (de_blt (c_min2 rfl) (by rfl) T.n_min (by decide +kernel) (da_cons (de_blt c_len (by rfl) T.n_len (by decide +kernel) (da_cons (de_var (i := 0)) da_nil)) (da_cons de_int da_nil))) da_nil))) da_nil)) (fun _ _ _ _ _ => (dg_name nd)) (fun _ _ _ _ _ => dts_nil) (fun _ _ _ _ _ => (cc c_law_right hr tk0 (da_cons (cc c_law_pool hr tk0 (da_cons (de_var (i := 0)) (da_cons (de_var (i := 1)) da_nil))) da_nil))) (ok := by show blkC ["script", "lap"] (defScope s_law) _ [("lap", 1)] = true; decide +kernel)) da_nil))) ds_nil)
end
end Law

namespace Law
open PySem L2 DL
theorem all_mk {P : Program} {w : World} {K : PySem.W.Frag} {h : Heap} {mg : Str → Option Value} {fa : Addr} (X : K.In h) (G : h.Ns mainGlobals mg) (hfa : mg "law" = some (.ref fa)) {f0 f1 f2 f3 f4 f5 f6 f7 f8 f9 f10 f11 f12 f13 f14 f15 f16 f17 f18 f19 f20 f21 f22 f23 f24 f25 f26 f27 f28 f29 f30 f31 f32 f33 f34 f35 f36 f37 f38 f39 f40 f41 f42 f43 f44 f45 f46 f47 f48 f49 f50 f51 f52 f53 f54 f55 : Addr}
    {od0 an0 od1 an1 od2 an2 od3 an3 od4 an4 od5 an5 od6 an6 od7 an7 od8 an8 od9 an9 od10 an10 od11 an11 od12 an12 od13 an13 od14 an14 od15 an15 od16 an16 od17 an17 od18 an18 od19 an19 od20 an20 od21 an21 od22 an22 od23 an23 od24 an24 od25 an25 od26 an26 od27 an27 od28 an28 od29 an29 od30 an30 od31 an31 od32 an32 od33 an33 od34 an34 od35 an35 od36 an36 od37 an37 od38 an38 od39 an39 od40 an40 od41 an41 od42 an42 od43 an43 od44 an44 od45 an45 od46 an46 od47 an47 od48 an48 od49 an49 od50 an50 od51 an51 od52 an52 od53 an53 od54 an54 od55 an55 : Option Addr} {sl0 sl1 sl2 sl3 sl4 sl5 sl6 sl7 sl8 sl9 sl10 sl11 sl12 sl13 sl14 sl15 sl16 sl17 sl18 sl19 sl20 sl21 sl22 sl23 sl24 sl25 sl26 sl27 sl28 sl29 sl30 sl31 sl32 sl33 sl34 sl35 sl36 sl37 sl38 sl39 sl40 sl41 sl42 sl43 sl44 sl45 sl46 sl47 sl48 sl49 sl50 sl51 sl52 sl53 sl54 sl55 : Array (Option Value)} {oc0 kV0 dc0 pm0 cd0 ct0 oc1 kV1 dc1 pm1 cd1 ct1 oc2 kV2 dc2 pm2 cd2 ct2 oc3 kV3 dc3 pm3 cd3 ct3 oc4 kV4 dc4 pm4 cd4 ct4 oc5 kV5 dc5 pm5 cd5 ct5 oc6 kV6 dc6 pm6 cd6 ct6 oc7 kV7 dc7 pm7 cd7 ct7 oc8 kV8 dc8 pm8 cd8 ct8 oc9 kV9 dc9 pm9 cd9 ct9 oc10 kV10 dc10 pm10 cd10 ct10 oc11 kV11 dc11 pm11 cd11 ct11 oc12 kV12 dc12 pm12 cd12 ct12 oc13 kV13 dc13 pm13 cd13 ct13 oc14 kV14 dc14 pm14 cd14 ct14 oc15 kV15 dc15 pm15 cd15 ct15 oc16 kV16 dc16 pm16 cd16 ct16 oc17 kV17 dc17 pm17 cd17 ct17 oc18 kV18 dc18 pm18 cd18 ct18 oc19 kV19 dc19 pm19 cd19 ct19 oc20 kV20 dc20 pm20 cd20 ct20 oc21 kV21 dc21 pm21 cd21 ct21 oc22 kV22 dc22 pm22 cd22 ct22 oc23 kV23 dc23 pm23 cd23 ct23 oc24 kV24 dc24 pm24 cd24 ct24 oc25 kV25 dc25 pm25 cd25 ct25 oc26 kV26 dc26 pm26 cd26 ct26 oc27 kV27 dc27 pm27 cd27 ct27 oc28 kV28 dc28 pm28 cd28 ct28 oc29 kV29 dc29 pm29 cd29 ct29 oc30 kV30 dc30 pm30 cd30 ct30 oc31 kV31 dc31 pm31 cd31 ct31 oc32 kV32 dc32 pm32 cd32 ct32 oc33 kV33 dc33 pm33 cd33 ct33 oc34 kV34 dc34 pm34 cd34 ct34 oc35 kV35 dc35 pm35 cd35 ct35 oc36 kV36 dc36 pm36 cd36 ct36 oc37 kV37 dc37 pm37 cd37 ct37 oc38 kV38 dc38 pm38 cd38 ct38 oc39 kV39 dc39 pm39 cd39 ct39 oc40 kV40 dc40 pm40 cd40 ct40 oc41 kV41 dc41 pm41 cd41 ct41 oc42 kV42 dc42 pm42 cd42 ct42 oc43 kV43 dc43 pm43 cd43 ct43 oc44 kV44 dc44 pm44 cd44 ct44 oc45 kV45 dc45 pm45 cd45 ct45 oc46 kV46 dc46 pm46 cd46 ct46 oc47 kV47 dc47 pm47 cd47 ct47 oc48 kV48 dc48 pm48 cd48 ct48 oc49 kV49 dc49 pm49 cd49 ct49 oc50 kV50 dc50 pm50 cd50 ct50 oc51 kV51 dc51 pm51 cd51 ct51 oc52 kV52 dc52 pm52 cd52 ct52 oc53 kV53 dc53 pm53 cd53 ct53 oc54 kV54 dc54 pm54 cd54 ct54 oc55 kV55 dc55 pm55 cd55 ct55 : Value} {t_LEAST_PERIOD t_MOST_DELAYS t_MOST_LOOKS t_MOST_PERIOD t_MOST_RANGE t_MOST_RESTS t_MOST_SHIFT t_SOUNDER_SIZE : Tok}
    (a0 : PySem.W.nsIn K mainGlobals "_law_same" = some (some (.ref f0))) (l0 : K.lookup f0 = some ⟨oc0, od0, .func (PySem.W.fnOf "_law_same" "_law_same" (defArgs s_law_same) (defBody s_law_same) (defScope s_law_same) .none kV0 dc0 pm0 an0 cd0 ct0), sl0⟩) (c0 : PySem.W.codeIn K cd0 "_law_same" = true) (k0 : PySem.W.keepIn K (.ref f0) = true)
    (a1 : PySem.W.nsIn K mainGlobals "_law_below" = some (some (.ref f1))) (l1 : K.lookup f1 = some ⟨oc1, od1, .func (PySem.W.fnOf "_law_below" "_law_below" (defArgs s_law_below) (defBody s_law_below) (defScope s_law_below) .none kV1 dc1 pm1 an1 cd1 ct1), sl1⟩) (c1 : PySem.W.codeIn K cd1 "_law_below" = true) (k1 : PySem.W.keepIn K (.ref f1) = true)
    (a2 : PySem.W.nsIn K mainGlobals "_law_one" = some (some (.ref f2))) (l2 : K.lookup f2 = some ⟨oc2, od2, .func (PySem.W.fnOf "_law_one" "_law_one" (defArgs s_law_one) (defBody s_law_one) (defScope s_law_one) .none kV2 dc2 pm2 an2 cd2 ct2), sl2⟩) (c2 : PySem.W.codeIn K cd2 "_law_one" = true) (k2 : PySem.W.keepIn K (.ref f2) = true)
    (a3 : PySem.W.nsIn K mainGlobals "_law_sounder" = some (some (.ref f3))) (l3 : K.lookup f3 = some ⟨oc3, od3, .func (PySem.W.fnOf "_law_sounder" "_law_sounder" (defArgs s_law_sounder) (defBody s_law_sounder) (defScope s_law_sounder) .none kV3 dc3 pm3 an3 cd3 ct3), sl3⟩) (c3 : PySem.W.codeIn K cd3 "_law_sounder" = true) (k3 : PySem.W.keepIn K (.ref f3) = true)
    (a4 : PySem.W.nsIn K mainGlobals "_law_lot" = some (some (.ref f4))) (l4 : K.lookup f4 = some ⟨oc4, od4, .func (PySem.W.fnOf "_law_lot" "_law_lot" (defArgs s_law_lot) (defBody s_law_lot) (defScope s_law_lot) .none kV4 dc4 pm4 an4 cd4 ct4), sl4⟩) (c4 : PySem.W.codeIn K cd4 "_law_lot" = true) (k4 : PySem.W.keepIn K (.ref f4) = true)
    (a5 : PySem.W.nsIn K mainGlobals "_law_marks" = some (some (.ref f5))) (l5 : K.lookup f5 = some ⟨oc5, od5, .func (PySem.W.fnOf "_law_marks" "_law_marks" (defArgs s_law_marks) (defBody s_law_marks) (defScope s_law_marks) .none kV5 dc5 pm5 an5 cd5 ct5), sl5⟩) (c5 : PySem.W.codeIn K cd5 "_law_marks" = true) (k5 : PySem.W.keepIn K (.ref f5) = true)
    (a6 : PySem.W.nsIn K mainGlobals "_law_makes" = some (some (.ref f6))) (l6 : K.lookup f6 = some ⟨oc6, od6, .func (PySem.W.fnOf "_law_makes" "_law_makes" (defArgs s_law_makes) (defBody s_law_makes) (defScope s_law_makes) .none kV6 dc6 pm6 an6 cd6 ct6), sl6⟩) (c6 : PySem.W.codeIn K cd6 "_law_makes" = true) (k6 : PySem.W.keepIn K (.ref f6) = true)
    (a7 : PySem.W.nsIn K mainGlobals "_law_bent_heard" = some (some (.ref f7))) (l7 : K.lookup f7 = some ⟨oc7, od7, .func (PySem.W.fnOf "_law_bent_heard" "_law_bent_heard" (defArgs s_law_bent_heard) (defBody s_law_bent_heard) (defScope s_law_bent_heard) .none kV7 dc7 pm7 an7 cd7 ct7), sl7⟩) (c7 : PySem.W.codeIn K cd7 "_law_bent_heard" = true) (k7 : PySem.W.keepIn K (.ref f7) = true)
    (a8 : PySem.W.nsIn K mainGlobals "_law_looks" = some (some (.ref f8))) (l8 : K.lookup f8 = some ⟨oc8, od8, .func (PySem.W.fnOf "_law_looks" "_law_looks" (defArgs s_law_looks) (defBody s_law_looks) (defScope s_law_looks) .none kV8 dc8 pm8 an8 cd8 ct8), sl8⟩) (c8 : PySem.W.codeIn K cd8 "_law_looks" = true) (k8 : PySem.W.keepIn K (.ref f8) = true)
    (a9 : PySem.W.nsIn K mainGlobals "_law_ears" = some (some (.ref f9))) (l9 : K.lookup f9 = some ⟨oc9, od9, .func (PySem.W.fnOf "_law_ears" "_law_ears" (defArgs s_law_ears) (defBody s_law_ears) (defScope s_law_ears) .none kV9 dc9 pm9 an9 cd9 ct9), sl9⟩) (c9 : PySem.W.codeIn K cd9 "_law_ears" = true) (k9 : PySem.W.keepIn K (.ref f9) = true)
    (a10 : PySem.W.nsIn K mainGlobals "_law_possible" = some (some (.ref f10))) (l10 : K.lookup f10 = some ⟨oc10, od10, .func (PySem.W.fnOf "_law_possible" "_law_possible" (defArgs s_law_possible) (defBody s_law_possible) (defScope s_law_possible) .none kV10 dc10 pm10 an10 cd10 ct10), sl10⟩) (c10 : PySem.W.codeIn K cd10 "_law_possible" = true) (k10 : PySem.W.keepIn K (.ref f10) = true)
    (a11 : PySem.W.nsIn K mainGlobals "_law_do_fit" = some (some (.ref f11))) (l11 : K.lookup f11 = some ⟨oc11, od11, .func (PySem.W.fnOf "_law_do_fit" "_law_do_fit" (defArgs s_law_do_fit) (defBody s_law_do_fit) (defScope s_law_do_fit) .none kV11 dc11 pm11 an11 cd11 ct11), sl11⟩) (c11 : PySem.W.codeIn K cd11 "_law_do_fit" = true) (k11 : PySem.W.keepIn K (.ref f11) = true)
    (a12 : PySem.W.nsIn K mainGlobals "is_whole" = some (some (.ref f12))) (l12 : K.lookup f12 = some ⟨oc12, od12, .func (PySem.W.fnOf "is_whole" "is_whole" (defArgs s_is_whole) (defBody s_is_whole) (defScope s_is_whole) .none kV12 dc12 pm12 an12 cd12 ct12), sl12⟩) (c12 : PySem.W.codeIn K cd12 "is_whole" = true) (k12 : PySem.W.keepIn K (.ref f12) = true)
    (a13 : PySem.W.nsIn K mainGlobals "is_between" = some (some (.ref f13))) (l13 : K.lookup f13 = some ⟨oc13, od13, .func (PySem.W.fnOf "is_between" "is_between" (defArgs s_is_between) (defBody s_is_between) (defScope s_is_between) .none kV13 dc13 pm13 an13 cd13 ct13), sl13⟩) (c13 : PySem.W.codeIn K cd13 "is_between" = true) (k13 : PySem.W.keepIn K (.ref f13) = true)
    (a14 : PySem.W.nsIn K mainGlobals "is_up_to" = some (some (.ref f14))) (l14 : K.lookup f14 = some ⟨oc14, od14, .func (PySem.W.fnOf "is_up_to" "is_up_to" (defArgs s_is_up_to) (defBody s_is_up_to) (defScope s_is_up_to) .none kV14 dc14 pm14 an14 cd14 ct14), sl14⟩) (c14 : PySem.W.codeIn K cd14 "is_up_to" = true) (k14 : PySem.W.keepIn K (.ref f14) = true)
    (a15 : PySem.W.nsIn K mainGlobals "is_tuple_up_to" = some (some (.ref f15))) (l15 : K.lookup f15 = some ⟨oc15, od15, .func (PySem.W.fnOf "is_tuple_up_to" "is_tuple_up_to" (defArgs s_is_tuple_up_to) (defBody s_is_tuple_up_to) (defScope s_is_tuple_up_to) .none kV15 dc15 pm15 an15 cd15 ct15), sl15⟩) (c15 : PySem.W.codeIn K cd15 "is_tuple_up_to" = true) (k15 : PySem.W.keepIn K (.ref f15) = true)
    (a16 : PySem.W.nsIn K mainGlobals "is_tuple_of" = some (some (.ref f16))) (l16 : K.lookup f16 = some ⟨oc16, od16, .func (PySem.W.fnOf "is_tuple_of" "is_tuple_of" (defArgs s_is_tuple_of) (defBody s_is_tuple_of) (defScope s_is_tuple_of) .none kV16 dc16 pm16 an16 cd16 ct16), sl16⟩) (c16 : PySem.W.codeIn K cd16 "is_tuple_of" = true) (k16 : PySem.W.keepIn K (.ref f16) = true)
    (a17 : PySem.W.nsIn K mainGlobals "is_period" = some (some (.ref f17))) (l17 : K.lookup f17 = some ⟨oc17, od17, .func (PySem.W.fnOf "is_period" "is_period" (defArgs s_is_period) (defBody s_is_period) (defScope s_is_period) .none kV17 dc17 pm17 an17 cd17 ct17), sl17⟩) (c17 : PySem.W.codeIn K cd17 "is_period" = true) (k17 : PySem.W.keepIn K (.ref f17) = true)
    (a18 : PySem.W.nsIn K mainGlobals "is_sounder_of" = some (some (.ref f18))) (l18 : K.lookup f18 = some ⟨oc18, od18, .func (PySem.W.fnOf "is_sounder_of" "is_sounder_of" (defArgs s_is_sounder_of) (defBody s_is_sounder_of) (defScope s_is_sounder_of) .none kV18 dc18 pm18 an18 cd18 ct18), sl18⟩) (c18 : PySem.W.codeIn K cd18 "is_sounder_of" = true) (k18 : PySem.W.keepIn K (.ref f18) = true)
    (a19 : PySem.W.nsIn K mainGlobals "check_sounder" = some (some (.ref f19))) (l19 : K.lookup f19 = some ⟨oc19, od19, .func (PySem.W.fnOf "check_sounder" "check_sounder" (defArgs s_check_sounder) (defBody s_check_sounder) (defScope s_check_sounder) .none kV19 dc19 pm19 an19 cd19 ct19), sl19⟩) (c19 : PySem.W.codeIn K cd19 "check_sounder" = true) (k19 : PySem.W.keepIn K (.ref f19) = true)
    (a20 : PySem.W.nsIn K mainGlobals "is_pair" = some (some (.ref f20))) (l20 : K.lookup f20 = some ⟨oc20, od20, .func (PySem.W.fnOf "is_pair" "is_pair" (defArgs s_is_pair) (defBody s_is_pair) (defScope s_is_pair) .none kV20 dc20 pm20 an20 cd20 ct20), sl20⟩) (c20 : PySem.W.codeIn K cd20 "is_pair" = true) (k20 : PySem.W.keepIn K (.ref f20) = true)
    (a21 : PySem.W.nsIn K mainGlobals "is_shift" = some (some (.ref f21))) (l21 : K.lookup f21 = some ⟨oc21, od21, .func (PySem.W.fnOf "is_shift" "is_shift" (defArgs s_is_shift) (defBody s_is_shift) (defScope s_is_shift) .none kV21 dc21 pm21 an21 cd21 ct21), sl21⟩) (c21 : PySem.W.codeIn K cd21 "is_shift" = true) (k21 : PySem.W.keepIn K (.ref f21) = true)
    (a22 : PySem.W.nsIn K mainGlobals "are_rising" = some (some (.ref f22))) (l22 : K.lookup f22 = some ⟨oc22, od22, .func (PySem.W.fnOf "are_rising" "are_rising" (defArgs s_are_rising) (defBody s_are_rising) (defScope s_are_rising) .none kV22 dc22 pm22 an22 cd22 ct22), sl22⟩) (c22 : PySem.W.codeIn K cd22 "are_rising" = true) (k22 : PySem.W.keepIn K (.ref f22) = true)
    (a23 : PySem.W.nsIn K mainGlobals "blind_of" = some (some (.ref f23))) (l23 : K.lookup f23 = some ⟨oc23, od23, .func (PySem.W.fnOf "blind_of" "blind_of" (defArgs s_blind_of) (defBody s_blind_of) (defScope s_blind_of) .none kV23 dc23 pm23 an23 cd23 ct23), sl23⟩) (c23 : PySem.W.codeIn K cd23 "blind_of" = true) (k23 : PySem.W.keepIn K (.ref f23) = true)
    (a24 : PySem.W.nsIn K mainGlobals "period_by" = some (some (.ref f24))) (l24 : K.lookup f24 = some ⟨oc24, od24, .func (PySem.W.fnOf "period_by" "period_by" (defArgs s_period_by) (defBody s_period_by) (defScope s_period_by) .none kV24 dc24 pm24 an24 cd24 ct24), sl24⟩) (c24 : PySem.W.codeIn K cd24 "period_by" = true) (k24 : PySem.W.keepIn K (.ref f24) = true)
    (a25 : PySem.W.nsIn K mainGlobals "is_rest_of" = some (some (.ref f25))) (l25 : K.lookup f25 = some ⟨oc25, od25, .func (PySem.W.fnOf "is_rest_of" "is_rest_of" (defArgs s_is_rest_of) (defBody s_is_rest_of) (defScope s_is_rest_of) .none kV25 dc25 pm25 an25 cd25 ct25), sl25⟩) (c25 : PySem.W.codeIn K cd25 "is_rest_of" = true) (k25 : PySem.W.keepIn K (.ref f25) = true)
    (a26 : PySem.W.nsIn K mainGlobals "are_rests_of" = some (some (.ref f26))) (l26 : K.lookup f26 = some ⟨oc26, od26, .func (PySem.W.fnOf "are_rests_of" "are_rests_of" (defArgs s_are_rests_of) (defBody s_are_rests_of) (defScope s_are_rests_of) .none kV26 dc26 pm26 an26 cd26 ct26), sl26⟩) (c26 : PySem.W.codeIn K cd26 "are_rests_of" = true) (k26 : PySem.W.keepIn K (.ref f26) = true)
    (a27 : PySem.W.nsIn K mainGlobals "is_heard_pair_of" = some (some (.ref f27))) (l27 : K.lookup f27 = some ⟨oc27, od27, .func (PySem.W.fnOf "is_heard_pair_of" "is_heard_pair_of" (defArgs s_is_heard_pair_of) (defBody s_is_heard_pair_of) (defScope s_is_heard_pair_of) .none kV27 dc27 pm27 an27 cd27 ct27), sl27⟩) (c27 : PySem.W.codeIn K cd27 "is_heard_pair_of" = true) (k27 : PySem.W.keepIn K (.ref f27) = true)
    (a28 : PySem.W.nsIn K mainGlobals "is_shifted_look" = some (some (.ref f28))) (l28 : K.lookup f28 = some ⟨oc28, od28, .func (PySem.W.fnOf "is_shifted_look" "is_shifted_look" (defArgs s_is_shifted_look) (defBody s_is_shifted_look) (defScope s_is_shifted_look) .none kV28 dc28 pm28 an28 cd28 ct28), sl28⟩) (c28 : PySem.W.codeIn K cd28 "is_shifted_look" = true) (k28 : PySem.W.keepIn K (.ref f28) = true)
    (a29 : PySem.W.nsIn K mainGlobals "wrong_in_looks" = some (some (.ref f29))) (l29 : K.lookup f29 = some ⟨oc29, od29, .func (PySem.W.fnOf "wrong_in_looks" "wrong_in_looks" (defArgs s_wrong_in_looks) (defBody s_wrong_in_looks) (defScope s_wrong_in_looks) .none kV29 dc29 pm29 an29 cd29 ct29), sl29⟩) (c29 : PySem.W.codeIn K cd29 "wrong_in_looks" = true) (k29 : PySem.W.keepIn K (.ref f29) = true)
    (a30 : PySem.W.nsIn K mainGlobals "check_looks" = some (some (.ref f30))) (l30 : K.lookup f30 = some ⟨oc30, od30, .func (PySem.W.fnOf "check_looks" "check_looks" (defArgs s_check_looks) (defBody s_check_looks) (defScope s_check_looks) .none kV30 dc30 pm30 an30 cd30 ct30), sl30⟩) (c30 : PySem.W.codeIn K cd30 "check_looks" = true) (k30 : PySem.W.keepIn K (.ref f30) = true)
    (a31 : PySem.W.nsIn K mainGlobals "marked_of" = some (some (.ref f31))) (l31 : K.lookup f31 = some ⟨oc31, od31, .func (PySem.W.fnOf "marked_of" "marked_of" (defArgs s_marked_of) (defBody s_marked_of) (defScope s_marked_of) .none kV31 dc31 pm31 an31 cd31 ct31), sl31⟩) (c31 : PySem.W.codeIn K cd31 "marked_of" = true) (k31 : PySem.W.keepIn K (.ref f31) = true)
    (a32 : PySem.W.nsIn K mainGlobals "needed_marks" = some (some (.ref f32))) (l32 : K.lookup f32 = some ⟨oc32, od32, .func (PySem.W.fnOf "needed_marks" "needed_marks" (defArgs s_needed_marks) (defBody s_needed_marks) (defScope s_needed_marks) .none kV32 dc32 pm32 an32 cd32 ct32), sl32⟩) (c32 : PySem.W.codeIn K cd32 "needed_marks" = true) (k32 : PySem.W.keepIn K (.ref f32) = true)
    (a33 : PySem.W.nsIn K mainGlobals "needed_in" = some (some (.ref f33))) (l33 : K.lookup f33 = some ⟨oc33, od33, .func (PySem.W.fnOf "needed_in" "needed_in" (defArgs s_needed_in) (defBody s_needed_in) (defScope s_needed_in) .none kV33 dc33 pm33 an33 cd33 ct33), sl33⟩) (c33 : PySem.W.codeIn K cd33 "needed_in" = true) (k33 : PySem.W.keepIn K (.ref f33) = true)
    (a34 : PySem.W.nsIn K mainGlobals "rest_by" = some (some (.ref f34))) (l34 : K.lookup f34 = some ⟨oc34, od34, .func (PySem.W.fnOf "rest_by" "rest_by" (defArgs s_rest_by) (defBody s_rest_by) (defScope s_rest_by) .none kV34 dc34 pm34 an34 cd34 ct34), sl34⟩) (c34 : PySem.W.codeIn K cd34 "rest_by" = true) (k34 : PySem.W.keepIn K (.ref f34) = true)
    (a35 : PySem.W.nsIn K mainGlobals "hears" = some (some (.ref f35))) (l35 : K.lookup f35 = some ⟨oc35, od35, .func (PySem.W.fnOf "hears" "hears" (defArgs s_hears) (defBody s_hears) (defScope s_hears) .none kV35 dc35 pm35 an35 cd35 ct35), sl35⟩) (c35 : PySem.W.codeIn K cd35 "hears" = true) (k35 : PySem.W.keepIn K (.ref f35) = true)
    (a36 : PySem.W.nsIn K mainGlobals "marks_of" = some (some (.ref f36))) (l36 : K.lookup f36 = some ⟨oc36, od36, .func (PySem.W.fnOf "marks_of" "marks_of" (defArgs s_marks_of) (defBody s_marks_of) (defScope s_marks_of) .none kV36 dc36 pm36 an36 cd36 ct36), sl36⟩) (c36 : PySem.W.codeIn K cd36 "marks_of" = true) (k36 : PySem.W.keepIn K (.ref f36) = true)
    (a37 : PySem.W.nsIn K mainGlobals "marks_by_shifts" = some (some (.ref f37))) (l37 : K.lookup f37 = some ⟨oc37, od37, .func (PySem.W.fnOf "marks_by_shifts" "marks_by_shifts" (defArgs s_marks_by_shifts) (defBody s_marks_by_shifts) (defScope s_marks_by_shifts) .none kV37 dc37 pm37 an37 cd37 ct37), sl37⟩) (c37 : PySem.W.codeIn K cd37 "marks_by_shifts" = true) (k37 : PySem.W.keepIn K (.ref f37) = true)
    (a38 : PySem.W.nsIn K mainGlobals "range_of" = some (some (.ref f38))) (l38 : K.lookup f38 = some ⟨oc38, od38, .func (PySem.W.fnOf "range_of" "range_of" (defArgs s_range_of) (defBody s_range_of) (defScope s_range_of) .none kV38 dc38 pm38 an38 cd38 ct38), sl38⟩) (c38 : PySem.W.codeIn K cd38 "range_of" = true) (k38 : PySem.W.keepIn K (.ref f38) = true)
    (a39 : PySem.W.nsIn K mainGlobals "all_delays" = some (some (.ref f39))) (l39 : K.lookup f39 = some ⟨oc39, od39, .func (PySem.W.fnOf "all_delays" "all_delays" (defArgs s_all_delays) (defBody s_all_delays) (defScope s_all_delays) .none kV39 dc39 pm39 an39 cd39 ct39), sl39⟩) (c39 : PySem.W.codeIn K cd39 "all_delays" = true) (k39 : PySem.W.keepIn K (.ref f39) = true)
    (a40 : PySem.W.nsIn K mainGlobals "marked_in" = some (some (.ref f40))) (l40 : K.lookup f40 = some ⟨oc40, od40, .func (PySem.W.fnOf "marked_in" "marked_in" (defArgs s_marked_in) (defBody s_marked_in) (defScope s_marked_in) .none kV40 dc40 pm40 an40 cd40 ct40), sl40⟩) (c40 : PySem.W.codeIn K cd40 "marked_in" = true) (k40 : PySem.W.keepIn K (.ref f40) = true)
    (a41 : PySem.W.nsIn K mainGlobals "possible_shifted_by" = some (some (.ref f41))) (l41 : K.lookup f41 = some ⟨oc41, od41, .func (PySem.W.fnOf "possible_shifted_by" "possible_shifted_by" (defArgs s_possible_shifted_by) (defBody s_possible_shifted_by) (defScope s_possible_shifted_by) .none kV41 dc41 pm41 an41 cd41 ct41), sl41⟩) (c41 : PySem.W.codeIn K cd41 "possible_shifted_by" = true) (k41 : PySem.W.keepIn K (.ref f41) = true)
    (a42 : PySem.W.nsIn K mainGlobals "possible_shifted" = some (some (.ref f42))) (l42 : K.lookup f42 = some ⟨oc42, od42, .func (PySem.W.fnOf "possible_shifted" "possible_shifted" (defArgs s_possible_shifted) (defBody s_possible_shifted) (defScope s_possible_shifted) .none kV42 dc42 pm42 an42 cd42 ct42), sl42⟩) (c42 : PySem.W.codeIn K cd42 "possible_shifted" = true) (k42 : PySem.W.keepIn K (.ref f42) = true)
    (a43 : PySem.W.nsIn K mainGlobals "is_delay_of" = some (some (.ref f43))) (l43 : K.lookup f43 = some ⟨oc43, od43, .func (PySem.W.fnOf "is_delay_of" "is_delay_of" (defArgs s_is_delay_of) (defBody s_is_delay_of) (defScope s_is_delay_of) .none kV43 dc43 pm43 an43 cd43 ct43), sl43⟩) (c43 : PySem.W.codeIn K cd43 "is_delay_of" = true) (k43 : PySem.W.keepIn K (.ref f43) = true)
    (a44 : PySem.W.nsIn K mainGlobals "wrong_in_delays" = some (some (.ref f44))) (l44 : K.lookup f44 = some ⟨oc44, od44, .func (PySem.W.fnOf "wrong_in_delays" "wrong_in_delays" (defArgs s_wrong_in_delays) (defBody s_wrong_in_delays) (defScope s_wrong_in_delays) .none kV44 dc44 pm44 an44 cd44 ct44), sl44⟩) (c44 : PySem.W.codeIn K cd44 "wrong_in_delays" = true) (k44 : PySem.W.keepIn K (.ref f44) = true)
    (a45 : PySem.W.nsIn K mainGlobals "check_delays" = some (some (.ref f45))) (l45 : K.lookup f45 = some ⟨oc45, od45, .func (PySem.W.fnOf "check_delays" "check_delays" (defArgs s_check_delays) (defBody s_check_delays) (defScope s_check_delays) .none kV45 dc45 pm45 an45 cd45 ct45), sl45⟩) (c45 : PySem.W.codeIn K cd45 "check_delays" = true) (k45 : PySem.W.keepIn K (.ref f45) = true)
    (a46 : PySem.W.nsIn K mainGlobals "marks_in" = some (some (.ref f46))) (l46 : K.lookup f46 = some ⟨oc46, od46, .func (PySem.W.fnOf "marks_in" "marks_in" (defArgs s_marks_in) (defBody s_marks_in) (defScope s_marks_in) .none kV46 dc46 pm46 an46 cd46 ct46), sl46⟩) (c46 : PySem.W.codeIn K cd46 "marks_in" = true) (k46 : PySem.W.keepIn K (.ref f46) = true)
    (a47 : PySem.W.nsIn K mainGlobals "do_mark_all" = some (some (.ref f47))) (l47 : K.lookup f47 = some ⟨oc47, od47, .func (PySem.W.fnOf "do_mark_all" "do_mark_all" (defArgs s_do_mark_all) (defBody s_do_mark_all) (defScope s_do_mark_all) .none kV47 dc47 pm47 an47 cd47 ct47), sl47⟩) (c47 : PySem.W.codeIn K cd47 "do_mark_all" = true) (k47 : PySem.W.keepIn K (.ref f47) = true)
    (a48 : PySem.W.nsIn K mainGlobals "do_fit_shifted_by" = some (some (.ref f48))) (l48 : K.lookup f48 = some ⟨oc48, od48, .func (PySem.W.fnOf "do_fit_shifted_by" "do_fit_shifted_by" (defArgs s_do_fit_shifted_by) (defBody s_do_fit_shifted_by) (defScope s_do_fit_shifted_by) .none kV48 dc48 pm48 an48 cd48 ct48), sl48⟩) (c48 : PySem.W.codeIn K cd48 "do_fit_shifted_by" = true) (k48 : PySem.W.keepIn K (.ref f48) = true)
    (a49 : PySem.W.nsIn K mainGlobals "do_fit_shifted" = some (some (.ref f49))) (l49 : K.lookup f49 = some ⟨oc49, od49, .func (PySem.W.fnOf "do_fit_shifted" "do_fit_shifted" (defArgs s_do_fit_shifted) (defBody s_do_fit_shifted) (defScope s_do_fit_shifted) .none kV49 dc49 pm49 an49 cd49 ct49), sl49⟩) (c49 : PySem.W.codeIn K cd49 "do_fit_shifted" = true) (k49 : PySem.W.keepIn K (.ref f49) = true)
    (a50 : PySem.W.nsIn K mainGlobals "can_mark_all" = some (some (.ref f50))) (l50 : K.lookup f50 = some ⟨oc50, od50, .func (PySem.W.fnOf "can_mark_all" "can_mark_all" (defArgs s_can_mark_all) (defBody s_can_mark_all) (defScope s_can_mark_all) .none kV50 dc50 pm50 an50 cd50 ct50), sl50⟩) (c50 : PySem.W.codeIn K cd50 "can_mark_all" = true) (k50 : PySem.W.keepIn K (.ref f50) = true)
    (a51 : PySem.W.nsIn K mainGlobals "can_be_shifted_by" = some (some (.ref f51))) (l51 : K.lookup f51 = some ⟨oc51, od51, .func (PySem.W.fnOf "can_be_shifted_by" "can_be_shifted_by" (defArgs s_can_be_shifted_by) (defBody s_can_be_shifted_by) (defScope s_can_be_shifted_by) .none kV51 dc51 pm51 an51 cd51 ct51), sl51⟩) (c51 : PySem.W.codeIn K cd51 "can_be_shifted_by" = true) (k51 : PySem.W.keepIn K (.ref f51) = true)
    (a52 : PySem.W.nsIn K mainGlobals "can_be_shifted" = some (some (.ref f52))) (l52 : K.lookup f52 = some ⟨oc52, od52, .func (PySem.W.fnOf "can_be_shifted" "can_be_shifted" (defArgs s_can_be_shifted) (defBody s_can_be_shifted) (defScope s_can_be_shifted) .none kV52 dc52 pm52 an52 cd52 ct52), sl52⟩) (c52 : PySem.W.codeIn K cd52 "can_be_shifted" = true) (k52 : PySem.W.keepIn K (.ref f52) = true)
    (a53 : PySem.W.nsIn K mainGlobals "_law_right" = some (some (.ref f53))) (l53 : K.lookup f53 = some ⟨oc53, od53, .func (PySem.W.fnOf "_law_right" "_law_right" (defArgs s_law_right) (defBody s_law_right) (defScope s_law_right) .none kV53 dc53 pm53 an53 cd53 ct53), sl53⟩) (c53 : PySem.W.codeIn K cd53 "_law_right" = true) (k53 : PySem.W.keepIn K (.ref f53) = true)
    (a54 : PySem.W.nsIn K mainGlobals "_law_pool" = some (some (.ref f54))) (l54 : K.lookup f54 = some ⟨oc54, od54, .func (PySem.W.fnOf "_law_pool" "_law_pool" (defArgs s_law_pool) (defBody s_law_pool) (defScope s_law_pool) .none kV54 dc54 pm54 an54 cd54 ct54), sl54⟩) (c54 : PySem.W.codeIn K cd54 "_law_pool" = true) (k54 : PySem.W.keepIn K (.ref f54) = true)
    (a55 : PySem.W.nsIn K mainGlobals "law" = some (some (.ref f55))) (l55 : K.lookup f55 = some ⟨oc55, od55, .func (PySem.W.fnOf "law" "law" (defArgs s_law) (defBody s_law) (defScope s_law) .none kV55 dc55 pm55 an55 cd55 ct55), sl55⟩) (c55 : PySem.W.codeIn K cd55 "law" = true) (k55 : PySem.W.keepIn K (.ref f55) = true)
    (n_abs : PySem.W.nsIn K mainGlobals "abs" = some none)
    (n_all : PySem.W.nsIn K mainGlobals "all" = some none)
    (n_any : PySem.W.nsIn K mainGlobals "any" = some none)
    (n_bool : PySem.W.nsIn K mainGlobals "bool" = some none)
    (n_dict : PySem.W.nsIn K mainGlobals "dict" = some none)
    (n_divmod : PySem.W.nsIn K mainGlobals "divmod" = some none)
    (n_enumerate : PySem.W.nsIn K mainGlobals "enumerate" = some none)
    (n_int : PySem.W.nsIn K mainGlobals "int" = some none)
    (n_isinstance : PySem.W.nsIn K mainGlobals "isinstance" = some none)
    (n_len : PySem.W.nsIn K mainGlobals "len" = some none)
    (n_list : PySem.W.nsIn K mainGlobals "list" = some none)
    (n_max : PySem.W.nsIn K mainGlobals "max" = some none)
    (n_min : PySem.W.nsIn K mainGlobals "min" = some none)
    (n_range : PySem.W.nsIn K mainGlobals "range" = some none)
    (n_set : PySem.W.nsIn K mainGlobals "set" = some none)
    (n_sorted : PySem.W.nsIn K mainGlobals "sorted" = some none)
    (n_str : PySem.W.nsIn K mainGlobals "str" = some none)
    (n_tuple : PySem.W.nsIn K mainGlobals "tuple" = some none)
    (n_zip : PySem.W.nsIn K mainGlobals "zip" = some none)
    (k_LEAST_PERIOD : PySem.W.nsIn K mainGlobals "LEAST_PERIOD" = some (some (.int 2 t_LEAST_PERIOD)))
    (k_MOST_DELAYS : PySem.W.nsIn K mainGlobals "MOST_DELAYS" = some (some (.int 60 t_MOST_DELAYS)))
    (k_MOST_LOOKS : PySem.W.nsIn K mainGlobals "MOST_LOOKS" = some (some (.int 6 t_MOST_LOOKS)))
    (k_MOST_PERIOD : PySem.W.nsIn K mainGlobals "MOST_PERIOD" = some (some (.int 40 t_MOST_PERIOD)))
    (k_MOST_RANGE : PySem.W.nsIn K mainGlobals "MOST_RANGE" = some (some (.int 1600 t_MOST_RANGE)))
    (k_MOST_RESTS : PySem.W.nsIn K mainGlobals "MOST_RESTS" = some (some (.int 12 t_MOST_RESTS)))
    (k_MOST_SHIFT : PySem.W.nsIn K mainGlobals "MOST_SHIFT" = some (some (.int 1600 t_MOST_SHIFT)))
    (k_SOUNDER_SIZE : PySem.W.nsIn K mainGlobals "SOUNDER_SIZE" = some (some (.int 4 t_SOUNDER_SIZE)))
    {c_SIDES_0_t : Tok} {c_SIDES_1_t : Tok} {c_SIDES : Addr} {c_SIDES_dd : Option Addr} {c_SIDES_n : Nat} {c_SIDES_sl : Array (Option Value)}
    (k_SIDES : PySem.W.nsIn K mainGlobals "SIDES" = some (some (.ref c_SIDES))) (l_c_SIDES : K.lookup c_SIDES = some ⟨.type "tuple", c_SIDES_dd, .seq [.int 0 c_SIDES_0_t, .int 1 c_SIDES_1_t].toArray c_SIDES_n, c_SIDES_sl⟩)
    (plain : ∀ ns : List Int, ns.length ≤ 63 → ∃ C, m_law [.scr (ns.map D.int)] [] = .ok (.bl true, C)) :
    ∃ fd : FuncData, (∀ (s : Shared) (v : Value), BindsTo s fd ⟨[v], []⟩ [("script", v)]) ∧ ∀ base : Heap, K.In base → base.Ns mainGlobals mg → FnOk P w K mg base (L2.CX P w) 14 fa fd ["script"] (spLaw K) := by
  have e := hfa.symm.trans (PySem.W.mg_of X G a55)
  cases e
  have T : Nm K mg t_LEAST_PERIOD t_MOST_DELAYS t_MOST_LOOKS t_MOST_PERIOD t_MOST_RANGE t_MOST_RESTS t_MOST_SHIFT t_SOUNDER_SIZE := ⟨PySem.W.mg_none_of X G n_abs, PySem.W.mg_none_of X G n_all, PySem.W.mg_none_of X G n_any, PySem.W.mg_none_of X G n_bool, PySem.W.mg_none_of X G n_dict, PySem.W.mg_none_of X G n_divmod, PySem.W.mg_none_of X G n_enumerate, PySem.W.mg_none_of X G n_int, PySem.W.mg_none_of X G n_isinstance, PySem.W.mg_none_of X G n_len, PySem.W.mg_none_of X G n_list, PySem.W.mg_none_of X G n_max, PySem.W.mg_none_of X G n_min, PySem.W.mg_none_of X G n_range, PySem.W.mg_none_of X G n_set, PySem.W.mg_none_of X G n_sorted, PySem.W.mg_none_of X G n_str, PySem.W.mg_none_of X G n_tuple, PySem.W.mg_none_of X G n_zip, PySem.W.mg_of X G k_LEAST_PERIOD, PySem.W.mg_of X G k_MOST_DELAYS, PySem.W.mg_of X G k_MOST_LOOKS, PySem.W.mg_of X G k_MOST_PERIOD, PySem.W.mg_of X G k_MOST_RANGE, PySem.W.mg_of X G k_MOST_RESTS, PySem.W.mg_of X G k_MOST_SHIFT, PySem.W.mg_of X G k_SOUNDER_SIZE, ⟨_, PySem.W.mg_of X G k_SIDES, (.tup l_c_SIDES (by simp) (.cons (.int _ _) (.cons (.int _ _) .nil)))⟩⟩
  have F0 := fun_mk (st := s_law_same) l0 c0 k0
  have d0 : Def K mg "_law_same" s_law_same ["told", "due"] f0 _ := ⟨F0, PySem.W.mg_of X G a0, F0.binds (ps := ["told", "due"]) fun _ _ _ _ _ _ us hl => match us, hl with | [_, _], _ => rfl⟩
  have F1 := fun_mk (st := s_law_below) l1 c1 k1
  have d1 : Def K mg "_law_below" s_law_below ["pool", "many"] f1 _ := ⟨F1, PySem.W.mg_of X G a1, F1.binds (ps := ["pool", "many"]) fun _ _ _ _ _ _ us hl => match us, hl with | [_, _], _ => rfl⟩
  have F2 := fun_mk (st := s_law_one) l2 c2 k2
  have d2 : Def K mg "_law_one" s_law_one ["pool", "some"] f2 _ := ⟨F2, PySem.W.mg_of X G a2, F2.binds (ps := ["pool", "some"]) fun _ _ _ _ _ _ us hl => match us, hl with | [_, _], _ => rfl⟩
  have F3 := fun_mk (st := s_law_sounder) l3 c3 k3
  have d3 : Def K mg "_law_sounder" s_law_sounder ["pool", "high", "far"] f3 _ := ⟨F3, PySem.W.mg_of X G a3, F3.binds (ps := ["pool", "high", "far"]) fun _ _ _ _ _ _ us hl => match us, hl with | [_, _, _], _ => rfl⟩
  have F4 := fun_mk (st := s_law_lot) l4 c4 k4
  have d4 : Def K mg "_law_lot" s_law_lot ["pool", "far", "most"] f4 _ := ⟨F4, PySem.W.mg_of X G a4, F4.binds (ps := ["pool", "far", "most"]) fun _ _ _ _ _ _ us hl => match us, hl with | [_, _, _], _ => rfl⟩
  have F5 := fun_mk (st := s_law_marks) l5 c5 k5
  have d5 : Def K mg "_law_marks" s_law_marks ["sounder", "delay"] f5 _ := ⟨F5, PySem.W.mg_of X G a5, F5.binds (ps := ["sounder", "delay"]) fun _ _ _ _ _ _ us hl => match us, hl with | [_, _], _ => rfl⟩
  have F6 := fun_mk (st := s_law_makes) l6 c6 k6
  have d6 : Def K mg "_law_makes" s_law_makes ["sounder", "delays", "shift"] f6 _ := ⟨F6, PySem.W.mg_of X G a6, F6.binds (ps := ["sounder", "delays", "shift"]) fun _ _ _ _ _ _ us hl => match us, hl with | [_, _, _], _ => rfl⟩
  have F7 := fun_mk (st := s_law_bent_heard) l7 c7 k7
  have d7 : Def K mg "_law_bent_heard" s_law_bent_heard ["pool", "sounder", "heard"] f7 _ := ⟨F7, PySem.W.mg_of X G a7, F7.binds (ps := ["pool", "sounder", "heard"]) fun _ _ _ _ _ _ us hl => match us, hl with | [_, _, _], _ => rfl⟩
  have F8 := fun_mk (st := s_law_looks) l8 c8 k8
  have d8 : Def K mg "_law_looks" s_law_looks ["pool", "sounder", "most"] f8 _ := ⟨F8, PySem.W.mg_of X G a8, F8.binds (ps := ["pool", "sounder", "most"]) fun _ _ _ _ _ _ us hl => match us, hl with | [_, _, _], _ => rfl⟩
  have F9 := fun_mk (st := s_law_ears) l9 c9 k9
  have d9 : Def K mg "_law_ears" s_law_ears ["sounder", "looks"] f9 _ := ⟨F9, PySem.W.mg_of X G a9, F9.binds (ps := ["sounder", "looks"]) fun _ _ _ _ _ _ us hl => match us, hl with | [_, _], _ => rfl⟩
  have F10 := fun_mk (st := s_law_possible) l10 c10 k10
  have d10 : Def K mg "_law_possible" s_law_possible ["ears", "far"] f10 _ := ⟨F10, PySem.W.mg_of X G a10, F10.binds (ps := ["ears", "far"]) fun _ _ _ _ _ _ us hl => match us, hl with | [_, _], _ => rfl⟩
  have F11 := fun_mk (st := s_law_do_fit) l11 c11 k11
  have d11 : Def K mg "_law_do_fit" s_law_do_fit ["ears", "delays"] f11 _ := ⟨F11, PySem.W.mg_of X G a11, F11.binds (ps := ["ears", "delays"]) fun _ _ _ _ _ _ us hl => match us, hl with | [_, _], _ => rfl⟩
  have F12 := fun_mk (st := s_is_whole) l12 c12 k12
  have d12 : Def K mg "is_whole" s_is_whole ["value"] f12 _ := ⟨F12, PySem.W.mg_of X G a12, F12.binds (ps := ["value"]) fun _ _ _ _ _ _ us hl => match us, hl with | [_], _ => rfl⟩
  have F13 := fun_mk (st := s_is_between) l13 c13 k13
  have d13 : Def K mg "is_between" s_is_between ["value", "low", "high"] f13 _ := ⟨F13, PySem.W.mg_of X G a13, F13.binds (ps := ["value", "low", "high"]) fun _ _ _ _ _ _ us hl => match us, hl with | [_, _, _], _ => rfl⟩
  have F14 := fun_mk (st := s_is_up_to) l14 c14 k14
  have d14 : Def K mg "is_up_to" s_is_up_to ["value", "most"] f14 _ := ⟨F14, PySem.W.mg_of X G a14, F14.binds (ps := ["value", "most"]) fun _ _ _ _ _ _ us hl => match us, hl with | [_, _], _ => rfl⟩
  have F15 := fun_mk (st := s_is_tuple_up_to) l15 c15 k15
  have d15 : Def K mg "is_tuple_up_to" s_is_tuple_up_to ["value", "low", "high"] f15 _ := ⟨F15, PySem.W.mg_of X G a15, F15.binds (ps := ["value", "low", "high"]) fun _ _ _ _ _ _ us hl => match us, hl with | [_, _, _], _ => rfl⟩
  have F16 := fun_mk (st := s_is_tuple_of) l16 c16 k16
  have d16 : Def K mg "is_tuple_of" s_is_tuple_of ["value", "many"] f16 _ := ⟨F16, PySem.W.mg_of X G a16, F16.binds (ps := ["value", "many"]) fun _ _ _ _ _ _ us hl => match us, hl with | [_, _], _ => rfl⟩
  have F17 := fun_mk (st := s_is_period) l17 c17 k17
  have d17 : Def K mg "is_period" s_is_period ["value"] f17 _ := ⟨F17, PySem.W.mg_of X G a17, F17.binds (ps := ["value"]) fun _ _ _ _ _ _ us hl => match us, hl with | [_], _ => rfl⟩
  have F18 := fun_mk (st := s_is_sounder_of) l18 c18 k18
  have d18 : Def K mg "is_sounder_of" s_is_sounder_of ["value"] f18 _ := ⟨F18, PySem.W.mg_of X G a18, F18.binds (ps := ["value"]) fun _ _ _ _ _ _ us hl => match us, hl with | [_], _ => rfl⟩
  have F19 := fun_mk (st := s_check_sounder) l19 c19 k19
  have d19 : Def K mg "check_sounder" s_check_sounder ["sounder"] f19 _ := ⟨F19, PySem.W.mg_of X G a19, F19.binds (ps := ["sounder"]) fun _ _ _ _ _ _ us hl => match us, hl with | [_], _ => rfl⟩
  have F20 := fun_mk (st := s_is_pair) l20 c20 k20
  have d20 : Def K mg "is_pair" s_is_pair ["value"] f20 _ := ⟨F20, PySem.W.mg_of X G a20, F20.binds (ps := ["value"]) fun _ _ _ _ _ _ us hl => match us, hl with | [_], _ => rfl⟩
  have F21 := fun_mk (st := s_is_shift) l21 c21 k21
  have d21 : Def K mg "is_shift" s_is_shift ["value"] f21 _ := ⟨F21, PySem.W.mg_of X G a21, F21.binds (ps := ["value"]) fun _ _ _ _ _ _ us hl => match us, hl with | [_], _ => rfl⟩
  have F22 := fun_mk (st := s_are_rising) l22 c22 k22
  have d22 : Def K mg "are_rising" s_are_rising ["values"] f22 _ := ⟨F22, PySem.W.mg_of X G a22, F22.binds (ps := ["values"]) fun _ _ _ _ _ _ us hl => match us, hl with | [_], _ => rfl⟩
  have F23 := fun_mk (st := s_blind_of) l23 c23 k23
  have d23 : Def K mg "blind_of" s_blind_of ["sounder"] f23 _ := ⟨F23, PySem.W.mg_of X G a23, F23.binds (ps := ["sounder"]) fun _ _ _ _ _ _ us hl => match us, hl with | [_], _ => rfl⟩
  have F24 := fun_mk (st := s_period_by) l24 c24 k24
  have d24 : Def K mg "period_by" s_period_by ["sounder", "side"] f24 _ := ⟨F24, PySem.W.mg_of X G a24, F24.binds (ps := ["sounder", "side"]) fun _ _ _ _ _ _ us hl => match us, hl with | [_, _], _ => rfl⟩
  have F25 := fun_mk (st := s_is_rest_of) l25 c25 k25
  have d25 : Def K mg "is_rest_of" s_is_rest_of ["sounder", "side", "value"] f25 _ := ⟨F25, PySem.W.mg_of X G a25, F25.binds (ps := ["sounder", "side", "value"]) fun _ _ _ _ _ _ us hl => match us, hl with | [_, _, _], _ => rfl⟩
  have F26 := fun_mk (st := s_are_rests_of) l26 c26 k26
  have d26 : Def K mg "are_rests_of" s_are_rests_of ["sounder", "side", "value"] f26 _ := ⟨F26, PySem.W.mg_of X G a26, F26.binds (ps := ["sounder", "side", "value"]) fun _ _ _ _ _ _ us hl => match us, hl with | [_, _, _], _ => rfl⟩
  have F27 := fun_mk (st := s_is_heard_pair_of) l27 c27 k27
  have d27 : Def K mg "is_heard_pair_of" s_is_heard_pair_of ["sounder", "value"] f27 _ := ⟨F27, PySem.W.mg_of X G a27, F27.binds (ps := ["sounder", "value"]) fun _ _ _ _ _ _ us hl => match us, hl with | [_, _], _ => rfl⟩
  have F28 := fun_mk (st := s_is_shifted_look) l28 c28 k28
  have d28 : Def K mg "is_shifted_look" s_is_shifted_look ["sounder", "value"] f28 _ := ⟨F28, PySem.W.mg_of X G a28, F28.binds (ps := ["sounder", "value"]) fun _ _ _ _ _ _ us hl => match us, hl with | [_, _], _ => rfl⟩
  have F29 := fun_mk (st := s_wrong_in_looks) l29 c29 k29
  have d29 : Def K mg "wrong_in_looks" s_wrong_in_looks ["sounder", "value"] f29 _ := ⟨F29, PySem.W.mg_of X G a29, F29.binds (ps := ["sounder", "value"]) fun _ _ _ _ _ _ us hl => match us, hl with | [_, _], _ => rfl⟩
  have F30 := fun_mk (st := s_check_looks) l30 c30 k30
  have d30 : Def K mg "check_looks" s_check_looks ["sounder", "looks"] f30 _ := ⟨F30, PySem.W.mg_of X G a30, F30.binds (ps := ["sounder", "looks"]) fun _ _ _ _ _ _ us hl => match us, hl with | [_, _], _ => rfl⟩
  have F31 := fun_mk (st := s_marked_of) l31 c31 k31
  have d31 : Def K mg "marked_of" s_marked_of ["rows", "needed"] f31 _ := ⟨F31, PySem.W.mg_of X G a31, F31.binds (ps := ["rows", "needed"]) fun _ _ _ _ _ _ us hl => match us, hl with | [_, _], _ => rfl⟩
  have F32 := fun_mk (st := s_needed_marks) l32 c32 k32
  have d32 : Def K mg "needed_marks" s_needed_marks ["heards"] f32 _ := ⟨F32, PySem.W.mg_of X G a32, F32.binds (ps := ["heards"]) fun _ _ _ _ _ _ us hl => match us, hl with | [_], _ => rfl⟩
  have F33 := fun_mk (st := s_needed_in) l33 c33 k33
  have d33 : Def K mg "needed_in" s_needed_in ["looks"] f33 _ := ⟨F33, PySem.W.mg_of X G a33, F33.binds (ps := ["looks"]) fun _ _ _ _ _ _ us hl => match us, hl with | [_], _ => rfl⟩
  have F34 := fun_mk (st := s_rest_by) l34 c34 k34
  have d34 : Def K mg "rest_by" s_rest_by ["sounder", "side", "delay"] f34 _ := ⟨F34, PySem.W.mg_of X G a34, F34.binds (ps := ["sounder", "side", "delay"]) fun _ _ _ _ _ _ us hl => match us, hl with | [_, _, _], _ => rfl⟩
  have F35 := fun_mk (st := s_hears) l35 c35 k35
  have d35 : Def K mg "hears" s_hears ["sounder", "side", "delay"] f35 _ := ⟨F35, PySem.W.mg_of X G a35, F35.binds (ps := ["sounder", "side", "delay"]) fun _ _ _ _ _ _ us hl => match us, hl with | [_, _, _], _ => rfl⟩
  have F36 := fun_mk (st := s_marks_of) l36 c36 k36
  have d36 : Def K mg "marks_of" s_marks_of ["sounder", "delay"] f36 _ := ⟨F36, PySem.W.mg_of X G a36, F36.binds (ps := ["sounder", "delay"]) fun _ _ _ _ _ _ us hl => match us, hl with | [_, _], _ => rfl⟩
  have F37 := fun_mk (st := s_marks_by_shifts) l37 c37 k37
  have d37 : Def K mg "marks_by_shifts" s_marks_by_shifts ["sounder", "shifts", "delay"] f37 _ := ⟨F37, PySem.W.mg_of X G a37, F37.binds (ps := ["sounder", "shifts", "delay"]) fun _ _ _ _ _ _ us hl => match us, hl with | [_, _, _], _ => rfl⟩
  have F38 := fun_mk (st := s_range_of) l38 c38 k38
  have d38 : Def K mg "range_of" s_range_of ["sounder"] f38 _ := ⟨F38, PySem.W.mg_of X G a38, F38.binds (ps := ["sounder"]) fun _ _ _ _ _ _ us hl => match us, hl with | [_], _ => rfl⟩
  have F39 := fun_mk (st := s_all_delays) l39 c39 k39
  have d39 : Def K mg "all_delays" s_all_delays ["sounder"] f39 _ := ⟨F39, PySem.W.mg_of X G a39, F39.binds (ps := ["sounder"]) fun _ _ _ _ _ _ us hl => match us, hl with | [_], _ => rfl⟩
  have F40 := fun_mk (st := s_marked_in) l40 c40 k40
  have d40 : Def K mg "marked_in" s_marked_in ["sounder", "looks"] f40 _ := ⟨F40, PySem.W.mg_of X G a40, F40.binds (ps := ["sounder", "looks"]) fun _ _ _ _ _ _ us hl => match us, hl with | [_, _], _ => rfl⟩
  have F41 := fun_mk (st := s_possible_shifted_by) l41 c41 k41
  have d41 : Def K mg "possible_shifted_by" s_possible_shifted_by ["sounder", "looks"] f41 _ := ⟨F41, PySem.W.mg_of X G a41, F41.binds (ps := ["sounder", "looks"]) fun _ _ _ _ _ _ us hl => match us, hl with | [_, _], _ => rfl⟩
  have F42 := fun_mk (st := s_possible_shifted) l42 c42 k42
  have d42 : Def K mg "possible_shifted" s_possible_shifted ["sounder", "looks"] f42 _ := ⟨F42, PySem.W.mg_of X G a42, F42.binds (ps := ["sounder", "looks"]) fun _ _ _ _ _ _ us hl => match us, hl with | [_, _], _ => rfl⟩
  have F43 := fun_mk (st := s_is_delay_of) l43 c43 k43
  have d43 : Def K mg "is_delay_of" s_is_delay_of ["sounder", "value"] f43 _ := ⟨F43, PySem.W.mg_of X G a43, F43.binds (ps := ["sounder", "value"]) fun _ _ _ _ _ _ us hl => match us, hl with | [_, _], _ => rfl⟩
  have F44 := fun_mk (st := s_wrong_in_delays) l44 c44 k44
  have d44 : Def K mg "wrong_in_delays" s_wrong_in_delays ["sounder", "value"] f44 _ := ⟨F44, PySem.W.mg_of X G a44, F44.binds (ps := ["sounder", "value"]) fun _ _ _ _ _ _ us hl => match us, hl with | [_, _], _ => rfl⟩
  have F45 := fun_mk (st := s_check_delays) l45 c45 k45
  have d45 : Def K mg "check_delays" s_check_delays ["sounder", "delays"] f45 _ := ⟨F45, PySem.W.mg_of X G a45, F45.binds (ps := ["sounder", "delays"]) fun _ _ _ _ _ _ us hl => match us, hl with | [_, _], _ => rfl⟩
  have F46 := fun_mk (st := s_marks_in) l46 c46 k46
  have d46 : Def K mg "marks_in" s_marks_in ["marked", "delays"] f46 _ := ⟨F46, PySem.W.mg_of X G a46, F46.binds (ps := ["marked", "delays"]) fun _ _ _ _ _ _ us hl => match us, hl with | [_, _], _ => rfl⟩
  have F47 := fun_mk (st := s_do_mark_all) l47 c47 k47
  have d47 : Def K mg "do_mark_all" s_do_mark_all ["marked", "needed", "delays"] f47 _ := ⟨F47, PySem.W.mg_of X G a47, F47.binds (ps := ["marked", "needed", "delays"]) fun _ _ _ _ _ _ us hl => match us, hl with | [_, _, _], _ => rfl⟩
  have F48 := fun_mk (st := s_do_fit_shifted_by) l48 c48 k48
  have d48 : Def K mg "do_fit_shifted_by" s_do_fit_shifted_by ["sounder", "looks", "delays"] f48 _ := ⟨F48, PySem.W.mg_of X G a48, F48.binds (ps := ["sounder", "looks", "delays"]) fun _ _ _ _ _ _ us hl => match us, hl with | [_, _, _], _ => rfl⟩
  have F49 := fun_mk (st := s_do_fit_shifted) l49 c49 k49
  have d49 : Def K mg "do_fit_shifted" s_do_fit_shifted ["sounder", "looks", "delays"] f49 _ := ⟨F49, PySem.W.mg_of X G a49, F49.binds (ps := ["sounder", "looks", "delays"]) fun _ _ _ _ _ _ us hl => match us, hl with | [_, _, _], _ => rfl⟩
  have F50 := fun_mk (st := s_can_mark_all) l50 c50 k50
  have d50 : Def K mg "can_mark_all" s_can_mark_all ["marked", "needed"] f50 _ := ⟨F50, PySem.W.mg_of X G a50, F50.binds (ps := ["marked", "needed"]) fun _ _ _ _ _ _ us hl => match us, hl with | [_, _], _ => rfl⟩
  have F51 := fun_mk (st := s_can_be_shifted_by) l51 c51 k51
  have d51 : Def K mg "can_be_shifted_by" s_can_be_shifted_by ["sounder", "looks"] f51 _ := ⟨F51, PySem.W.mg_of X G a51, F51.binds (ps := ["sounder", "looks"]) fun _ _ _ _ _ _ us hl => match us, hl with | [_, _], _ => rfl⟩
  have F52 := fun_mk (st := s_can_be_shifted) l52 c52 k52
  have d52 : Def K mg "can_be_shifted" s_can_be_shifted ["sounder", "looks"] f52 _ := ⟨F52, PySem.W.mg_of X G a52, F52.binds (ps := ["sounder", "looks"]) fun _ _ _ _ _ _ us hl => match us, hl with | [_, _], _ => rfl⟩
  have F53 := fun_mk (st := s_law_right) l53 c53 k53
  have d53 : Def K mg "_law_right" s_law_right ["pool"] f53 _ := ⟨F53, PySem.W.mg_of X G a53, F53.binds (ps := ["pool"]) fun _ _ _ _ _ _ us hl => match us, hl with | [_], _ => rfl⟩
  have F54 := fun_mk (st := s_law_pool) l54 c54 k54
  have d54 : Def K mg "_law_pool" s_law_pool ["script", "lap"] f54 _ := ⟨F54, PySem.W.mg_of X G a54, F54.binds (ps := ["script", "lap"]) fun _ _ _ _ _ _ us hl => match us, hl with | [_, _], _ => rfl⟩
  have F55 := fun_mk (st := s_law) l55 c55 k55
  have d55 : Def K mg "law" s_law ["script"] fa _ := ⟨F55, PySem.W.mg_of X G a55, F55.binds (ps := ["script"]) fun _ _ _ _ _ _ us hl => match us, hl with | [_], _ => rfl⟩
  refine ⟨PySem.W.fnOf "law" "law" (defArgs s_law) (defBody s_law) (defScope s_law) .none kV55 dc55 pm55 an55 cd55 ct55, fun s v => .of_eq rfl, fun base _ _ => ?_⟩
  have C0 := ok_law_same (P := P) (w := w) (base := base) d0 T  12
  have C1 := ok_law_below (P := P) (w := w) (base := base) d1 T 
  have C2 := ok_law_one (P := P) (w := w) (base := base) d2 T C1
  have C3 := ok_law_sounder (P := P) (w := w) (base := base) d3 T C1 C2
  have C4 := ok_law_lot (P := P) (w := w) (base := base) d4 T C1
  have C5 := ok_law_marks (P := P) (w := w) (base := base) d5 T 
  have C6 := ok_law_makes (P := P) (w := w) (base := base) d6 T C5
  have C7 := ok_law_bent_heard (P := P) (w := w) (base := base) d7 T C1
  have C8 := ok_law_looks (P := P) (w := w) (base := base) d8 T C4 C1 C2 C6 C7
  have C9 := ok_law_ears (P := P) (w := w) (base := base) d9 T 
  have C10 := ok_law_possible (P := P) (w := w) (base := base) d10 T C5
  have C11 := ok_law_do_fit (P := P) (w := w) (base := base) d11 T C5 C6
  have C12 := ok_is_whole (P := P) (w := w) (base := base) d12 T 
  have C13 := ok_is_between (P := P) (w := w) (base := base) d13 T C12
  have C14 := ok_is_up_to (P := P) (w := w) (base := base) d14 T C13
  have C15 := ok_is_tuple_up_to (P := P) (w := w) (base := base) d15 T 
  have C16 := ok_is_tuple_of (P := P) (w := w) (base := base) d16 T C15
  have C17 := ok_is_period (P := P) (w := w) (base := base) d17 T C13
  have C18 := ok_is_sounder_of (P := P) (w := w) (base := base) d18 T C16 C17 C14 C13
  have C19 := ok_check_sounder (P := P) (w := w) (base := base) d19 T C18
  have C20 := ok_is_pair (P := P) (w := w) (base := base) d20 T C16
  have C21 := ok_is_shift (P := P) (w := w) (base := base) d21 T C13
  have C22 := ok_are_rising (P := P) (w := w) (base := base) d22 T 
  have C23 := ok_blind_of (P := P) (w := w) (base := base) d23 T 
  have C24 := ok_period_by (P := P) (w := w) (base := base) d24 T 
  have C25 := ok_is_rest_of (P := P) (w := w) (base := base) d25 T C13 C24 C23
  have C26 := ok_are_rests_of (P := P) (w := w) (base := base) d26 T C25 C22
  have C27 := ok_is_heard_pair_of (P := P) (w := w) (base := base) d27 T C20 C26
  have C28 := ok_is_shifted_look (P := P) (w := w) (base := base) d28 T C20 C21 C27
  have C29 := ok_wrong_in_looks (P := P) (w := w) (base := base) d29 T C15 C28
  have C30 := ok_check_looks (P := P) (w := w) (base := base) d30 T C19 C29
  have C31 := ok_marked_of (P := P) (w := w) (base := base) d31 T 
  have C32 := ok_needed_marks (P := P) (w := w) (base := base) d32 T 
  have C33 := ok_needed_in (P := P) (w := w) (base := base) d33 T C32
  have C34 := ok_rest_by (P := P) (w := w) (base := base) d34 T C24
  have C35 := ok_hears (P := P) (w := w) (base := base) d35 T C34 C23
  have C36 := ok_marks_of (P := P) (w := w) (base := base) d36 T C35 C34
  have C37 := ok_marks_by_shifts (P := P) (w := w) (base := base) d37 T C36
  have C38 := ok_range_of (P := P) (w := w) (base := base) d38 T 
  have C39 := ok_all_delays (P := P) (w := w) (base := base) d39 T C38
  have C40 := ok_marked_in (P := P) (w := w) (base := base) d40 T C39 C37 C31 C33
  have C41 := ok_possible_shifted_by (P := P) (w := w) (base := base) d41 T C40
  have C42 := ok_possible_shifted (P := P) (w := w) (base := base) d42 T C30 C41
  have C43 := ok_is_delay_of (P := P) (w := w) (base := base) d43 T C14 C38
  have C44 := ok_wrong_in_delays (P := P) (w := w) (base := base) d44 T C15 C43
  have C45 := ok_check_delays (P := P) (w := w) (base := base) d45 T C44
  have C46 := ok_marks_in (P := P) (w := w) (base := base) d46 T 
  have C47 := ok_do_mark_all (P := P) (w := w) (base := base) d47 T C46
  have C48 := ok_do_fit_shifted_by (P := P) (w := w) (base := base) d48 T C47 C33 C40
  have C49 := ok_do_fit_shifted (P := P) (w := w) (base := base) d49 T C30 C45 C48
  have C50 := ok_can_mark_all (P := P) (w := w) (base := base) d50 T C47
  have C51 := ok_can_be_shifted_by (P := P) (w := w) (base := base) d51 T C50 C33 C40
  have C52 := ok_can_be_shifted (P := P) (w := w) (base := base) d52 T C30 C51
  have C53 := ok_law_right (P := P) (w := w) (base := base) d53 T C3 C8 C9 C10 C52 C42 C6 C0 C1 C4 C11 C49
  have C54 := ok_law_pool (P := P) (w := w) (base := base) d54 T 
  exact law_fn (ok_law (P := P) (w := w) (base := base) d55 T C53 C54) plain
end Law
open PySem PySem.W PyProof.Rows in
set_option maxRecDepth 100000 in
set_option maxHeartbeats 0 in
theorem PySem.Challenge.cw_echofolds_k47_whole_possible_with_shifts_holds : PySem.Challenge.rw_echofolds_k47_whole_possible_with_shifts.Holds := by
  w_on; o_law; k_head; (case hw => w_witness2)
  k_fill
  refine DL.walkD (l := PySem.Challenge.rw_echofolds_k47_whole_possible_with_shifts) (k := 14) rfl rfl ⟨rfl, by decide, by decide⟩ (fun w h Y => PySem.W.kIn_of Y) ?F
  case F =>
    intro w mg fa h KX G hmg
    refine' Law.all_mk KX G hmg ?a0 ?l0 ?c0 ?k0 ?a1 ?l1 ?c1 ?k1 ?a2 ?l2 ?c2 ?k2 ?a3 ?l3 ?c3 ?k3 ?a4 ?l4 ?c4 ?k4 ?a5 ?l5 ?c5 ?k5 ?a6 ?l6 ?c6 ?k6 ?a7 ?l7 ?c7 ?k7 ?a8 ?l8 ?c8 ?k8 ?a9 ?l9 ?c9 ?k9 ?a10 ?l10 ?c10 ?k10 ?a11 ?l11 ?c11 ?k11 ?a12 ?l12 ?c12 ?k12 ?a13 ?l13 ?c13 ?k13 ?a14 ?l14 ?c14 ?k14 ?a15 ?l15 ?c15 ?k15 ?a16 ?l16 ?c16 ?k16 ?a17 ?l17 ?c17 ?k17 ?a18 ?l18 ?c18 ?k18 ?a19 ?l19 ?c19 ?k19 ?a20 ?l20 ?c20 ?k20 ?a21 ?l21 ?c21 ?k21 ?a22 ?l22 ?c22 ?k22 ?a23 ?l23 ?c23 ?k23 ?a24 ?l24 ?c24 ?k24 ?a25 ?l25 ?c25 ?k25 ?a26 ?l26 ?c26 ?k26 ?a27 ?l27 ?c27 ?k27 ?a28 ?l28 ?c28 ?k28 ?a29 ?l29 ?c29 ?k29 ?a30 ?l30 ?c30 ?k30 ?a31 ?l31 ?c31 ?k31 ?a32 ?l32 ?c32 ?k32 ?a33 ?l33 ?c33 ?k33 ?a34 ?l34 ?c34 ?k34 ?a35 ?l35 ?c35 ?k35 ?a36 ?l36 ?c36 ?k36 ?a37 ?l37 ?c37 ?k37 ?a38 ?l38 ?c38 ?k38 ?a39 ?l39 ?c39 ?k39 ?a40 ?l40 ?c40 ?k40 ?a41 ?l41 ?c41 ?k41 ?a42 ?l42 ?c42 ?k42 ?a43 ?l43 ?c43 ?k43 ?a44 ?l44 ?c44 ?k44 ?a45 ?l45 ?c45 ?k45 ?a46 ?l46 ?c46 ?k46 ?a47 ?l47 ?c47 ?k47 ?a48 ?l48 ?c48 ?k48 ?a49 ?l49 ?c49 ?k49 ?a50 ?l50 ?c50 ?k50 ?a51 ?l51 ?c51 ?k51 ?a52 ?l52 ?c52 ?k52 ?a53 ?l53 ?c53 ?k53 ?a54 ?l54 ?c54 ?k54 ?a55 ?l55 ?c55 ?k55 ?n_abs ?n_all ?n_any ?n_bool ?n_dict ?n_divmod ?n_enumerate ?n_int ?n_isinstance ?n_len ?n_list ?n_max ?n_min ?n_range ?n_set ?n_sorted ?n_str ?n_tuple ?n_zip ?k_LEAST_PERIOD ?k_MOST_DELAYS ?k_MOST_LOOKS ?k_MOST_PERIOD ?k_MOST_RANGE ?k_MOST_RESTS ?k_MOST_SHIFT ?k_SOUNDER_SIZE ?k_SIDES ?l_c_SIDES Law.plain
    (case a0 => k_is)
    (case l0 => k_is)
    (case c0 => k_is)
    (case k0 => k_is)
    (case a1 => k_is)
    (case l1 => k_is)
    (case c1 => k_is)
    (case k1 => k_is)
    (case a2 => k_is)
    (case l2 => k_is)
    (case c2 => k_is)
    (case k2 => k_is)
    (case a3 => k_is)
    (case l3 => k_is)
    (case c3 => k_is)
    (case k3 => k_is)
    (case a4 => k_is)
    (case l4 => k_is)
    (case c4 => k_is)
    (case k4 => k_is)
    (case a5 => k_is)
    (case l5 => k_is)
    (case c5 => k_is)
    (case k5 => k_is)
    (case a6 => k_is)
    (case l6 => k_is)
    (case c6 => k_is)
    (case k6 => k_is)
    (case a7 => k_is)
    (case l7 => k_is)
    (case c7 => k_is)
    (case k7 => k_is)
    (case a8 => k_is)
    (case l8 => k_is)
    (case c8 => k_is)
    (case k8 => k_is)
    (case a9 => k_is)
    (case l9 => k_is)
    (case c9 => k_is)
    (case k9 => k_is)
    (case a10 => k_is)
    (case l10 => k_is)
    (case c10 => k_is)
    (case k10 => k_is)
    (case a11 => k_is)
    (case l11 => k_is)
    (case c11 => k_is)
    (case k11 => k_is)
    (case a12 => k_is)
    (case l12 => k_is)
    (case c12 => k_is)
    (case k12 => k_is)
    (case a13 => k_is)
    (case l13 => k_is)
    (case c13 => k_is)
    (case k13 => k_is)
    (case a14 => k_is)
    (case l14 => k_is)
    (case c14 => k_is)
    (case k14 => k_is)
    (case a15 => k_is)
    (case l15 => k_is)
    (case c15 => k_is)
    (case k15 => k_is)
    (case a16 => k_is)
    (case l16 => k_is)
    (case c16 => k_is)
    (case k16 => k_is)
    (case a17 => k_is)
    (case l17 => k_is)
    (case c17 => k_is)
    (case k17 => k_is)
    (case a18 => k_is)
    (case l18 => k_is)
    (case c18 => k_is)
    (case k18 => k_is)
    (case a19 => k_is)
    (case l19 => k_is)
    (case c19 => k_is)
    (case k19 => k_is)
    (case a20 => k_is)
    (case l20 => k_is)
    (case c20 => k_is)
    (case k20 => k_is)
    (case a21 => k_is)
    (case l21 => k_is)
    (case c21 => k_is)
    (case k21 => k_is)
    (case a22 => k_is)
    (case l22 => k_is)
    (case c22 => k_is)
    (case k22 => k_is)
    (case a23 => k_is)
    (case l23 => k_is)
    (case c23 => k_is)
    (case k23 => k_is)
    (case a24 => k_is)
    (case l24 => k_is)
    (case c24 => k_is)
    (case k24 => k_is)
    (case a25 => k_is)
    (case l25 => k_is)
    (case c25 => k_is)
    (case k25 => k_is)
    (case a26 => k_is)
    (case l26 => k_is)
    (case c26 => k_is)
    (case k26 => k_is)
    (case a27 => k_is)
    (case l27 => k_is)
    (case c27 => k_is)
    (case k27 => k_is)
    (case a28 => k_is)
    (case l28 => k_is)
    (case c28 => k_is)
    (case k28 => k_is)
    (case a29 => k_is)
    (case l29 => k_is)
    (case c29 => k_is)
    (case k29 => k_is)
    (case a30 => k_is)
    (case l30 => k_is)
    (case c30 => k_is)
    (case k30 => k_is)
    (case a31 => k_is)
    (case l31 => k_is)
    (case c31 => k_is)
    (case k31 => k_is)
    (case a32 => k_is)
    (case l32 => k_is)
    (case c32 => k_is)
    (case k32 => k_is)
    (case a33 => k_is)
    (case l33 => k_is)
    (case c33 => k_is)
    (case k33 => k_is)
    (case a34 => k_is)
    (case l34 => k_is)
    (case c34 => k_is)
    (case k34 => k_is)
    (case a35 => k_is)
    (case l35 => k_is)
    (case c35 => k_is)
    (case k35 => k_is)
    (case a36 => k_is)
    (case l36 => k_is)
    (case c36 => k_is)
    (case k36 => k_is)
    (case a37 => k_is)
    (case l37 => k_is)
    (case c37 => k_is)
    (case k37 => k_is)
    (case a38 => k_is)
    (case l38 => k_is)
    (case c38 => k_is)
    (case k38 => k_is)
    (case a39 => k_is)
    (case l39 => k_is)
    (case c39 => k_is)
    (case k39 => k_is)
    (case a40 => k_is)
    (case l40 => k_is)
    (case c40 => k_is)
    (case k40 => k_is)
    (case a41 => k_is)
    (case l41 => k_is)
    (case c41 => k_is)
    (case k41 => k_is)
    (case a42 => k_is)
    (case l42 => k_is)
    (case c42 => k_is)
    (case k42 => k_is)
    (case a43 => k_is)
    (case l43 => k_is)
    (case c43 => k_is)
    (case k43 => k_is)
    (case a44 => k_is)
    (case l44 => k_is)
    (case c44 => k_is)
    (case k44 => k_is)
    (case a45 => k_is)
    (case l45 => k_is)
    (case c45 => k_is)
    (case k45 => k_is)
    (case a46 => k_is)
    (case l46 => k_is)
    (case c46 => k_is)
    (case k46 => k_is)
    (case a47 => k_is)
    (case l47 => k_is)
    (case c47 => k_is)
    (case k47 => k_is)
    (case a48 => k_is)
    (case l48 => k_is)
    (case c48 => k_is)
    (case k48 => k_is)
    (case a49 => k_is)
    (case l49 => k_is)
    (case c49 => k_is)
    (case k49 => k_is)
    (case a50 => k_is)
    (case l50 => k_is)
    (case c50 => k_is)
    (case k50 => k_is)
    (case a51 => k_is)
    (case l51 => k_is)
    (case c51 => k_is)
    (case k51 => k_is)
    (case a52 => k_is)
    (case l52 => k_is)
    (case c52 => k_is)
    (case k52 => k_is)
    (case a53 => k_is)
    (case l53 => k_is)
    (case c53 => k_is)
    (case k53 => k_is)
    (case a54 => k_is)
    (case l54 => k_is)
    (case c54 => k_is)
    (case k54 => k_is)
    (case a55 => k_is)
    (case l55 => k_is)
    (case c55 => k_is)
    (case k55 => k_is)
    (case n_abs => k_is)
    (case n_all => k_is)
    (case n_any => k_is)
    (case n_bool => k_is)
    (case n_dict => k_is)
    (case n_divmod => k_is)
    (case n_enumerate => k_is)
    (case n_int => k_is)
    (case n_isinstance => k_is)
    (case n_len => k_is)
    (case n_list => k_is)
    (case n_max => k_is)
    (case n_min => k_is)
    (case n_range => k_is)
    (case n_set => k_is)
    (case n_sorted => k_is)
    (case n_str => k_is)
    (case n_tuple => k_is)
    (case n_zip => k_is)
    (case k_LEAST_PERIOD => k_is)
    (case k_MOST_DELAYS => k_is)
    (case k_MOST_LOOKS => k_is)
    (case k_MOST_PERIOD => k_is)
    (case k_MOST_RANGE => k_is)
    (case k_MOST_RESTS => k_is)
    (case k_MOST_SHIFT => k_is)
    (case k_SOUNDER_SIZE => k_is)
    (case k_SIDES => k_is)
    (case l_c_SIDES => k_is)

