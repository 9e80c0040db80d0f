import PyProof.Rows.All
import HandS.ForMost
import HandS.ForExc
import HandS.Walk
import HandS.TupAny
import HandS.IsInst
import HandS.Flow
import HandS.MakeKwOnly
import HandS.Style
import HandS.More
import HandS.WideBits
import HandS.Deep
import HandS.ForSpec
import HandS.Conv
import HandS.Gcd
import HandS.SortInts
import HandS.SetFor
import HandS.Strs
import HandS.Iter
import HandS.Zip
import PySem.Challenge.RW_echofolds_k06_whole_heard_of_anything
set_option Elab.async false
set_option linter.all false
set_option maxRecDepth 100000
set_option maxHeartbeats 4000000
/-! DL1: deep data D over the hand layer: cells (things that change) by number, all else by value. -/
namespace DL
open PySem L2

/-! ### data -/
inductive D where
  | non | bl (b : Bool) | int (i : Int) | str (x : Str) | tup (ds : List D) | lst (ds : List D)
  | dct (ks vs : List D) | hnd (k : Nat) | ref (a : Addr) | ty (n : String) | scr (ds : List D) | ktp (ds : List D)
inductive Cell where
  | lst (ds : List D)
  | dct (ks vs : List D)
abbrev Cells := List Cell
/-- an error that leaves: its class's name, its fields -/
structure Er where
  c : Str
  fs : List (Str × D)

/-- where the cells stand (cs), and what is hidden meanwhile (hs: the lists that comprehensions are making) -/
structure Al where
  cs : List Addr
  hs : List Addr
abbrev Al.all (α : Al) : List Addr := α.cs ++ α.hs
abbrev Al.push (α : Al) (p : Addr) : Al := ⟨α.cs ++ [p], α.hs⟩
abbrev Al.hide (α : Al) (p : Addr) : Al := ⟨α.cs, p :: α.hs⟩

/-- a key as data -/
def kD : Key → D
  | .inl i => .int i
  | .inr x => .str x
def ktD (k : List Key) : D := .tup (k.map kD)

/-- a list that nobody changes: the script, a list of the written part -/
def SqF (K : PySem.W.Frag) (H : Hp) (a : Addr) (xs : List V) : Prop :=
  (∃ o, H a = some (.frz o (.lst xs))) ∨ ∃ (o : Obj) (its : Array Value) (n : Nat), K.lookup a = some o ∧ o.cls = .type "list" ∧ o.dict = none ∧ o.data = .seq its n ∧ its.size ≤ sizeLine ∧ Vals xs its.toList
theorem SqF.sq {K : PySem.W.Frag} {H : Hp} {a : Addr} {xs : List V} (h : SqF K H a xs) : SqL K H a xs := by
  rcases h with ⟨o, h⟩ | h
  · exact .inl (.inr ⟨o, h⟩)
  · exact .inr h
mutual
/-- v stands for d, the cells at α -/
inductive VR (K : PySem.W.Frag) (α : Al) (H : Hp) : V → D → Prop where
  | non : VR K α H .non .non
  | bl (b : Bool) : VR K α H (.bl b) (.bl b)
  | int (i : Int) : VR K α H (.int i) (.int i)
  | str (x : Str) : VR K α H (.str x) (.str x)
  | tup {a : Addr} {xs : List V} {ds : List D} : H a = some (.tup xs) → xs.length ≤ sizeLine → VRs K α H xs ds → VR K α H (.ref a) (.tup ds)
  | ktp {a : Addr} {xs : List V} {ds : List D} : SqT K H a xs → xs.length ≤ sizeLine → VRs K α H xs ds → VR K α H (.ref a) (.ktp ds)
  | lst {a : Addr} {xs : List V} {ds : List D} : H a = some (.lst xs) → a ∉ α.all → xs.length ≤ sizeLine → VRs K α H xs ds → VR K α H (.ref a) (.lst ds)
  | dctK {a : Addr} {kvs : List (Key × V)} {ks vs : List D} : H a = some (.dK kvs) → a ∉ α.all → ks = kvs.map (fun p => kD p.1) → VRs K α H (kvs.map (·.2)) vs → VR K α H (.ref a) (.dct ks vs)
  | dctT {a : Addr} {kvs : List (List Key × V)} {ks vs : List D} : H a = some (.dT kvs) → a ∉ α.all → ks = kvs.map (fun p => ktD p.1) → VRs K α H (kvs.map (·.2)) vs → VR K α H (.ref a) (.dct ks vs)
  | hnd {k : Nat} {a : Addr} : α.cs[k]? = some a → VR K α H (.ref a) (.hnd k)
  | ref (a : Addr) : VR K α H (.ref a) (.ref a)
  | ty (n : String) : VR K α H (.ty n) (.ty n)
  | scr {a : Addr} {xs : List V} {ds : List D} : SqF K H a xs → xs.length ≤ sizeLine → VRs K α H xs ds → VR K α H (.ref a) (.scr ds)
inductive VRs (K : PySem.W.Frag) (α : Al) (H : Hp) : List V → List D → Prop where
  | nil : VRs K α H [] []
  | cons {v : V} {vs : List V} {d : D} {ds : List D} : VR K α H v d → VRs K α H vs ds → VRs K α H (v :: vs) (d :: ds)
end

def CellR (K : PySem.W.Frag) (α : Al) (H : Hp) (a : Addr) : Cell → Prop
  | .lst ds => ∃ xs, H a = some (.lst xs) ∧ xs.length ≤ sizeLine ∧ VRs K α H xs ds
  | .dct ks vs => (∃ kvs : List (Key × V), H a = some (.dK kvs) ∧ ks = kvs.map (fun p => kD p.1) ∧ VRs K α H (kvs.map (·.2)) vs) ∨
      (∃ kvs : List (List Key × V), H a = some (.dT kvs) ∧ ks = kvs.map (fun p => ktD p.1) ∧ VRs K α H (kvs.map (·.2)) vs)
structure CR (K : PySem.W.Frag) (α : Al) (H : Hp) (C : Cells) : Prop where
  len : α.cs.length = C.length
  nd : α.all.Nodup
  at_ : ∀ (k : Nat) (a : Addr) (c : Cell), α.cs[k]? = some a → C[k]? = some c → CellR K α H a c
  hid : ∀ a ∈ α.hs, ∃ xs, H a = some (.lst xs)
/-- from (α, H) to (α', H'): new cells are new; all that was tracked, but for the cells, is as it was -/
structure ExtW (α : Al) (H : Hp) (α' : Al) (H' : Hp) : Prop where
  pre : ∃ β, α'.cs = α.cs ++ β ∧ ∀ a ∈ β, H a = none
  more : ∃ γ, α'.hs = γ ++ α.hs ∧ ∀ a ∈ γ, H a = none
  keep : ∀ b o, H b = some o → b ∉ α.all → H' b = some o
/-- .. what is hidden too -/
structure Ext (α : Al) (H : Hp) (α' : Al) (H' : Hp) : Prop extends ExtW α H α' H' where
  hs : α'.hs = α.hs
  hid : ∀ b ∈ α.hs, H' b = H b
theorem noMore {β : Type} {l : List β} {P : β → Prop} : ∃ γ, l = γ ++ l ∧ ∀ a ∈ γ, P a := ⟨[], rfl, fun _ h => nomatch h⟩

section
variable {K : PySem.W.Frag} {α α' α'' : Al} {H H' H'' : Hp} {C C' : Cells}
theorem Ext.refl (α : Al) (H : Hp) : Ext α H α H := ⟨⟨⟨[], (List.append_nil _).symm, fun _ h => nomatch h⟩, noMore, fun _ _ h _ => h⟩, rfl, fun _ _ => rfl⟩
theorem ExtW.notin (e : ExtW α H α' H') {b : Addr} {o : HO} (h : H b = some o) (n : b ∉ α.all) : b ∉ α'.all := by
  obtain ⟨β, eq, hb⟩ := e.pre
  obtain ⟨γ, eq2, hc⟩ := e.more
  intro hm
  rcases List.mem_append.mp hm with q | q
  · rw [eq] at q
    rcases List.mem_append.mp q with q | q
    · exact n (List.mem_append_left _ q)
    · rw [hb b q] at h; cases h
  · rw [eq2] at q
    rcases List.mem_append.mp q with q | q
    · rw [hc b q] at h; cases h
    · exact n (List.mem_append_right _ q)
theorem ExtW.sub (e : ExtW α H α' H') {a : Addr} (h : a ∈ α.all) : a ∈ α'.all := by
  obtain ⟨β, eq, hb⟩ := e.pre
  obtain ⟨γ, eq2, hc⟩ := e.more
  rcases List.mem_append.mp h with q | q
  · exact List.mem_append_left _ (by rw [eq]; exact List.mem_append_left _ q)
  · exact List.mem_append_right _ (by rw [eq2]; exact List.mem_append_right _ q)
theorem ExtW.trans (e : ExtW α H α' H') (c' : ∀ a ∈ α.all, ∃ o, H' a = some o) (f : ExtW α' H' α'' H'') : ExtW α H α'' H'' := by
  have back : ∀ a, H' a = none → H a = none := fun a z => by
    cases h : H a with
    | none => rfl
    | some o =>
      exfalso
      by_cases hm : a ∈ α.all
      · obtain ⟨o', z'⟩ := c' a hm
        rw [z'] at z; cases z
      · rw [e.keep a o h hm] at z; cases z
  refine ⟨?_, ?_, fun b o h n => f.keep b o (e.keep b o h n) (e.notin h n)⟩
  · obtain ⟨β, eq, hb⟩ := e.pre
    obtain ⟨γ, eq2, hc⟩ := f.pre
    refine ⟨β ++ γ, by rw [eq2, eq, List.append_assoc], fun a ha => ?_⟩
    rcases List.mem_append.mp ha with q | q
    · exact hb a q
    · exact back a (hc a q)
  · obtain ⟨β, eq, hb⟩ := e.more
    obtain ⟨γ, eq2, hc⟩ := f.more
    refine ⟨γ ++ β, by rw [eq2, eq, List.append_assoc], fun a ha => ?_⟩
    rcases List.mem_append.mp ha with q | q
    · exact back a (hc a q)
    · exact hb a q
theorem Ext.trans (e : Ext α H α' H') (c' : ∀ a ∈ α.all, ∃ o, H' a = some o) (f : Ext α' H' α'' H'') : Ext α H α'' H'' :=
  ⟨e.toExtW.trans c' f.toExtW, f.hs.trans e.hs, fun b hb => (f.hid b (by rw [e.hs]; exact hb)).trans (e.hid b hb)⟩
theorem CR.there (c : CR K α H C) : ∀ a ∈ α.all, ∃ o, H a = some o ∧ ((∃ xs, o = .lst xs) ∨ (∃ kvs, o = .dK kvs) ∨ ∃ kvs, o = .dT kvs) := fun a ha => by
  rcases List.mem_append.mp ha with ha | ha
  · obtain ⟨k, hk, rfl⟩ := List.mem_iff_getElem.mp ha
    have hk' : k < C.length := by rw [← c.len]; exact hk
    have q := c.at_ k α.cs[k] C[k] (by simp [hk]) (by simp [hk'])
    cases h : C[k] with
    | lst ds =>
      rw [h] at q
      obtain ⟨xs, e, _⟩ := q
      exact ⟨_, e, .inl ⟨xs, rfl⟩⟩
    | dct ks vs =>
      rw [h] at q
      rcases q with ⟨kvs, e, _⟩ | ⟨kvs, e, _⟩
      · exact ⟨_, e, .inr (.inl ⟨kvs, rfl⟩)⟩
      · exact ⟨_, e, .inr (.inr ⟨kvs, rfl⟩)⟩
  · obtain ⟨xs, e⟩ := c.hid a ha
    exact ⟨_, e, .inl ⟨xs, rfl⟩⟩
theorem CR.has (c : CR K α H C) : ∀ a ∈ α.all, ∃ o, H a = some o := fun a ha => let ⟨o, h, _⟩ := c.there a ha; ⟨o, h⟩
/-- an address whose object is no cell's kind is no cell -/
theorem CR.not (c : CR K α H C) {b : Addr} {o : HO} (h : H b = some o) (h1 : ∀ xs, o ≠ .lst xs) (h2 : ∀ kvs, o ≠ .dK kvs) (h3 : ∀ kvs, o ≠ .dT kvs) : b ∉ α.all := fun hm => by
  obtain ⟨o', e, q⟩ := c.there b hm
  rw [h] at e; cases e
  rcases q with ⟨xs, z⟩ | ⟨xs, z⟩ | ⟨xs, z⟩
  · exact h1 _ z
  · exact h2 _ z
  · exact h3 _ z
theorem Ext.trans' (e : Ext α H α' H') (c : CR K α H C) (c' : CR K α' H' C') (f : Ext α' H' α'' H'') : Ext α H α'' H'' :=
  e.trans (fun a ha => c'.has a (e.sub ha)) f

theorem rd_ext (c : CR K α H C) (e : ExtW α H α' H') {a : Addr} {u : HO} (h : Rd H a u) (n : a ∉ α.all) : Rd H' a u := by
  rcases h with h | ⟨o, h⟩
  · exact .inl (e.keep _ _ h n)
  · exact .inr ⟨o, e.keep _ _ h n⟩
theorem sqT_ext (c : CR K α H C) (e : ExtW α H α' H') {a : Addr} {xs : List V} (h : SqT K H a xs) : SqT K H' a xs := by
  rcases h with (h | ⟨o, h⟩) | h
  · exact .inl (.inl (e.keep _ _ h (c.not h (fun _ z => by cases z) (fun _ z => by cases z) (fun _ z => by cases z))))
  · exact .inl (.inr ⟨o, e.keep _ _ h (c.not h (fun _ z => by cases z) (fun _ z => by cases z) (fun _ z => by cases z))⟩)
  · exact .inr h
theorem sqF_ext (c : CR K α H C) (e : ExtW α H α' H') {a : Addr} {xs : List V} (h : SqF K H a xs) : SqF K H' a xs := by
  rcases h with ⟨o, h⟩ | h
  · exact .inl ⟨o, e.keep _ _ h (c.not h (fun _ z => by cases z) (fun _ z => by cases z) (fun _ z => by cases z))⟩
  · exact .inr h
theorem rd_notin (e : ExtW α H α' H') {a : Addr} {u : HO} (h : Rd H a u) (n : a ∉ α.all) : a ∉ α'.all := by
  rcases h with h | ⟨o, h⟩
  · exact e.notin h n
  · exact e.notin h n
mutual
theorem VR.extW (c : CR K α H C) (e : ExtW α H α' H') : ∀ {v : V} {d : D}, VR K α H v d → VR K α' H' v d
  | _, _, .non => .non
  | _, _, .bl b => .bl b
  | _, _, .int i => .int i
  | _, _, .str x => .str x
  | _, _, .tup h z r => .tup (e.keep _ _ h (c.not h (fun _ z => by cases z) (fun _ z => by cases z) (fun _ z => by cases z))) z (VRs.extW c e r)
  | _, _, .ktp h z r => .ktp (sqT_ext c e h) z (VRs.extW c e r)
  | _, _, .lst h n z r => .lst (e.keep _ _ h n) (e.notin h n) z (VRs.extW c e r)
  | _, _, .scr h z r => .scr (sqF_ext c e h) z (VRs.extW c e r)
  | _, _, .dctK h n z r => .dctK (e.keep _ _ h n) (e.notin h n) z (VRs.extW c e r)
  | _, _, .dctT h n z r => .dctT (e.keep _ _ h n) (e.notin h n) z (VRs.extW c e r)
  | _, _, .hnd h => .hnd (by
      obtain ⟨β, eq, _⟩ := e.pre
      rw [eq, List.getElem?_append_left (List.getElem?_eq_some_iff.mp h).1]
      exact h)
  | _, _, .ref a => .ref a
  | _, _, .ty n => .ty n
theorem VRs.extW (c : CR K α H C) (e : ExtW α H α' H') : ∀ {vs : List V} {ds : List D}, VRs K α H vs ds → VRs K α' H' vs ds
  | _, _, .nil => .nil
  | _, _, .cons h t => .cons (VR.extW c e h) (VRs.extW c e t)
end
theorem VR.ext (c : CR K α H C) (e : Ext α H α' H') {v : V} {d : D} (r : VR K α H v d) : VR K α' H' v d := VR.extW c e.toExtW r
theorem VRs.ext (c : CR K α H C) (e : Ext α H α' H') {v : List V} {d : List D} (r : VRs K α H v d) : VRs K α' H' v d := VRs.extW c e.toExtW r
theorem VRs.length : ∀ {vs : List V} {ds : List D}, VRs K α H vs ds → vs.length = ds.length
  | _, _, .nil => rfl
  | _, _, .cons _ t => by simp [VRs.length t]
theorem VRs.get : ∀ {vs : List V} {ds : List D}, VRs K α H vs ds → ∀ {i : Nat} {v : V}, vs[i]? = some v → ∃ d, ds[i]? = some d ∧ VR K α H v d
  | _, _, .nil, _, _, e => by simp at e
  | _, _, .cons h t, 0, _, e => by simp at e; subst e; exact ⟨_, rfl, h⟩
  | _, _, .cons h t, i + 1, v, e => by
    obtain ⟨d, h1, h2⟩ := VRs.get t (i := i) (v := v) (by simpa using e)
    exact ⟨d, by simpa using h1, h2⟩
theorem VRs.getD : ∀ {vs : List V} {ds : List D}, VRs K α H vs ds → ∀ {i : Nat} {d : D}, ds[i]? = some d → ∃ v, vs[i]? = some v ∧ VR K α H v d
  | _, _, .nil, _, _, e => by simp at e
  | _, _, .cons h t, 0, _, e => by simp at e; subst e; exact ⟨_, rfl, h⟩
  | _, _, .cons h t, i + 1, v, e => by
    obtain ⟨d, h1, h2⟩ := VRs.getD t (i := i) (d := v) (by simpa using e)
    exact ⟨d, by simpa using h1, h2⟩
theorem VRs.append : ∀ {vs ws : List V} {ds es : List D}, VRs K α H vs ds → VRs K α H ws es → VRs K α H (vs ++ ws) (ds ++ es)
  | _, _, _, _, .nil, s => s
  | _, _, _, _, .cons h t, s => .cons h (VRs.append t s)
theorem VRs.take : ∀ {vs : List V} {ds : List D} (n : Nat), VRs K α H vs ds → VRs K α H (vs.take n) (ds.take n)
  | _, _, 0, _ => .nil
  | _, _, _ + 1, .nil => .nil
  | _, _, n + 1, .cons h t => .cons h (VRs.take n t)
theorem VRs.drop : ∀ {vs : List V} {ds : List D} (n : Nat), VRs K α H vs ds → VRs K α H (vs.drop n) (ds.drop n)
  | _, _, 0, r => r
  | _, _, _ + 1, .nil => .nil
  | _, _, n + 1, .cons h t => VRs.drop n t
theorem VRs.set {v : V} {d : D} (r : VR K α H v d) : ∀ {vs : List V} {ds : List D} (n : Nat), VRs K α H vs ds → VRs K α H (vs.set n v) (ds.set n d)
  | _, _, _, .nil => .nil
  | _, _, 0, .cons _ t => .cons r t
  | _, _, n + 1, .cons h t => .cons h (VRs.set r n t)
theorem VRs.reverse : ∀ {vs : List V} {ds : List D}, VRs K α H vs ds → VRs K α H vs.reverse ds.reverse
  | _, _, .nil => .nil
  | _, _, .cons h t => by
    rw [List.reverse_cons, List.reverse_cons]
    exact (VRs.reverse t).append (.cons h .nil)
theorem VRs.ints : ∀ (ns : List Int), VRs K α H (ns.map V.int) (ns.map D.int)
  | [] => .nil
  | n :: r => .cons (.int n) (VRs.ints r)
/-- a new thing, no cell -/
theorem Ext.new (c : CR K α H C) {p : Addr} {o : HO} (h : H p = none) : Ext α H α (upd H p o) :=
  ⟨⟨⟨[], (List.append_nil _).symm, fun _ h => nomatch h⟩, noMore, fun b u e _ => by rw [upd_ne (ne_of_none e h)]; exact e⟩, rfl, fun b hb => by
    obtain ⟨xs, e⟩ := c.hid b hb
    exact upd_ne (ne_of_none e h)⟩
theorem CR.notin_of_none (c : CR K α H C) {p : Addr} (h : H p = none) : p ∉ α.all := fun hm => by
  obtain ⟨o, e⟩ := c.has p hm
  rw [h] at e; cases e
theorem CellR.ext (c : CR K α H C) (e : ExtW α H α' H') {a : Addr} {cl : Cell} (r : CellR K α H a cl) (h : H' a = H a) : CellR K α' H' a cl := by
  cases cl with
  | lst ds =>
    obtain ⟨xs, h1, z, r⟩ := r
    exact ⟨xs, by rw [h]; exact h1, z, r.extW c e⟩
  | dct ks vs =>
    rcases r with ⟨kvs, h1, z, r⟩ | ⟨kvs, h1, z, r⟩
    · exact .inl ⟨kvs, by rw [h]; exact h1, z, r.extW c e⟩
    · exact .inr ⟨kvs, by rw [h]; exact h1, z, r.extW c e⟩
/-- .. the cells too -/
theorem CR.new (c : CR K α H C) {p : Addr} {o : HO} (h : H p = none) : CR K α (upd H p o) C :=
  ⟨c.len, c.nd, fun k a cl ha hc => (c.at_ k a cl ha hc).ext c (Ext.new c h).toExtW (by
    have n : a ≠ p := fun z => c.notin_of_none h (z ▸ List.mem_append_left _ (List.mem_of_getElem? ha))
    rw [upd_ne n]), fun a ha => by
    obtain ⟨xs, e⟩ := c.hid a ha
    exact ⟨xs, by rw [upd_ne (ne_of_none e h)]; exact e⟩⟩
/-- heaps that agree -/
theorem CR.same (c : CR K α H C) (e : Ext α H α H') (h : ∀ a ∈ α.all, H' a = H a) : CR K α H' C :=
  ⟨c.len, c.nd, fun k a cl ha hc => (c.at_ k a cl ha hc).ext c e.toExtW (h a (List.mem_append_left _ (List.mem_of_getElem? ha))), fun a ha => by rw [h a (List.mem_append_right _ ha)]; exact c.hid a ha⟩
/-- a new cell -/
theorem Ext.newCell (c : CR K α H C) {p : Addr} {o : HO} (h : H p = none) : Ext α H (α.push p) (upd H p o) :=
  ⟨⟨⟨[p], rfl, fun a ha => by rw [List.mem_singleton.mp ha]; exact h⟩, noMore, fun b u e _ => by rw [upd_ne (ne_of_none e h)]; exact e⟩, rfl, fun b hb => by
    obtain ⟨xs, e⟩ := c.hid b hb
    exact upd_ne (ne_of_none e h)⟩
theorem CR.newCell (c : CR K α H C) {p : Addr} {o : HO} {cl : Cell} (h : H p = none) (r : CellR K (α.push p) (upd H p o) p cl) : CR K (α.push p) (upd H p o) (C ++ [cl]) := by
  have np := c.notin_of_none h
  refine ⟨by simp [c.len], ?_, fun k a cl' ha hc => ?_, fun a ha => ?_⟩
  · have q : (α.push p).all = α.cs ++ (p :: α.hs) := List.append_assoc α.cs [p] α.hs
    rw [q, List.nodup_append]
    have nd := List.nodup_append.mp c.nd
    refine ⟨nd.1, List.nodup_cons.mpr ⟨fun z => np (List.mem_append_right _ z), nd.2.1⟩, fun a ha b hb => ?_⟩
    rcases List.mem_cons.mp hb with z | z
    · rw [z]; exact fun z => np (z ▸ List.mem_append_left _ ha)
    · exact nd.2.2 a ha b z
  · by_cases hk : k < α.cs.length
    · have ha : α.cs[k]? = Option.some a := by rw [← ha]; exact (List.getElem?_append_left hk).symm
      rw [List.getElem?_append_left (by rw [← c.len]; exact hk)] at hc
      refine (c.at_ k a cl' ha hc).ext c (Ext.newCell c h).toExtW ?_
      have n : a ≠ p := fun z => np (z ▸ List.mem_append_left _ (List.mem_of_getElem? ha))
      rw [upd_ne n]
    · have hk2 : k < (α.cs ++ [p]).length := (List.getElem?_eq_some_iff.mp ha).1
      have e : k = α.cs.length := by simp at hk2; omega
      subst e
      have e1 : a = p := by simpa using ha.symm
      have e2 : cl' = cl := by
        have z : (C ++ [cl])[C.length]? = Option.some cl := by simp
        rw [c.len] at hc
        rw [hc] at z
        exact Option.some.inj z
      subst e1 e2
      exact r
  · obtain ⟨xs, e⟩ := c.hid a ha
    exact ⟨xs, by rw [upd_ne (ne_of_none e h)]; exact e⟩
/-- a cell is written -/
theorem Ext.write (c : CR K α H C) {k : Nat} {p : Addr} {o : HO} (hp : α.cs[k]? = some p) : Ext α H α (upd H p o) :=
  ⟨⟨⟨[], (List.append_nil _).symm, fun _ h => nomatch h⟩, noMore, fun b u e n => by
    have q : b ≠ p := fun z => n (z ▸ List.mem_append_left _ (List.mem_of_getElem? hp))
    rw [upd_ne q]; exact e⟩, rfl, fun b hb => upd_ne fun z => (List.nodup_append.mp c.nd).2.2 p (List.mem_of_getElem? hp) b hb z.symm⟩
theorem CR.write (c : CR K α H C) {k : Nat} {p : Addr} {o : HO} {cl : Cell} (hp : α.cs[k]? = some p) (r : CellR K α (upd H p o) p cl) : CR K α (upd H p o) (C.set k cl) := by
  refine ⟨by simp [c.len], c.nd, fun j a cl' ha hc => ?_, fun a ha => ?_⟩
  · by_cases hj : j = k
    · subst hj
      rw [hp] at ha; cases ha
      have hl : j < C.length := by rw [← c.len]; exact (List.getElem?_eq_some_iff.mp hp).1
      rw [List.getElem?_set_self hl] at hc; cases hc
      exact r
    · rw [List.getElem?_set_ne (Ne.symm hj)] at hc
      refine (c.at_ j a cl' ha hc).ext c (Ext.write c hp).toExtW ?_
      have n : a ≠ p := fun z => by
        subst z
        obtain ⟨h1, e1⟩ := List.getElem?_eq_some_iff.mp ha
        obtain ⟨h2, e2⟩ := List.getElem?_eq_some_iff.mp hp
        exact hj ((List.getElem_inj (List.nodup_append.mp c.nd).1).mp (e1.trans e2.symm))
      rw [upd_ne n]
  · have n : a ≠ p := fun z => (List.nodup_append.mp c.nd).2.2 p (List.mem_of_getElem? hp) a ha z.symm
    rw [upd_ne n]
    exact c.hid a ha

/-! ### hiding -/
mutual
theorem VR.sub {αs : Al} (hc : αs.cs = α.cs) (hh : ∀ a, a ∈ αs.hs → a ∈ α.hs) : ∀ {v : V} {d : D}, VR K α H v d → VR K αs H v d
  | _, _, .non => .non
  | _, _, .bl b => .bl b
  | _, _, .int i => .int i
  | _, _, .str x => .str x
  | _, _, .tup h z r => .tup h z (VRs.sub hc hh r)
  | _, _, .ktp h z r => .ktp h z (VRs.sub hc hh r)
  | _, _, .lst h n z r => .lst h (fun m => n ((List.mem_append.mp m).elim (fun q => List.mem_append_left _ (by rw [← hc]; exact q)) fun q => List.mem_append_right _ (hh _ q))) z (VRs.sub hc hh r)
  | _, _, .dctK h n z r => .dctK h (fun m => n ((List.mem_append.mp m).elim (fun q => List.mem_append_left _ (by rw [← hc]; exact q)) fun q => List.mem_append_right _ (hh _ q))) z (VRs.sub hc hh r)
  | _, _, .dctT h n z r => .dctT h (fun m => n ((List.mem_append.mp m).elim (fun q => List.mem_append_left _ (by rw [← hc]; exact q)) fun q => List.mem_append_right _ (hh _ q))) z (VRs.sub hc hh r)
  | _, _, .hnd h => .hnd (by rw [hc]; exact h)
  | _, _, .ref a => .ref a
  | _, _, .ty n => .ty n
  | _, _, .scr h z r => .scr h z (VRs.sub hc hh r)
theorem VRs.sub {αs : Al} (hc : αs.cs = α.cs) (hh : ∀ a, a ∈ αs.hs → a ∈ α.hs) : ∀ {vs : List V} {ds : List D}, VRs K α H vs ds → VRs K αs H vs ds
  | _, _, .nil => .nil
  | _, _, .cons h t => .cons (VR.sub hc hh h) (VRs.sub hc hh t)
end
theorem CellR.sub {αs : Al} (hc : αs.cs = α.cs) (hh : ∀ a, a ∈ αs.hs → a ∈ α.hs) {a : Addr} {cl : Cell} (r : CellR K α H a cl) : CellR K αs H a cl := by
  cases cl with
  | lst ds =>
    obtain ⟨xs, h1, z, r⟩ := r
    exact ⟨xs, h1, z, r.sub hc hh⟩
  | dct ks vs =>
    rcases r with ⟨kvs, h1, z, r⟩ | ⟨kvs, h1, z, r⟩
    · exact .inl ⟨kvs, h1, z, r.sub hc hh⟩
    · exact .inr ⟨kvs, h1, z, r.sub hc hh⟩
/-- what is hidden is told again -/
theorem CR.shown {p : Addr} (c : CR K (α.hide p) H C) : CR K α H C := by
  refine ⟨c.len, ?_, fun k a cl ha hc => CellR.sub (α := α.hide p) (αs := α) rfl (fun _ h => List.mem_cons_of_mem p h) (c.at_ k a cl ha hc), fun a ha => c.hid a (List.mem_cons_of_mem _ ha)⟩
  have nd := List.nodup_append.mp c.nd
  exact List.nodup_append.mpr ⟨nd.1, (List.nodup_cons.mp nd.2.1).2, fun a ha b hb => nd.2.2 a ha b (List.mem_cons_of_mem _ hb)⟩
theorem CR.shown_not {p : Addr} (c : CR K (α.hide p) H C) : p ∉ α.all := by
  have nd := List.nodup_append.mp c.nd
  intro hm
  rcases List.mem_append.mp hm with q | q
  · exact nd.2.2 p q p List.mem_cons_self rfl
  · exact (List.nodup_cons.mp nd.2.1).1 q
mutual
theorem VR.hidden {p : Addr} (h0 : H p = none) {o : HO} : ∀ {v : V} {d : D}, VR K α H v d → VR K (α.hide p) (upd H p o) v d
  | _, _, .non => .non
  | _, _, .bl b => .bl b
  | _, _, .int i => .int i
  | _, _, .str x => .str x
  | _, _, .tup h z r => .tup (by rw [upd_ne (ne_of_none h h0)]; exact h) z (VRs.hidden h0 r)
  | _, _, .ktp h z r => .ktp (by
      rcases h with (h | ⟨o', h⟩) | h
      · exact .inl (.inl (by rw [upd_ne (ne_of_none h h0)]; exact h))
      · exact .inl (.inr ⟨o', by rw [upd_ne (ne_of_none h h0)]; exact h⟩)
      · exact .inr h) z (VRs.hidden h0 r)
  | _, _, .lst h n z r => .lst (by rw [upd_ne (ne_of_none h h0)]; exact h) (fun m => (List.mem_append.mp m).elim (fun q => n (List.mem_append_left _ q)) fun q => (List.mem_cons.mp q).elim (fun e => ne_of_none h h0 e) fun q => n (List.mem_append_right _ q)) z (VRs.hidden h0 r)
  | _, _, .dctK h n z r => .dctK (by rw [upd_ne (ne_of_none h h0)]; exact h) (fun m => (List.mem_append.mp m).elim (fun q => n (List.mem_append_left _ q)) fun q => (List.mem_cons.mp q).elim (fun e => ne_of_none h h0 e) fun q => n (List.mem_append_right _ q)) z (VRs.hidden h0 r)
  | _, _, .dctT h n z r => .dctT (by rw [upd_ne (ne_of_none h h0)]; exact h) (fun m => (List.mem_append.mp m).elim (fun q => n (List.mem_append_left _ q)) fun q => (List.mem_cons.mp q).elim (fun e => ne_of_none h h0 e) fun q => n (List.mem_append_right _ q)) z (VRs.hidden h0 r)
  | _, _, .hnd h => .hnd h
  | _, _, .ref a => .ref a
  | _, _, .ty n => .ty n
  | _, _, .scr h z r => .scr (by
      rcases h with ⟨o', h⟩ | h
      · exact .inl ⟨o', by rw [upd_ne (ne_of_none h h0)]; exact h⟩
      · exact .inr h) z (VRs.hidden h0 r)
theorem VRs.hidden {p : Addr} (h0 : H p = none) {o : HO} : ∀ {vs : List V} {ds : List D}, VRs K α H vs ds → VRs K (α.hide p) (upd H p o) vs ds
  | _, _, .nil => .nil
  | _, _, .cons h t => .cons (VR.hidden h0 h) (VRs.hidden h0 t)
end
theorem CellR.hidden {p : Addr} (h0 : H p = none) {o : HO} {a : Addr} {cl : Cell} (r : CellR K α H a cl) : CellR K (α.hide p) (upd H p o) a cl := by
  cases cl with
  | lst ds =>
    obtain ⟨xs, h1, z, r⟩ := r
    exact ⟨xs, by rw [upd_ne (ne_of_none h1 h0)]; exact h1, z, r.hidden h0⟩
  | dct ks vs =>
    rcases r with ⟨kvs, h1, z, r⟩ | ⟨kvs, h1, z, r⟩
    · exact .inl ⟨kvs, by rw [upd_ne (ne_of_none h1 h0)]; exact h1, z, r.hidden h0⟩
    · exact .inr ⟨kvs, by rw [upd_ne (ne_of_none h1 h0)]; exact h1, z, r.hidden h0⟩
theorem CR.hidden {p : Addr} (c : CR K α H C) (h0 : H p = none) {xs : List V} : CR K (α.hide p) (upd H p (.lst xs)) C := by
  have np := c.notin_of_none h0
  have nd := List.nodup_append.mp c.nd
  refine ⟨c.len, List.nodup_append.mpr ⟨nd.1, List.nodup_cons.mpr ⟨fun z => np (List.mem_append_right _ z), nd.2.1⟩, fun a ha b hb => ?_⟩, fun k a cl ha hc => (c.at_ k a cl ha hc).hidden h0, fun a ha => ?_⟩
  · rcases List.mem_cons.mp hb with z | z
    · rw [z]; exact fun z => np (z ▸ List.mem_append_left _ ha)
    · exact nd.2.2 a ha b z
  · rcases List.mem_cons.mp ha with z | z
    · exact ⟨xs, by rw [z]; exact upd_same⟩
    · obtain ⟨ys, e⟩ := c.hid a z
      exact ⟨ys, by rw [upd_ne (ne_of_none e h0)]; exact e⟩
/-- the hidden list grows -/
theorem ExtW.grow {p : Addr} {o : HO} (hp : p ∈ α.hs) : ExtW α H α (upd H p o) :=
  ⟨⟨[], (List.append_nil _).symm, fun _ h => nomatch h⟩, noMore, fun b u e n => by
    have q : b ≠ p := fun z => n (z ▸ List.mem_append_right _ hp)
    rw [upd_ne q]; exact e⟩
theorem CR.grow {p : Addr} {xs : List V} (c : CR K α H C) (hp : p ∈ α.hs) : CR K α (upd H p (.lst xs)) C := by
  have nd := List.nodup_append.mp c.nd
  refine ⟨c.len, c.nd, fun k a cl ha hc => (c.at_ k a cl ha hc).ext c (ExtW.grow hp) ?_, fun a ha => ?_⟩
  · have q : a ≠ p := nd.2.2 a (List.mem_of_getElem? ha) p hp
    rw [upd_ne q]
  · by_cases q : a = p
    · exact ⟨xs, by rw [q]; exact upd_same⟩
    · rw [upd_ne q]
      exact c.hid a ha
/-- what was not there may change -/
theorem ExtW.mut (e : ExtW α H α' H') {p : Addr} {o : HO} (h : H p = none) : ExtW α H α' (upd H' p o) :=
  ⟨e.pre, e.more, fun b u q n => by rw [upd_ne (ne_of_none q h)]; exact e.keep b u q n⟩
theorem ExtW.hide {p : Addr} {o : HO} (h : H p = none) : ExtW α H (α.hide p) (upd H p o) :=
  ⟨⟨[], (List.append_nil _).symm, fun _ h => nomatch h⟩, ⟨[p], rfl, fun a ha => by rw [List.mem_singleton.mp ha]; exact h⟩, fun b u e _ => by rw [upd_ne (ne_of_none e h)]; exact e⟩
end

/-! ### outcomes -/
inductive Out (α : Type) where
  | ok (a : α)
  | err (e : Er) (C : Cells)
  | bad
abbrev Mo (α : Type) := Cells → Out (α × Cells)
def ret {α : Type} (a : α) : Mo α := fun C => .ok (a, C)
def bad {α : Type} : Mo α := fun _ => .bad
def bnd {α β : Type} (m : Mo α) (k : α → Mo β) : Mo β := fun C => match m C with
  | .ok (a, C') => k a C'
  | .err e C' => .err e C'
  | .bad => .bad

def ErrR (K : PySem.W.Frag) (mg : Str → Option Value) (α : Al) (H : Hp) (er : Er) (cls : Value) (d : Option Addr) : Prop :=
  (mg er.c = some cls ∨ (mg er.c = none ∧ bootBuiltins er.c = some cls)) ∧
    ((er.fs = [] ∧ d = none) ∨ ∃ dd fs, d = some dd ∧ H dd = some (.xd fs) ∧ fs.map (·.1) = er.fs.map (·.1) ∧ VRs K α H (fs.map (·.2)) (er.fs.map (·.2)))

/-- what is wanted of an outcome -/
def WpO {β : Type} (K : PySem.W.Frag) (mg : Str → Option Value) (α : Al) (H : Hp) (Q : Al → Hp → Cells → β → Prop) (E : XK) : Out (β × Cells) → Prop
  | .ok (x, C') => ∀ α' H', Ext α H α' H' → CR K α' H' C' → Q α' H' C' x
  | .err er C' => ∀ cls d α' H', Ext α H α' H' → CR K α' H' C' → ErrR K mg α' H' er cls d → E cls d H'
  | .bad => False

section
variable {K : PySem.W.Frag} {mg : Str → Option Value} {α α' : Al} {H H' : Hp} {C C' : Cells} {β γ : Type} {Q : Al → Hp → Cells → β → Prop} {E : XK}
theorem WpO.start {o : Out (β × Cells)} (c : CR K α H C) (c' : CR K α' H' C') (e : Ext α H α' H') (h : WpO K mg α H Q E o) : WpO K mg α' H' Q E o := by
  match o, h with
  | .ok (x, _), h => exact fun α2 H2 e2 c2 => h α2 H2 (e.trans' c c' e2) c2
  | .err er _, h => exact fun cls d α2 H2 e2 c2 r => h cls d α2 H2 (e.trans' c c' e2) c2 r
/-- a bind: the first, then the second where it stands -/
theorem WpO.bnd {m : Mo γ} {k : γ → Mo β} (c : CR K α H C) (h : WpO K mg α H Q E (bnd m k C)) : WpO K mg α H (fun α' H' C' x => WpO K mg α' H' Q E (k x C')) E (m C) := by
  unfold DL.bnd at h
  cases hm : m C with
  | ok p =>
    obtain ⟨x, C1⟩ := p
    rw [hm] at h
    exact fun α1 H1 e1 c1 => WpO.start c c1 e1 h
  | err er C1 =>
    rw [hm] at h
    exact h
  | bad =>
    rw [hm] at h
    exact h
theorem WpO.ret {x : β} (c : CR K α H C) (h : WpO K mg α H Q E (ret x C)) : Q α H C x := h α H (Ext.refl α H) c
theorem WpO.mono {Q' : Al → Hp → Cells → β → Prop} {o : Out (β × Cells)} (h : WpO K mg α H Q E o) (hq : ∀ α' H' C' x, Ext α H α' H' → CR K α' H' C' → Q α' H' C' x → Q' α' H' C' x) : WpO K mg α H Q' E o := by
  match o, h with
  | .ok (x, _), h => exact fun α2 H2 e2 c2 => hq _ _ _ _ e2 c2 (h α2 H2 e2 c2)
  | .err er _, h => exact h
end
end DL

/-! DL2: expressions as functions of the slots' data (EX), the judgements DE, DA, DT; operators and calls by data. -/
namespace DL
open PySem L2

abbrev Ro := List (Option D)
abbrev EX := Ro → Mo D
abbrev AX := Ro → Mo (List D)
abbrev BX := Ro → Mo Bool
structure SR (K : PySem.W.Frag) (α : Al) (σ : St) (H : Hp) (ρ : Ro) : Prop where
  len : σ.length = ρ.length
  at_ : ∀ (i : Nat) (x : D), ρ[i]? = some (some x) → ∃ v, σ[i]? = some (some v) ∧ VR K α H v x
theorem SR.ext {K : PySem.W.Frag} {α α' : Al} {σ : St} {H H' : Hp} {ρ : Ro} {C : Cells} (r : SR K α σ H ρ) (c : CR K α H C) (e : Ext α H α' H') : SR K α' σ H' ρ :=
  ⟨r.len, fun i x h => let ⟨v, h1, h2⟩ := r.at_ i x h; ⟨v, h1, h2.ext c e⟩⟩
theorem SR.set {K : PySem.W.Frag} {α : Al} {σ : St} {H : Hp} {ρ : Ro} (r : SR K α σ H ρ) {i : Nat} {v : V} {x : D} (h : VR K α H v x) : SR K α (σ.set i (some v)) H (ρ.set i (some x)) := by
  refine ⟨by simp [r.len], fun j y e => ?_⟩
  by_cases hj : j = i
  · subst hj
    by_cases hl : j < ρ.length
    · rw [List.getElem?_set_self hl] at e
      cases e
      exact ⟨v, by rw [List.getElem?_set_self (by rw [r.len]; exact hl)], h⟩
    · rw [List.getElem?_eq_none (by simpa using hl)] at e
      cases e
  · rw [List.getElem?_set_ne (Ne.symm hj)] at e
    obtain ⟨w, h1, h2⟩ := r.at_ j y e
    exact ⟨w, by rw [List.getElem?_set_ne (Ne.symm hj)]; exact h1, h2⟩
theorem SR.unset {K : PySem.W.Frag} {α : Al} {σ : St} {H : Hp} {ρ : Ro} (r : SR K α σ H ρ) (i : Nat) (o : Option V) : SR K α (σ.set i o) H (ρ.set i none) := by
  refine ⟨by simp [r.len], fun j y e => ?_⟩
  by_cases hj : j = i
  · subst hj
    by_cases hl : j < ρ.length
    · rw [List.getElem?_set_self hl] at e
      cases e
    · rw [List.getElem?_eq_none (by simpa using hl)] at e
      cases e
  · rw [List.getElem?_set_ne (Ne.symm hj)] at e
    obtain ⟨w, h1, h2⟩ := r.at_ j y e
    exact ⟨w, by rw [List.getElem?_set_ne (Ne.symm hj)]; exact h1, h2⟩

/-! ### readings by data -/
def tD (X : Cx) (W : WX) (f : EX) : TE := fun σ H Q => ∃ α C ρ, CR X.K α H C ∧ SR X.K α σ H ρ ∧
  WpO X.K X.mg α H (fun α' H' _ x => ∀ v, VR X.K α' H' v x → Q v H') (fun c d H' => W c d σ H') (f ρ C)
def tDA (X : Cx) (W : WX) (f : AX) : TA := fun σ H Q => ∃ α C ρ, CR X.K α H C ∧ SR X.K α σ H ρ ∧
  WpO X.K X.mg α H (fun α' H' _ x => ∀ v, VRs X.K α' H' v x → Q v H') (fun c d H' => W c d σ H') (f ρ C)
def tDT (X : Cx) (W : WX) (f : BX) : TT := fun σ H Q => ∃ α C ρ, CR X.K α H C ∧ SR X.K α σ H ρ ∧
  WpO X.K X.mg α H (fun α' H' _ x => Q x H') (fun c d H' => W c d σ H') (f ρ C)
abbrev DE (X : Cx) (W : WX) (e : Expr) (f : EX) : Prop := PE X e (tD X W f)
abbrev DA (X : Cx) (W : WX) (e : List Expr) (f : AX) : Prop := PA X e (tDA X W f)
abbrev DT (X : Cx) (W : WX) (e : Expr) (f : BX) : Prop := PT X e (tDT X W f)
abbrev DW (X : Cx) (W : WX) (e : Expr) (f : BX) : Prop := PW X e (tDT X W f)

section
variable {X : Cx}
theorem peImp {e : Expr} {t t' : TE} (h : PE X e t) (i : ∀ σ H Q, t' σ H Q → t σ H Q) : PE X e t' := ⟨fun pins s σ H Q I q => h.run pins s σ H Q I (i σ H Q q)⟩
theorem paImp {e : List Expr} {t t' : TA} (h : PA X e t) (i : ∀ σ H Q, t' σ H Q → t σ H Q) : PA X e t' := ⟨fun pos pins s σ H Q I q => h.run pos pins s σ H Q I (i σ H Q q)⟩
theorem ptImp {e : Expr} {t t' : TT} (h : PT X e t) (i : ∀ σ H Q, t' σ H Q → t σ H Q) : PT X e t' := ⟨fun pins s σ H Q I q => h.run pins s σ H Q I (i σ H Q q)⟩
theorem pwImp {e : Expr} {t t' : TT} (h : PW X e t) (i : ∀ σ H Q, t' σ H Q → t σ H Q) : PW X e t' := ⟨fun wh pins s σ H Q I q => h.run wh pins s σ H Q I (i σ H Q q)⟩
theorem opImp {f : Value → Value → Sem Value} {r r' : R2} (h : OpR X f r) (i : ∀ x y H Q, r' x y H Q → r x y H Q) : OpR X f r' := fun pins s σ H x y v u Q I rx ry q => h pins s σ H x y v u Q I rx ry (i _ _ _ _ q)
theorem ixImp {r r' : R2} (h : IxR X r) (i : ∀ x y H Q, r' x y H Q → r x y H Q) : IxR X r' := fun ve sl pins s σ H x y v u Q I rx ry q => h ve sl pins s σ H x y v u Q I rx ry (i _ _ _ _ q)
theorem callImp {f : Value} {r r' : List V → Hp → VK → Prop} (h : CallR X f r) (i : ∀ xs H Q, r' xs H Q → r xs H Q) : CallR X f r' := fun pins s σ H xs us Q I r q => h pins s σ H xs us Q I r (i _ _ _ q)
theorem unImp {f : Value → Sem Value} {r r' : V → Hp → VK → Prop} (h : UnR X f r) (i : ∀ x H Q, r' x H Q → r x H Q) : UnR X f r' := fun pins s σ H x v Q I rx q => h pins s σ H x v Q I rx (i _ _ _ q)

/-! ### pure operations -/
def lft {α : Type} (o : Cells → Option α) : Mo α := fun C => match o C with
  | some z => .ok (z, C)
  | none => .bad
abbrev Op1 := Cells → D → Option D
abbrev Op2 := Cells → D → D → Option D
abbrev OpN := Cells → List D → Option D
/-- what is asked where the data answer is z: whatever stands for z will do -/
def Ans (K : PySem.W.Frag) (α : Al) (H : Hp) (C : Cells) (Q : VK) (z : D) : Prop := ∀ α' H', Ext α H α' H' → CR K α' H' C → ∀ v, VR K α' H' v z → Q v H'
theorem Ans.here {K : PySem.W.Frag} {α : Al} {H : Hp} {C : Cells} {Q : VK} {z : D} (h : Ans K α H C Q z) (c : CR K α H C) {v : V} (r : VR K α H v z) : Q v H := h α H (Ext.refl α H) c v r
/-- a new object -/
theorem Ans.new {K : PySem.W.Frag} {α : Al} {H : Hp} {C : Cells} {Q : VK} {z : D} (h : Ans K α H C Q z) (c : CR K α H C) {p : Addr} {o : HO} (hp : H p = none) (r : VR K α (upd H p o) (.ref p) z) : Q (.ref p) (upd H p o) :=
  h α (upd H p o) (Ext.new c hp) (c.new hp) (.ref p) r
def rD1 (K : PySem.W.Frag) (op : Op1) : V → Hp → VK → Prop := fun x H Q => ∃ α C dx dz, CR K α H C ∧ VR K α H x dx ∧ op C dx = some dz ∧ Ans K α H C Q dz
def rD2 (K : PySem.W.Frag) (op : Op2) : R2 := fun x y H Q => ∃ α C dx dy dz, CR K α H C ∧ VR K α H x dx ∧ VR K α H y dy ∧ op C dx dy = some dz ∧ Ans K α H C Q dz
def rDN (K : PySem.W.Frag) (op : OpN) : List V → Hp → VK → Prop := fun xs H Q => ∃ α C ds dz, CR K α H C ∧ VRs K α H xs ds ∧ op C ds = some dz ∧ Ans K α H C Q dz
def x1 (op : Op1) (f : EX) : EX := fun ρ => bnd (f ρ) fun x => lft fun C => op C x
def x2 (op : Op2) (f g : EX) : EX := fun ρ => bnd (f ρ) fun x => bnd (g ρ) fun y => lft fun C => op C x y
def xN (op : OpN) (f : AX) : EX := fun ρ => bnd (f ρ) fun xs => lft fun C => op C xs
variable {W : WX} {a b c e : Expr} {es : List Expr} {f g k : EX} {fa : AX} {pos : Pos} {σ : St} {H : Hp} {Q : VK}
theorem WpO.lft {K : PySem.W.Frag} {mg : Str → Option Value} {α : Al} {H : Hp} {C : Cells} {β : Type} {Q : Al → Hp → Cells → β → Prop} {E : XK} {o : Cells → Option β} (h : WpO K mg α H Q E (lft o C)) :
    ∃ z, o C = some z ∧ ∀ α' H', Ext α H α' H' → CR K α' H' C → Q α' H' C z := by
  unfold DL.lft at h
  cases e : o C with
  | none => rw [e] at h; exact h.elim
  | some z => rw [e] at h; exact ⟨z, rfl, h⟩
theorem tD_x1 {op : Op1} (h : tD X W (x1 op f) σ H Q) : tD X W f σ H fun x H1 => rD1 X.K op x H1 Q := by
  obtain ⟨α, C, ρ, c, r, h⟩ := h
  refine ⟨α, C, ρ, c, r, (WpO.bnd c h).mono fun α1 H1 C1 x e1 c1 h1 v rv => ?_⟩
  obtain ⟨z, hz, q⟩ := h1.lft
  exact ⟨α1, C1, x, z, c1, rv, hz, q⟩
theorem tD_x2 {op : Op2} (h : tD X W (x2 op f g) σ H Q) : tD X W f σ H fun x H1 => tD X W g σ H1 fun y H2 => rD2 X.K op x y H2 Q := by
  obtain ⟨α, C, ρ, c, r, h⟩ := h
  refine ⟨α, C, ρ, c, r, (WpO.bnd c h).mono fun α1 H1 C1 x e1 c1 h1 v rv => ?_⟩
  refine ⟨α1, C1, ρ, c1, r.ext c e1, (WpO.bnd c1 h1).mono fun α2 H2 C2 y e2 c2 h2 w rw => ?_⟩
  obtain ⟨z, hz, q⟩ := h2.lft
  exact ⟨α2, C2, x, y, z, c2, rv.ext c1 e2, rw, hz, q⟩
theorem tD_xN {op : OpN} (h : tD X W (xN op fa) σ H Q) : tDA X W fa σ H fun xs H1 => rDN X.K op xs H1 Q := by
  obtain ⟨α, C, ρ, c, r, h⟩ := h
  refine ⟨α, C, ρ, c, r, (WpO.bnd c h).mono fun α1 H1 C1 x e1 c1 h1 v rv => ?_⟩
  obtain ⟨z, hz, q⟩ := h1.lft
  exact ⟨α1, C1, x, z, c1, rv, hz, q⟩
theorem de_bin {op : Operator} {o : Op2} (ho : OpR X (binaryOp op) (rD2 X.K o)) (ha : DE X W a f) (hb : DE X W b g) : DE X W (.BinOp a op b pos) (x2 o f g) := peImp (pe_op ho ha hb) fun σ H Q h => tD_x2 h
theorem de_un {op : UnaryOp} {o : Op1} (ho : UnR X (unaryOp op) (rD1 X.K o)) (ha : DE X W a f) : DE X W (.UnaryOp op a pos) (x1 o f) := peImp (pe_un ho ha) fun σ H Q h => tD_x1 h
theorem de_cmp {op : CmpOp} {o : Op2} (ho : OpR X (compareOp op) (rD2 X.K o)) (ha : DE X W a f) (hb : DE X W b g) (hm : behindInMarks op b = false := by first | exact nomark _ | rfl) : DE X W (.Compare a [op] [b] pos) (x2 o f g) :=
  peImp (pe_cmpR ho ha hb hm) fun σ H Q h => tD_x2 h
theorem de_ix {o : Op2} (ho : IxR X (rD2 X.K o)) (ha : DE X W a f) (hb : DE X W b g) (hs : PlainIx b := by exact fun _ _ => rfl) : DE X W (.Subscript a b pos) (x2 o f g) := peImp (pe_ix ho ha hb hs) fun σ H Q h => tD_x2 h
/-- a built-in called by its name -/
theorem de_blt {x : Str} {id : String} {o : OpN} {p : Pos} (hc : CallR X (.builtin id) (rDN X.K o)) (hg : Gl X x) (hm : X.mg x = none) (hv : bootBuiltins x = some (.builtin id)) (ha : DA X W (e :: es) fa)
    (hn : x ≠ ("__name__" : Str) := by decide) (hdb : (x == ("__debug__" : Str)) = false := by decide) (he : starEach (e :: es) X.env = (false, eval e X.env) :: starEach es X.env := by rfl) (hpl : (backTo pos (starEach es X.env)).any (·.1) = false := by rfl) : DE X W (.Call (.Name x p) (e :: es) [] pos) (xN o fa) :=
  peImp (pe_callB hc hg hm hv ha hn hdb he hpl) fun σ H Q h => tD_xN h
theorem de_bty {x : Str} {T : String} {o : OpN} {p : Pos} (hc : CallR X (.type T) (rDN X.K o)) (hg : Gl X x) (hm : X.mg x = none) (hv : bootBuiltins x = some (.type T)) (ha : DA X W (e :: es) fa)
    (hn : x ≠ ("__name__" : Str) := by decide) (hdb : (x == ("__debug__" : Str)) = false := by decide) (he : starEach (e :: es) X.env = (false, eval e X.env) :: starEach es X.env := by rfl) (hpl : (backTo pos (starEach es X.env)).any (·.1) = false := by rfl) : DE X W (.Call (.Name x p) (e :: es) [] pos) (xN o fa) :=
  peImp (pe_callTy hc hg hm hv ha hn hdb he hpl) fun σ H Q h => tD_xN h

/-! ### names, constants, arguments -/
def xV (i : Nat) : EX := fun ρ => lft fun _ => ρ.getD i none
def xC (d : D) : EX := fun _ => ret d
theorem tD_C {d : D} (h : tD X W (xC d) σ H Q) {v : V} (r : ∀ α H, VR X.K α H v d) : Q v H := by
  obtain ⟨α, C, ρ, c, _, h⟩ := h
  exact WpO.ret c h v (r α H)
theorem de_var {i : Nat} {x : Str} (hN : X.N[i]? = some x := by rfl) (hv : Vis X.env.scope x := by first | exact Or.inl rfl | exact Or.inr (Or.inl rfl) | exact Or.inr (Or.inr rfl)) (hd : (x == ("__debug__" : Str)) = false := by decide)
    (hcd : (x == ("__classdict__" : Str)) = false := by decide) : DE X W (.Name x pos) (xV i) := peImp (pe_var hN hv hd hcd) fun σ H Q h => by
  obtain ⟨α, C, ρ, c, r, h⟩ := h
  obtain ⟨z, hz, q⟩ := WpO.lft h
  have e : ρ[i]? = some (some z) := by
    rw [List.getD_eq_getElem?_getD] at hz
    cases h1 : ρ[i]? with
    | none => rw [h1] at hz; cases hz
    | some y => rw [h1] at hz; rw [show y = some z from hz]
  obtain ⟨v, h1, h2⟩ := r.at_ i z e
  exact ⟨v, h1, q α H (Ext.refl α H) c v h2⟩
theorem de_int {i : Int} {j : Nat} : DE X W (.Constant (.int i) j pos) (xC (.int i)) := peImp pe_int fun σ H Q h => tD_C h fun _ _ => .int i
theorem de_bl {i : Bool} {j : Nat} : DE X W (.Constant (.bool i) j pos) (xC (.bl i)) := peImp pe_bl fun σ H Q h => tD_C h fun _ _ => .bl i
theorem de_non {j : Nat} : DE X W (.Constant .none j pos) (xC .non) := peImp pe_non fun σ H Q h => tD_C h fun _ _ => .non
theorem de_str {i : Str} {j : Nat} : DE X W (.Constant (.str i) j pos) (xC (.str i)) := peImp pe_str fun σ H Q h => tD_C h fun _ _ => .str i
/-- a module's constant: an int, a text, None, a truth; a written tuple stands in K -/
def VRK (K : PySem.W.Frag) (v : V) (d : D) : Prop := ∀ α H, VR K α H v d
theorem de_glob {x : Str} {d : D} {v : V} {u : Value} (hm : X.mg x = some u) (r : RelV v u) (k : VRK X.K v d) (hg : Gl X x := by rfl) (hd : (x == ("__debug__" : Str)) = false := by decide) : DE X W (.Name x pos) (xC d) :=
  peImp (pe_glob hg hm r hd) fun σ H Q h => tD_C h k
theorem de_globI {x : Str} {i : Int} {t : Tok} (hm : X.mg x = some (.int i t)) (hg : Gl X x := by rfl) (hd : (x == ("__debug__" : Str)) = false := by decide) : DE X W (.Name x pos) (xC (.int i)) :=
  peImp (pe_glob (v := .int i) hg hm ⟨t, rfl⟩ hd) fun σ H Q h => tD_C h fun _ _ => .int i
/-- a built-in class by its name as a value (isinstance's second place) -/
theorem de_ty {x : Str} {T : String} (hg : Gl X x) (hm : X.mg x = none) (hv : bootBuiltins x = some (.type T)) (hn : x ≠ ("__name__" : Str) := by decide) (hd : (x == ("__debug__" : Str)) = false := by decide) : DE X W (.Name x pos) (xC (.ty T)) :=
  peImp (pe_bltn (v := .ty T) hg hm hv rfl hn hd) fun σ H Q h => tD_C h fun _ _ => .ty T
def aNil : AX := fun _ => ret []
def aCons (f : EX) (g : AX) : AX := fun ρ => bnd (f ρ) fun x => bnd (g ρ) fun xs => ret (x :: xs)
theorem da_nil : DA X W [] aNil := paImp pa_nil fun σ H Q h => by
  obtain ⟨α, C, ρ, c, r, h⟩ := h
  exact WpO.ret c h [] .nil
theorem da_cons (ha : DE X W e f) (hr : DA X W es fa) (hs : starEach (e :: es) X.env = (false, eval e X.env) :: starEach es X.env := by rfl) : DA X W (e :: es) (aCons f fa) := paImp (pa_cons ha hr hs) fun σ H Q h => by
  obtain ⟨α, C, ρ, c, r, h⟩ := h
  refine ⟨α, C, ρ, c, r, (WpO.bnd c h).mono fun α1 H1 C1 x e1 c1 h1 v rv => ?_⟩
  refine ⟨α1, C1, ρ, c1, r.ext c e1, (WpO.bnd c1 h1).mono fun α2 H2 C2 xs e2 c2 h2 vs rvs => ?_⟩
  exact WpO.ret c2 h2 (v :: vs) (.cons (rv.ext c1 e2) rvs)

/-! ### tests -/
def truth (C : Cells) : D → Option Bool
  | .non => some false
  | .bl b => some b
  | .int i => some (i != 0)
  | .str x => if x.length ≤ sizeLine then some ((x.length : Int) != 0) else none
  | .tup ds => some (!ds.isEmpty)
  | .lst ds => some (!ds.isEmpty)
  | .hnd k => match C[k]? with
    | some (.lst ds) => some (!ds.isEmpty)
    | _ => none
  | _ => none
def bV (f : EX) : BX := fun ρ => bnd (f ρ) fun x => lft fun C => truth C x
theorem empty_eq {K : PySem.W.Frag} {α : Al} {H : Hp} {xs : List V} {ds : List D} (r : VRs K α H xs ds) : xs.isEmpty = ds.isEmpty := by cases r <;> rfl
theorem truth_ok {α : Al} {H : Hp} {C : Cells} {v : V} {x : D} {b : Bool} {K : PySem.W.Frag} (c : CR K α H C) (r : VR K α H v x) (h : truth C x = some b) : TruV K v H b := by
  cases r with
  | non => exact (Option.some.inj h).symm
  | bl y => exact (Option.some.inj h).symm
  | int i => exact (Option.some.inj h).symm
  | str y =>
    have h : (if y.length ≤ sizeLine then some ((y.length : Int) != 0) else none) = some b := h
    by_cases hl : y.length ≤ sizeLine
    · rw [if_pos hl] at h
      exact ⟨hl, (Option.some.inj h).symm⟩
    · rw [if_neg hl] at h; cases h
  | tup h1 z r =>
    refine .inr (.inl ⟨_, SqT.of h1, ?_⟩)
    rw [← Option.some.inj h, empty_eq r]
  | ktp _ _ _ => cases h
  | lst h1 n z r =>
    refine .inl ⟨_, SqL.of h1, ?_⟩
    rw [← Option.some.inj h, empty_eq r]
  | scr _ _ _ => cases h
  | dctK _ _ _ _ => cases h
  | dctT _ _ _ _ => cases h
  | @hnd k p hk =>
    unfold truth at h
    cases hc : C[k]? with
    | none => simp only [hc] at h; cases h
    | some cl =>
      cases cl with
      | dct _ _ => simp only [hc] at h; cases h
      | lst ds =>
        obtain ⟨xs, e1, z, r⟩ := c.at_ k _ _ hk hc
        simp only [hc] at h
        refine .inl ⟨xs, SqL.of e1, ?_⟩
        rw [← Option.some.inj h, empty_eq r]
  | ref _ => cases h
  | ty _ => cases h
theorem tD_bV {t : Hp → V → Bool → Prop} {Q : Bool → Hp → Prop} (h : tDT X W (bV f) σ H Q) : tD X W f σ H fun x H1 => ∃ k, TruV X.K x H1 k ∧ Q k H1 := by
  obtain ⟨α, C, ρ, c, r, h⟩ := h
  refine ⟨α, C, ρ, c, r, (WpO.bnd c h).mono fun α1 H1 C1 x e1 c1 h1 v rv => ?_⟩
  obtain ⟨z, hz, q⟩ := h1.lft
  exact ⟨z, truth_ok c1 rv hz, q α1 H1 (Ext.refl _ _) c1⟩
theorem dt_truth (ha : DE X W a f) (he : ∀ whole, isTrue a X.env whole = (do let v ← whole; standAt a.pos; holding [v] (truthy v)) := by intro _; rfl) : DT X W a (bV f) :=
  ptImp (pt_truth ha he) fun σ H Q h => tD_bV (t := fun _ _ _ => True) h
def boolOf : D → Option Bool
  | .bl k => some k
  | _ => none
theorem boolOf_some {z : D} {k : Bool} (h : boolOf z = some k) : z = .bl k := by
  cases z <;> first | (cases h; rfl) | cases h
theorem VR.blInv {K : PySem.W.Frag} {α : Al} {H : Hp} {v : V} {k : Bool} (r : VR K α H v (.bl k)) : v = .bl k := by cases r; rfl
def bO (o : Op2) (f g : EX) : BX := fun ρ => bnd (f ρ) fun x => bnd (g ρ) fun y => lft fun C => (o C x y).bind boolOf
theorem tD_bO {o : Op2} {Q : Bool → Hp → Prop} (h : tDT X W (bO o f g) σ H Q) : tD X W f σ H fun x H1 => tD X W g σ H1 fun y H2 => rD2 X.K o x y H2 fun z H3 => ∃ k, z = .bl k ∧ Q k H3 := by
  obtain ⟨α, C, ρ, c, r, h⟩ := h
  refine ⟨α, C, ρ, c, r, (WpO.bnd c h).mono fun α1 H1 C1 x e1 c1 h1 v rv => ?_⟩
  refine ⟨α1, C1, ρ, c1, r.ext c e1, (WpO.bnd c1 h1).mono fun α2 H2 C2 y e2 c2 h2 w rw => ?_⟩
  obtain ⟨k, hk, q⟩ := h2.lft
  obtain ⟨z, hz, hb⟩ := Option.bind_eq_some_iff.mp hk
  have ez := boolOf_some hb
  subst ez
  exact ⟨α2, C2, x, y, _, c2, rv.ext c1 e2, rw, hz, fun α' H' e' c' v' r' => ⟨k, r'.blInv, q α' H' e' c'⟩⟩
theorem dt_cmp {op : CmpOp} {o : Op2} (ho : OpR X (compareOp op) (rD2 X.K o)) (ha : DE X W a f) (hb : DE X W b g) (hm : behindInMarks op b = false := by first | exact nomark _ | rfl) :
    DT X W (.Compare a [op] [b] pos) (bO o f g) := ptImp (pt_cmpR ho ha hb hm) fun σ H Q h => tD_bO h
/-- a op b op' c -/
def xCh (o o' : Op2) (f g k : EX) : BX := fun ρ => bnd (f ρ) fun x => bnd (g ρ) fun y => bnd (lft fun C => (o C x y).bind boolOf) fun t => if t = true then bnd (k ρ) fun z => lft fun C => (o' C y z).bind boolOf else ret false
def xB (b : BX) : EX := fun ρ => bnd (b ρ) fun t => ret (.bl t)
theorem tD_ch {o o' : Op2} {Q : Bool → Hp → Prop} (h : tDT X W (xCh o o' f g k) σ H Q) : tChain (rD2 X.K o) (rD2 X.K o') (tD X W f) (tD X W g) (tD X W k) σ H fun z H3 => ∃ b, z = .bl b ∧ Q b H3 := by
  obtain ⟨α, C, ρ, c, r, h⟩ := h
  refine ⟨α, C, ρ, c, r, (WpO.bnd c h).mono fun α1 H1 C1 x e1 c1 h1 v rv => ?_⟩
  refine ⟨α1, C1, ρ, c1, r.ext c e1, (WpO.bnd c1 h1).mono fun α2 H2 C2 y e2 c2 h2 w rw => ?_⟩
  obtain ⟨t, ht, q⟩ := (WpO.bnd c2 h2).lft
  obtain ⟨z, hz, hb⟩ := Option.bind_eq_some_iff.mp ht
  have ez := boolOf_some hb
  subst ez
  refine ⟨α2, C2, x, y, _, c2, rv.ext c1 e2, rw, hz, fun α3 H3 e3 c3 v3 r3 => ⟨t, r3.blInv, ?_⟩⟩
  have q3 := q α3 H3 e3 c3
  cases t with
  | false =>
    rw [if_neg Bool.false_ne_true] at q3 ⊢
    exact ⟨false, rfl, WpO.ret c3 q3⟩
  | true =>
    rw [if_pos rfl] at q3 ⊢
    refine ⟨α3, C2, ρ, c3, ((r.ext c e1).ext c1 e2).ext c2 e3, (WpO.bnd c3 q3).mono fun α4 H4 C4 z4 e4 c4 h4 v4 r4 => ?_⟩
    obtain ⟨k', hk', q'⟩ := h4.lft
    obtain ⟨z', hz', hb'⟩ := Option.bind_eq_some_iff.mp hk'
    have ez' := boolOf_some hb'
    subst ez'
    exact ⟨α4, C4, y, z4, _, c4, (rw.ext c2 e3).ext c3 e4, r4, hz', fun α' H' e' c' v' r' => ⟨k', r'.blInv, q' α' H' e' c'⟩⟩
theorem dt_ch {op op' : CmpOp} {o o' : Op2} (ho : OpR X (compareOp op) (rD2 X.K o)) (ho' : OpR X (compareOp op') (rD2 X.K o')) (ha : DE X W a f) (hb : DE X W b g) (hc : DE X W c k) (hm : lastMarks [op, op'] [b, c] = false := by rfl) : DT X W (.Compare a [op, op'] [b, c] pos) (xCh o o' f g k) :=
  ptImp (pt_chain ho ho' ha hb hc hm) fun σ H Q h => tD_ch h
theorem tDT_B {b : BX} (h : tD X W (xB b) σ H Q) : tDT X W b σ H fun k H1 => Q (.bl k) H1 := by
  obtain ⟨α, C, ρ, c, r, h⟩ := h
  exact ⟨α, C, ρ, c, r, (WpO.bnd c h).mono fun α1 H1 C1 x e1 c1 h1 => WpO.ret c1 h1 (.bl x) (.bl x)⟩
theorem de_ch {op op' : CmpOp} {o o' : Op2} (ho : OpR X (compareOp op) (rD2 X.K o)) (ho' : OpR X (compareOp op') (rD2 X.K o')) (ha : DE X W a f) (hb : DE X W b g) (hc : DE X W c k) (hm : lastMarks [op, op'] [b, c] = false := by rfl) : DE X W (.Compare a [op, op'] [b, c] pos) (xB (xCh o o' f g k)) :=
  peImp (pe_chain ho ho' ha hb hc hm) fun σ H Q h => by
    obtain ⟨α, C, ρ, c, r, h⟩ := tD_ch (tDT_B h)
    refine ⟨α, C, ρ, c, r, h.mono fun α1 H1 C1 x e1 c1 h1 v rv => ?_⟩
    obtain ⟨α2, C2, ρ2, c2, r2, h2⟩ := h1 v rv
    refine ⟨α2, C2, ρ2, c2, r2, h2.mono fun α3 H3 C3 x3 e3 c3 h3 v3 rv3 => ?_⟩
    obtain ⟨α4, C4, dx, dy, dz, c4, rx, ry, hz, ans⟩ := h3 v3 rv3
    refine ⟨α4, C4, dx, dy, dz, c4, rx, ry, hz, fun α5 H5 e5 c5 v5 r5 => ?_⟩
    obtain ⟨t, et, q⟩ := ans α5 H5 e5 c5 v5 r5
    refine ⟨t, et, ?_⟩
    cases t with
    | false =>
      rw [if_neg Bool.false_ne_true] at q ⊢
      obtain ⟨b, eb, q⟩ := q
      cases eb
      exact q
    | true =>
      rw [if_pos rfl] at q ⊢
      obtain ⟨α6, C6, ρ6, c6, r6, h6⟩ := q
      refine ⟨α6, C6, ρ6, c6, r6, h6.mono fun α7 H7 C7 x7 e7 c7 h7 v7 rv7 => ?_⟩
      obtain ⟨α8, C8, dx8, dy8, dz8, c8, rx8, ry8, hz8, ans8⟩ := h7 v7 rv7
      refine ⟨α8, C8, dx8, dy8, dz8, c8, rx8, ry8, hz8, fun α9 H9 e9 c9 v9 r9 => ?_⟩
      obtain ⟨b, eb, q⟩ := ans8 α9 H9 e9 c9 v9 r9
      cases eb
      exact q

/-! ### and, or, not, a if t else b -/
variable {p q : BX} {rest : List Expr}
def bAnd (p q : BX) : BX := fun ρ => bnd (p ρ) fun t => if t = true then q ρ else ret false
def bOr (p q : BX) : BX := fun ρ => bnd (p ρ) fun t => if t = true then ret true else q ρ
def bNot (p : BX) : BX := fun ρ => bnd (p ρ) fun t => ret (!t)
def xIf (p : BX) (f g : EX) : EX := fun ρ => bnd (p ρ) fun t => if t = true then f ρ else g ρ
theorem dw_and1 (h : DT X W a p) : DW X W (.BoolOp .And [a] pos) p := pw_and1 h
theorem dw_or1 (h : DT X W a p) : DW X W (.BoolOp .Or [a] pos) p := pw_or1 h
theorem dw_and (ha : DT X W a p) (hb : DW X W (.BoolOp .And (b :: rest) pos) q) : DW X W (.BoolOp .And (a :: b :: rest) pos) (bAnd p q) := pwImp (pw_and ha hb) fun σ H Q h => by
  obtain ⟨α, C, ρ, c, r, h⟩ := h
  refine ⟨α, C, ρ, c, r, (WpO.bnd c h).mono fun α1 H1 C1 x e1 c1 h1 => ?_⟩
  cases x with
  | true =>
    rw [if_pos rfl] at h1 ⊢
    exact ⟨α1, C1, ρ, c1, r.ext c e1, h1⟩
  | false =>
    rw [if_neg Bool.false_ne_true] at h1 ⊢
    exact WpO.ret c1 h1
theorem dw_or (ha : DT X W a p) (hb : DW X W (.BoolOp .Or (b :: rest) pos) q) : DW X W (.BoolOp .Or (a :: b :: rest) pos) (bOr p q) := pwImp (pw_or ha hb) fun σ H Q h => by
  obtain ⟨α, C, ρ, c, r, h⟩ := h
  refine ⟨α, C, ρ, c, r, (WpO.bnd c h).mono fun α1 H1 C1 x e1 c1 h1 => ?_⟩
  cases x with
  | true =>
    rw [if_pos rfl] at h1 ⊢
    exact WpO.ret c1 h1
  | false =>
    rw [if_neg Bool.false_ne_true] at h1 ⊢
    exact ⟨α1, C1, ρ, c1, r.ext c e1, h1⟩
theorem dt_not (ha : DT X W a p) : DT X W (.UnaryOp .Not a pos) (bNot p) := ptImp (pt_not ha) fun σ H Q h => by
  obtain ⟨α, C, ρ, c, r, h⟩ := h
  exact ⟨α, C, ρ, c, r, (WpO.bnd c h).mono fun α1 H1 C1 x e1 c1 h1 => WpO.ret c1 h1⟩
theorem de_if (hc : DT X W c p) (ha : DE X W a f) (hb : DE X W b g) : DE X W (.IfExp c a b pos) (xIf p f g) := peImp (pe_ifExp hc ha hb) fun σ H Q h => by
  obtain ⟨α, C, ρ, c, r, h⟩ := h
  refine ⟨α, C, ρ, c, r, (WpO.bnd c h).mono fun α1 H1 C1 x e1 c1 h1 => ?_⟩
  cases x with
  | true =>
    rw [if_pos rfl] at h1 ⊢
    exact ⟨α1, C1, ρ, c1, r.ext c e1, h1⟩
  | false =>
    rw [if_neg Bool.false_ne_true] at h1 ⊢
    exact ⟨α1, C1, ρ, c1, r.ext c e1, h1⟩
end
end DL

/-! DL3: statements as functions of the slots' data (SX), targets, loops, calls of defs, defs. -/
namespace DL
open PySem L2
open PyProof.Rows (envOfC)

inductive Fl where
  | nx | rt (d : D) | bk | ct
inductive SO where
  | ok (f : Fl) (ρ : Ro) (C : Cells)
  | err (e : Er) (ρ : Ro) (C : Cells)
  | bad
abbrev SX := Ro → Cells → SO
abbrev TX := D → Ro → Mo Ro
/-- an expression within a statement -/
def sE {β : Type} (m : Mo β) (ρ : Ro) (k : β → Cells → SO) : Cells → SO := fun C => match m C with
  | .ok (x, C') => k x C'
  | .err e C' => .err e ρ C'
  | .bad => .bad
def FlQ (K : PySem.W.Frag) (E : Ends) (α : Al) (σ : St) (H : Hp) : Fl → Prop
  | .nx => E.nx σ H
  | .bk => E.bk σ H
  | .ct => E.ct σ H
  | .rt d => ∀ v, VR K α H v d → E.rt v H
def WpS (X : Cx) (W : WX) (α : Al) (H : Hp) (E : Ends) : SO → Prop
  | .ok f ρ C => ∀ α' H' σ', Ext α H α' H' → CR X.K α' H' C → SR X.K α' σ' H' ρ → FlQ X.K E α' σ' H' f
  | .err er ρ C => ∀ cls d α' H' σ', Ext α H α' H' → CR X.K α' H' C → SR X.K α' σ' H' ρ → ErrR X.K X.mg α' H' er cls d → W cls d σ' H'
  | .bad => False
def tDS (X : Cx) (W : WX) (f : SX) : TS := fun E σ H => ∃ α C ρ, CR X.K α H C ∧ SR X.K α σ H ρ ∧ WpS X W α H E (f ρ C)
abbrev DS (X : Cx) (W : WX) (st : Stmt) (f : SX) : Prop := PS X st (tDS X W f)
abbrev DSs (X : Cx) (W : WX) (st : List Stmt) (f : SX) : Prop := PSs X st (tDS X W f)

section
variable {X : Cx} {W : WX} {α α' : Al} {H H' : Hp} {C C' : Cells} {σ : St} {ρ : Ro} {E E' : Ends} {o : SO}
theorem psImp {st : Stmt} {t t' : TS} (h : PS X st t) (i : ∀ E σ H, t' E σ H → t E σ H) : PS X st t' := ⟨fun pins s σ H E I q => h.run pins s σ H E I (i E σ H q)⟩
theorem pssImp {st : List Stmt} {t t' : TS} (h : PSs X st t) (i : ∀ E σ H, t' E σ H → t E σ H) : PSs X st t' := ⟨fun pins s σ H E I q => h.run pins s σ H E I (i E σ H q)⟩
theorem WpS.start (c : CR X.K α H C) (c' : CR X.K α' H' C') (e : Ext α H α' H') (h : WpS X W α H E o) : WpS X W α' H' E o := by
  match o, h with
  | .ok f ρ _, h => exact fun α2 H2 σ2 e2 c2 r2 => h α2 H2 σ2 (e.trans' c c' e2) c2 r2
  | .err er ρ _, h => exact fun cls d α2 H2 σ2 e2 c2 r2 q => h cls d α2 H2 σ2 (e.trans' c c' e2) c2 r2 q
/-- the expression of a statement -/
theorem WpS.sE {β : Type} {m : Mo β} {k : β → Cells → SO} (c : CR X.K α H C) (r : SR X.K α σ H ρ) (h : WpS X W α H E (sE m ρ k C)) :
    WpO X.K X.mg α H (fun α' H' C' x => WpS X W α' H' E (k x C')) (fun c d H' => W c d σ H') (m C) := by
  unfold DL.sE at h
  cases hm : m C with
  | ok p =>
    obtain ⟨x, C1⟩ := p
    rw [hm] at h
    exact fun α1 H1 e1 c1 => WpS.start c c1 e1 h
  | err er C1 =>
    rw [hm] at h
    exact fun cls d α1 H1 e1 c1 q => h cls d α1 H1 σ e1 c1 (r.ext c e1) q
  | bad =>
    rw [hm] at h
    exact h
theorem WpS.nx (c : CR X.K α H C) (r : SR X.K α σ H ρ) (h : WpS X W α H E (.ok .nx ρ C)) : E.nx σ H := h α H σ (Ext.refl α H) c r

/-! ### small statements -/
variable {e : Expr} {f g : EX} {s1 s2 : SX} {pos : Pos}
def sNil : SX := fun ρ C => .ok .nx ρ C
def sSeq (s1 s2 : SX) : SX := fun ρ C => match s1 ρ C with
  | .ok .nx ρ' C' => s2 ρ' C'
  | o => o
def sExpr (f : EX) : SX := fun ρ C => sE (f ρ) ρ (fun _ C' => .ok .nx ρ C') C
def sRet (f : EX) : SX := fun ρ C => sE (f ρ) ρ (fun x C' => .ok (.rt x) ρ C') C
def sRetN : SX := fun ρ C => .ok (.rt .non) ρ C
def sBrk : SX := fun ρ C => .ok .bk ρ C
def sCnt : SX := fun ρ C => .ok .ct ρ C
def sIf (p : BX) (s1 s2 : SX) : SX := fun ρ C => sE (p ρ) ρ (fun t C' => if t = true then s1 ρ C' else s2 ρ C') C
def sSet (i : Nat) (f : EX) : SX := fun ρ C => sE (f ρ) ρ (fun x C' => .ok .nx (ρ.set i (some x)) C') C
def sNever : SX := fun _ _ => .bad
theorem ds_nil : DSs X W [] sNil := pssImp pss_nil fun E σ H ⟨α, C, ρ, c, r, h⟩ => h.nx c r
theorem ds_cons {st : Stmt} {rest : List Stmt} (h1 : DS X W st s1) (h2 : DSs X W rest s2) : DSs X W (st :: rest) (sSeq s1 s2) := pssImp (pss_cons h1 h2) fun E σ H ⟨α, C, ρ, c, r, h⟩ => by
  refine ⟨α, C, ρ, c, r, ?_⟩
  unfold sSeq at h
  cases hs : s1 ρ C with
  | ok fl ρ1 C1 =>
    rw [hs] at h
    cases fl with
    | nx => exact fun α1 H1 σ1 e1 c1 r1 => ⟨α1, C1, ρ1, c1, r1, WpS.start c c1 e1 h⟩
    | rt d => exact h
    | bk => exact h
    | ct => exact h
  | err er ρ1 C1 => rw [hs] at h; exact h
  | bad => rw [hs] at h; exact h
theorem ds_one {st : Stmt} (h1 : DS X W st s1) : DSs X W [st] s1 := pss_one h1
theorem ds_pass : DS X W (.Pass pos) sNil := psImp ps_pass fun E σ H ⟨α, C, ρ, c, r, h⟩ => h.nx c r
theorem ds_brk : DS X W (.Break pos) sBrk := psImp ps_break fun E σ H ⟨α, C, ρ, c, r, h⟩ => h α H σ (Ext.refl α H) c r
theorem ds_cnt : DS X W (.Continue pos) sCnt := psImp ps_continue fun E σ H ⟨α, C, ρ, c, r, h⟩ => h α H σ (Ext.refl α H) c r
theorem ds_doc {x j pos pos'} : DS X W (.Expr (.Constant (.str x) j pos) pos') sNil := psImp ps_doc fun E σ H ⟨α, C, ρ, c, r, h⟩ => h.nx c r
theorem ds_never {st : Stmt} : DS X W st sNever := psImp ps_never fun E σ H ⟨α, C, ρ, c, r, h⟩ => h
theorem ds_expr (he : DE X W e f) (hs : swapsWith e none pos.line X.env = pure false := by rfl) : DS X W (.Expr e pos) (sExpr f) := psImp (ps_expr he hs) fun E σ H ⟨α, C, ρ, c, r, h⟩ =>
  ⟨α, C, ρ, c, r, (WpS.sE c r h).mono fun α1 H1 C1 x e1 c1 h1 v rv => h1.nx c1 (r.ext c e1)⟩
theorem ds_ret (he : DE X W e f) : DS X W (.Return (some e) pos) (sRet f) := psImp (ps_ret he) fun E σ H ⟨α, C, ρ, c, r, h⟩ =>
  ⟨α, C, ρ, c, r, (WpS.sE c r h).mono fun α1 H1 C1 x e1 c1 h1 v rv => h1 α1 H1 σ (Ext.refl α1 H1) c1 (r.ext c e1) v rv⟩
theorem ds_retN : DS X W (.Return none pos) sRetN := psImp ps_retN fun E σ H ⟨α, C, ρ, c, r, h⟩ => h α H σ (Ext.refl α H) c r .non .non
theorem ds_if {p : BX} {a b : List Stmt} (hc : DT X W e p) (ha : DSs X W a s1) (hb : DSs X W b s2) : DS X W (.If e a b pos) (sIf p s1 s2) := psImp (ps_if hc ha hb) fun E σ H ⟨α, C, ρ, c, r, h⟩ => by
  refine ⟨α, C, ρ, c, r, (WpS.sE c r h).mono fun α1 H1 C1 x e1 c1 h1 => ?_⟩
  cases x with
  | true =>
    rw [if_pos rfl] at h1 ⊢
    exact ⟨α1, C1, ρ, c1, r.ext c e1, h1⟩
  | false =>
    rw [if_neg Bool.false_ne_true] at h1 ⊢
    exact ⟨α1, C1, ρ, c1, r.ext c e1, h1⟩
theorem ds_set {i : Nat} {x : Str} {p' : Pos} (hN : X.N.Nodup) (he : DE X W e f) (hi : X.N[i]? = some x := by rfl) (hx : Loc X.env.scope x := by first | exact Or.inl rfl | exact Or.inr rfl) (hs : swapsWith e (some (.Name x p')) pos.line X.env = pure false := by rfl)
    (hf : X.fn x = true ∨ X.env.scope.names.lookup x = some .local := by first | exact .inl rfl | exact .inr rfl) : DS X W (.Assign [.Name x p'] e pos) (sSet i f) := psImp (ps_set hN hi hx he hs hf) fun E σ H ⟨α, C, ρ, c, r, h⟩ =>
  ⟨α, C, ρ, c, r, (WpS.sE c r h).mono fun α1 H1 C1 x e1 c1 h1 v rv => h1.nx c1 ((r.ext c e1).set rv)⟩

/-! ### targets: ix the slots that they set -/
structure Agr (ix : List Nat) (σ σ' : St) : Prop where
  len : σ'.length = σ.length
  at_ : ∀ j, j ∉ ix → σ'[j]? = σ[j]?
theorem Agr.refl (ix : List Nat) (σ : St) : Agr ix σ σ := ⟨rfl, fun _ _ => rfl⟩
theorem Agr.trans {ix ix' : List Nat} {σ σ' σ'' : St} (a : Agr ix σ σ') (b : Agr ix' σ' σ'') : Agr (ix ++ ix') σ σ'' :=
  ⟨b.len.trans a.len, fun j hj => (b.at_ j fun z => hj (List.mem_append_right _ z)).trans (a.at_ j fun z => hj (List.mem_append_left _ z))⟩
def gD (X : Cx) (ix : List Nat) (t : TX) : TG := fun v σ H Q => ∃ α C ρ d, CR X.K α H C ∧ SR X.K α σ H ρ ∧ VR X.K α H v d ∧
  WpO X.K X.mg α H (fun α' H' _ ρ' => ∀ σ', SR X.K α' σ' H' ρ' → Agr ix σ σ' → Q σ' H') (fun _ _ _ => False) (t d ρ C)
def gDs (X : Cx) (ix : List Nat) (t : List D → Ro → Mo Ro) : TGs := fun vs σ H Q => ∃ α C ρ ds, CR X.K α H C ∧ SR X.K α σ H ρ ∧ VRs X.K α H vs ds ∧
  WpO X.K X.mg α H (fun α' H' _ ρ' => ∀ σ', SR X.K α' σ' H' ρ' → Agr ix σ σ' → Q σ' H') (fun _ _ _ => False) (t ds ρ C)
abbrev DG (X : Cx) (tg : Expr) (ix : List Nat) (t : TX) : Prop := PG X tg (gD X ix t)
abbrev DGs (X : Cx) (tg : List Expr) (ix : List Nat) (t : List D → Ro → Mo Ro) : Prop := PGs X tg (gDs X ix t)
theorem pgImp {tg : Expr} {t t' : TG} (h : PG X tg t) (i : ∀ v σ H Q, t' v σ H Q → t v σ H Q) : PG X tg t' := ⟨fun pins s σ H v u Q I r q => h.run pins s σ H v u Q I r (i v σ H Q q)⟩
theorem pgsImp {tg : List Expr} {t t' : TGs} (h : PGs X tg t) (i : ∀ v σ H Q, t' v σ H Q → t v σ H Q) : PGs X tg t' := ⟨fun pins s σ H v u Q I r q => h.run pins s σ H v u Q I r (i v σ H Q q)⟩
def gN (i : Nat) : TX := fun d ρ => ret (ρ.set i (some d))
def gNilD : List D → Ro → Mo Ro
  | [], ρ => ret ρ
  | _ :: _, _ => bad
def gConsD (t : TX) (u : List D → Ro → Mo Ro) : List D → Ro → Mo Ro
  | [], _ => bad
  | d :: ds, ρ => bnd (t d ρ) fun ρ' => u ds ρ'
def asTup : D → Option (List D)
  | .tup ds => some ds
  | _ => none
def gTupD (n : Nat) (t : List D → Ro → Mo Ro) : TX := fun d ρ => match d with
  | .tup ds => if ds.length = n then t ds ρ else bad
  | _ => bad
theorem agr_set {i : Nat} {x : Option V} : Agr [i] σ (σ.set i x) := ⟨by simp, fun j hj => by
  have q : i ≠ j := fun z => hj (by simp [z])
  exact List.getElem?_set_ne q⟩
theorem dg_name {i : Nat} {x : Str} (hN : X.N.Nodup) (hi : X.N[i]? = some x := by rfl) (hx : Loc X.env.scope x := by first | exact Or.inl rfl | exact Or.inr rfl) (hf : X.fn x = true ∨ X.env.scope.names.lookup x = some .local := by first | exact .inl rfl | exact .inr rfl) :
    DG X (.Name x pos) [i] (gN i) := pgImp (pg_name hN hi hx hf) fun v σ H Q ⟨α, C, ρ, d, c, r, rv, h⟩ => WpO.ret c h _ (r.set rv) agr_set
theorem dgs_nil : DGs X [] [] gNilD := pgsImp pgs_nil fun vs σ H Q ⟨α, C, ρ, ds, c, r, rv, h⟩ => by
  cases rv with
  | nil => exact ⟨rfl, WpO.ret c h σ r (Agr.refl _ _)⟩
  | cons _ _ => exact h.elim
theorem dgs_cons {es : List Expr} {ix ix' : List Nat} {t : TX} {u : List D → Ro → Mo Ro} (h1 : DG X e ix t) (h2 : DGs X es ix' u) (hs : (assignEach (e :: es) X.env).map (·.2) = assign e X.env :: (assignEach es X.env).map (·.2) := by rfl) :
    DGs X (e :: es) (ix ++ ix') (gConsD t u) := pgsImp (pgs_cons h1 h2 hs) fun vs σ H Q ⟨α, C, ρ, ds, c, r, rv, h⟩ => by
  cases rv with
  | nil => exact h.elim
  | @cons v vs d ds rv rvs =>
    refine ⟨v, vs, rfl, α, C, ρ, d, c, r, rv, (WpO.bnd c h).mono fun α1 H1 C1 ρ1 e1 c1 h1 σ1 r1 a1 => ?_⟩
    exact ⟨α1, C1, ρ1, ds, c1, r1, rvs.ext c e1, h1.mono fun α2 H2 C2 ρ2 e2 c2 h2 σ2 r2 a2 => h2 σ2 r2 (a1.trans a2)⟩
theorem dg_tup {es : List Expr} {k n : Nat} {ix : List Nat} {t : List D → Ro → Mo Ro} (hc : X.calm = true) (h : DGs X es ix t) (hn : (assignEach es X.env).length = n := by rfl) (hst : (assignEach es X.env).findIdx? (·.1) = none := by rfl) :
    DG X (.Tuple es k pos) ix (gTupD n t) := pgImp (pg_tup hc h hn hst) fun v σ H Q ⟨α, C, ρ, d, c, r, rv, h⟩ => by
  unfold gTupD at h
  cases rv with
  | @tup a xs ds h1 z rvs =>
    dsimp only at h
    by_cases hl : ds.length = n
    · rw [if_pos hl] at h
      exact ⟨a, xs, rfl, SqT.of h1, rvs.length.trans hl, α, C, ρ, ds, c, r, rvs, h⟩
    · rw [if_neg hl] at h
      exact h.elim
  | _ => exact h.elim
/-- target = value -/
def sAsg (f : EX) (t : TX) : SX := fun ρ C => sE (f ρ) ρ (fun x C' => sE (t x ρ) ρ (fun ρ' C'' => .ok .nx ρ' C'') C') C
/-- a target raises nothing -/
theorem tgt {ix : List Nat} {t : TX} {v : V} {d : D} {k : Ro → Cells → SO} {Q : St → Hp → Prop} (c : CR X.K α H C) (r : SR X.K α σ H ρ) (rv : VR X.K α H v d) (hn : ∀ er C', t d ρ C ≠ .err er C') (h : WpS X W α H E (sE (t d ρ) ρ k C))
    (hk : ∀ α' H' C' ρ' σ', Ext α H α' H' → CR X.K α' H' C' → SR X.K α' σ' H' ρ' → Agr ix σ σ' → WpS X W α' H' E (k ρ' C') → Q σ' H') : gD X ix t v σ H Q := by
  refine ⟨α, C, ρ, d, c, r, rv, ?_⟩
  have h' := WpS.sE c r h
  cases ht : t d ρ C with
  | ok p =>
    obtain ⟨ρ1, C1⟩ := p
    rw [ht] at h'
    exact fun α1 H1 e1 c1 σ1 r1 a1 => hk α1 H1 C1 ρ1 σ1 e1 c1 r1 a1 (h' α1 H1 e1 c1)
  | err er C1 => exact (hn er C1 ht).elim
  | bad => rw [ht] at h'; exact h'
/-- a target that never raises -/
def NoErr (t : TX) : Prop := ∀ d ρ C er C', t d ρ C ≠ .err er C'
def NoErrs (t : List D → Ro → Mo Ro) : Prop := ∀ d ρ C er C', t d ρ C ≠ .err er C'
theorem ne_name {i : Nat} : NoErr (gN i) := fun _ _ _ _ _ h => nomatch h
theorem ne_nil : NoErrs gNilD := fun d ρ C er C' h => by cases d <;> cases h
theorem ne_cons {t : TX} {u : List D → Ro → Mo Ro} (a : NoErr t) (b : NoErrs u) : NoErrs (gConsD t u) := fun d ρ C er C' h => by
  cases d with
  | nil => cases h
  | cons d ds =>
    simp only [gConsD, bnd] at h
    cases ht : t d ρ C with
    | ok p => obtain ⟨ρ1, C1⟩ := p; rw [ht] at h; exact b _ _ _ _ _ h
    | err e1 C1 => exact a _ _ _ _ _ ht
    | bad => rw [ht] at h; cases h
theorem ne_tup {n : Nat} {t : List D → Ro → Mo Ro} (a : NoErrs t) : NoErr (gTupD n t) := fun d ρ C er C' h => by
  unfold gTupD at h
  cases d with
  | tup ds =>
    by_cases hl : ds.length = n
    · simp only [hl, if_true] at h; exact a _ _ _ _ _ h
    · simp only [hl, if_false] at h; cases h
  | _ => cases h
theorem ds_asg {tg : Expr} {ix : List Nat} {t : TX} (he : DE X W e f) (hg : DG X tg ix t) (hn : NoErr t) (hs : swapsWithSole [tg] e pos.line X.env = pure false := by rfl) (hw : swappedStores [tg] e X.env = pure none := by rfl)
    (h1 : (assignEach [tg] X.env).map (·.2) = [assign tg X.env] := by rfl) : DS X W (.Assign [tg] e pos) (sAsg f t) := psImp (ps_asg he hg hs hw h1) fun E σ H ⟨α, C, ρ, c, r, h⟩ =>
  ⟨α, C, ρ, c, r, (WpS.sE c r h).mono fun α1 H1 C1 x e1 c1 h1 v rv => tgt c1 (r.ext c e1) rv (hn _ _ _) h1 fun α2 H2 C2 ρ2 σ2 e2 c2 r2 a2 h2 => h2.nx c2 r2⟩
/-- a, b = x, y -/
def sPar (i j : Nat) (fa : AX) : SX := fun ρ C => sE (fa ρ) ρ (fun xs C' => match xs with
  | [x, y] => .ok .nx ((ρ.set i (some x)).set j (some y)) C'
  | _ => .bad) C
theorem ds_par {i j : Nat} {x y : Str} {a b : Expr} {fa : AX} {px py pt : Pos} {kt k2 : Nat} {pt2 : Pos} (hc : X.calm = true) (hN : X.N.Nodup) (hij : i ≠ j) (ha : DA X W [a, b] fa) (hi : X.N[i]? = some x := by rfl) (hj : X.N[j]? = some y := by rfl)
    (hx : X.env.scope.names.lookup x = some .local := by rfl) (hy : X.env.scope.names.lookup y = some .local := by rfl)
    (hw : swappedStores [.Tuple [.Name x px, .Name y py] kt pt] (.Tuple [a, b] k2 pt2) X.env = pure (some [x, y]) := by rfl)
    (hs : swapsWithSole [.Tuple [.Name x px, .Name y py] kt pt] (.Tuple [a, b] k2 pt2) pos.line X.env = pure false := by rfl) : DS X W (.Assign [.Tuple [.Name x px, .Name y py] kt pt] (.Tuple [a, b] k2 pt2) pos) (sPar i j fa) :=
  psImp (ps_par hc hN hi hj hij hx hy ha hw hs) fun E σ H ⟨α, C, ρ, c, r, h⟩ => by
  refine ⟨α, C, ρ, c, r, (WpS.sE c r h).mono fun α1 H1 C1 xs e1 c1 h1 vs rv => ?_⟩
  cases rv with
  | nil => exact h1.elim
  | @cons v vs d ds rv rvs =>
    cases rvs with
    | nil => exact h1.elim
    | @cons v2 vs d2 ds rv2 rvs =>
      cases rvs with
      | cons _ _ => exact h1.elim
      | nil => exact ⟨v, v2, rfl, h1.nx c1 (((r.ext c e1).set rv).set rv2)⟩

/-! ### what is walked -/
/-- the items; where they are a cell's, its number and its items: it must stand so at each turn -/
structure Src where
  items : List D
  cell : Option (Nat × List D)
open Classical in
noncomputable def Src.chk {β : Type} (s : Src) (C : Cells) (o b : β) : β := match s.cell with
  | none => o
  | some (k, ds) => if C[k]? = some (.lst ds) then o else b
def Src.ok (s : Src) (C : Cells) : Prop := match s.cell with
  | none => True
  | some (k, ds) => C[k]? = some (.lst ds)
theorem Src.chk_ok {β : Type} {s : Src} {C : Cells} {o b : β} (P : β → Prop) (h : P (s.chk C o b)) (hb : ¬ P b) : s.ok C ∧ P o := by
  unfold Src.chk at h
  unfold Src.ok
  cases hs : s.cell with
  | none => simp only [hs] at h ⊢; exact ⟨trivial, h⟩
  | some p =>
    obtain ⟨k, ds⟩ := p
    simp only [hs] at h ⊢
    by_cases q : C[k]? = some (.lst ds)
    · rw [if_pos q] at h; exact ⟨q, h⟩
    · rw [if_neg q] at h; exact (hb h).elim
abbrev IX := Ro → Mo Src
structure DWalk (K : PySem.W.Frag) (α : Al) (H : Hp) (J : It) (s : Src) (G : Hp → Prop) (Y : Nat → Hp → V → Hp → Prop) : Prop where
  walk : Walk J s.items.length G Y
  len : s.items.length ≤ sizeLine
  good : ∀ α' H' C', ExtW α H α' H' → CR K α' H' C' → s.ok C' → G H'
  gives : ∀ i x H1 H2 α' C' d, ExtW α H α' H1 → CR K α' H1 C' → s.ok C' → Y i H1 x H2 → s.items[i]? = some d → Ext α' H1 α' H2 ∧ CR K α' H2 C' ∧ VR K α' H2 x d
def iD (X : Cx) (W : WX) (f : IX) : TI := fun σ H R => ∃ α C ρ, CR X.K α H C ∧ SR X.K α σ H ρ ∧
  WpO X.K X.mg α H (fun α' H' _ s => ∀ J G Y, DWalk X.K α' H' J s G Y → R J H') (fun c d H' => W c d σ H') (f ρ C)
abbrev DI (X : Cx) (W : WX) (tg iter : Expr) (f : IX) : Prop := PI X tg iter (iD X W f)
theorem piImp {tg iter : Expr} {t t' : TI} (h : PI X tg iter t) (i : ∀ σ H R, t' σ H R → t σ H R) : PI X tg iter t' := ⟨fun pins s σ H R I q => h.run pins s σ H R I (i σ H R q)⟩

/-! ### for -/
noncomputable def forD (s : Src) (t : TX) (b : SX) : List D → Ro → Cells → SO
  | [], ρ, C => s.chk C (.ok .nx ρ C) .bad
  | x :: xs, ρ, C => s.chk C (sE (t x ρ) ρ (fun ρ1 C1 => match b ρ1 C1 with
    | .ok .nx ρ2 C2 => forD s t b xs ρ2 C2
    | .ok .ct ρ2 C2 => forD s t b xs ρ2 C2
    | .ok .bk ρ2 C2 => .ok .nx ρ2 C2
    | .ok (.rt d) ρ2 C2 => .ok (.rt d) ρ2 C2
    | .err e ρ2 C2 => .err e ρ2 C2
    | .bad => .bad) C) .bad
noncomputable def sFor (f : IX) (t : TX) (b : SX) : SX := fun ρ C => sE (f ρ) ρ (fun s C' => forD s t b s.items ρ C') C
theorem ds_for {tg iter : Expr} {body : List Stmt} {fi : IX} {ix : List Nat} {t : TX} {b : SX} (hp : PassesOwn (model X.prog X.w) X.A X.env X.xe) (hc : X.calm = true) (hi : DI X W tg iter fi) (hg : DG X tg ix t) (hn : NoErr t) (hb : DSs X W body b)
    (hs : ∀ x, foldedSetIterable iter X.env x = pure x := by intro _; rfl) : DS X W (.For tg iter body [] pos) (sFor fi t b) := psImp (ps_for hp hc hi hg hb hs) fun E σ H ⟨α, C, ρ, c, r, h⟩ => by
  refine ⟨α, C, ρ, c, r, (WpS.sE c r h).mono fun α0 H0 C0 s e0 c0 h0 J G Y dw => ?_⟩
  refine for_it dw.walk (fun i σ H => ∃ α C ρ, Ext α0 H0 α H ∧ CR X.K α H C ∧ SR X.K α σ H ρ ∧ WpS X W α H E (forD s t b (s.items.drop i) ρ C)) ?_ ?_ ?_ ?_
  · exact ⟨α0, C0, ρ, Ext.refl _ _, c0, r.ext c e0, by rw [List.drop_zero]; exact h0⟩
  · rintro i σ H hi ⟨α, C, ρ, e1, c1, r1, w1⟩
    refine dw.good α H C e1.toExtW c1 ?_
    cases hd : s.items.drop i with
    | nil => rw [hd] at w1; exact (Src.chk_ok _ w1 fun z => z).1
    | cons x xs => rw [hd] at w1; exact (Src.chk_ok _ w1 fun z => z).1
  · rintro i x σ H H' hi ⟨α, C, ρ, e1, c1, r1, w1⟩ y
    have hd : s.items.drop i = s.items[i] :: s.items.drop (i + 1) := List.drop_eq_getElem_cons hi
    rw [hd] at w1
    obtain ⟨ok2, w2⟩ := Src.chk_ok _ w1 fun z => z
    obtain ⟨e2, c2, rx⟩ := dw.gives i x H H' α C s.items[i] e1.toExtW c1 ok2 y (by simp [hi])
    refine tgt (ix := ix) c2 (r1.ext c1 e2) rx (hn _ _ _) (WpS.start c1 c2 e2 w2) fun α3 H3 C3 ρ3 σ3 e3 c3 r3 a3 w3 => ?_
    refine ⟨α3, C3, ρ3, c3, r3, ?_⟩
    cases hb3 : b ρ3 C3 with
    | bad => rw [hb3] at w3; exact w3
    | err er ρ4 C4 => rw [hb3] at w3; exact w3
    | ok fl ρ4 C4 =>
      rw [hb3] at w3
      have e13 := (e1.trans' c0 c1 e2).trans' c0 c2 e3
      cases fl with
      | nx => exact fun α4 H4 σ4 e4 c4 r4 => ⟨α4, C4, ρ4, e13.trans' c0 c3 e4, c4, r4, WpS.start c3 c4 e4 w3⟩
      | ct => exact fun α4 H4 σ4 e4 c4 r4 => ⟨α4, C4, ρ4, e13.trans' c0 c3 e4, c4, r4, WpS.start c3 c4 e4 w3⟩
      | bk => exact w3
      | rt d => exact w3
  · rintro σ H ⟨α, C, ρ, e1, c1, r1, w1⟩
    rw [List.drop_length] at w1
    exact (Src.chk_ok _ w1 fun z => z).2.nx c1 r1

/-! ### while -/
def whD (p : BX) (b : SX) : Nat → SX
  | 0, _, _ => .bad
  | n + 1, ρ, C => sE (p ρ) ρ (fun t C1 => if t = true then (match b ρ C1 with
    | .ok .nx ρ2 C2 => whD p b n ρ2 C2
    | .ok .ct ρ2 C2 => whD p b n ρ2 C2
    | .ok .bk ρ2 C2 => .ok .nx ρ2 C2
    | .ok (.rt d) ρ2 C2 => .ok (.rt d) ρ2 C2
    | .err e ρ2 C2 => .err e ρ2 C2
    | .bad => .bad) else .ok .nx ρ C1) C
theorem ds_while {body : List Stmt} {p : BX} {b : SX} (n : Nat) (hp : PassesOwn (model X.prog X.w) X.A X.env X.xe) (hc : DT X W e p) (hb : DSs X W body b) : DS X W (.While e body [] pos) (whD p b n) := psImp (ps_while hp hc hb) fun E σ H ⟨α, C, ρ, c, r, h⟩ => by
  refine ⟨fun m σ H => ∃ α C ρ, CR X.K α H C ∧ SR X.K α σ H ρ ∧ WpS X W α H E (whD p b m ρ C), ⟨n, α, C, ρ, c, r, h⟩, ?_⟩
  rintro m σ H ⟨α, C, ρ, c, r, h⟩
  cases m with
  | zero => exact h.elim
  | succ m =>
    refine ⟨α, C, ρ, c, r, (WpS.sE c r h).mono fun α1 H1 C1 t e1 c1 h1 => ?_⟩
    cases t with
    | false =>
      rw [if_neg Bool.false_ne_true] at h1 ⊢
      exact h1.nx c1 (r.ext c e1)
    | true =>
      rw [if_pos rfl] at h1 ⊢
      refine ⟨fun σ H => ∃ α C ρ, CR X.K α H C ∧ SR X.K α σ H ρ ∧ WpS X W α H E (whD p b m ρ C), fun σ' H' q => ⟨m, Nat.lt_succ_self m, q⟩, α1, C1, ρ, c1, r.ext c e1, ?_⟩
      cases hb1 : b ρ C1 with
      | bad => rw [hb1] at h1; exact h1
      | err er ρ4 C4 => rw [hb1] at h1; exact h1
      | ok fl ρ4 C4 =>
        rw [hb1] at h1
        cases fl with
        | nx => exact fun α4 H4 σ4 e4 c4 r4 => ⟨α4, C4, ρ4, c4, r4, WpS.start c1 c4 e4 h1⟩
        | ct => exact fun α4 H4 σ4 e4 c4 r4 => ⟨α4, C4, ρ4, c4, r4, WpS.start c1 c4 e4 h1⟩
        | bk => exact h1
        | rt d => exact h1
end

/-! ### defs -/
def spD (K : PySem.W.Frag) (mg : Str → Option Value) (n : Nat) (g : List D → Mo D) : Sp := fun vs H Q E => ∃ α C ds, CR K α H C ∧ VRs K α H vs ds ∧ ds.length = n ∧
  WpO K mg α H (fun α' H' _ x => ∀ v, VR K α' H' v x → Q v H') E (g ds C)
/-- a def by its body: n parameters, m slots -/
def fnD (m : Nat) (b : SX) (ds : List D) : Mo D := fun C => match b (ds.map some ++ List.replicate (m - ds.length) none) C with
  | .ok (.rt d) _ C' => .ok (d, C')
  | .ok .nx _ C' => .ok (.non, C')
  | .err e _ C' => .err e C'
  | _ => .bad
section
variable {P : Program} {w : World} {K : PySem.W.Frag} {mg : Str → Option Value} {base : Heap}
theorem start_SR {α : Al} {H : Hp} {N : List Str} {vs : List V} {ds : List D} (r : VRs K α H vs ds) : SR K α (L2.start N vs) H (ds.map some ++ List.replicate (N.length - ds.length) none) := by
  have hl := r.length
  refine ⟨by simp [L2.start, hl], fun i x e => ?_⟩
  unfold L2.start
  by_cases hi : i < ds.length
  · rw [List.getElem?_append_left (by simpa using hi), List.getElem?_map] at e
    cases h1 : ds[i]? with
    | none => rw [h1] at e; cases e
    | some d =>
      rw [h1] at e
      cases e
      obtain ⟨v, hv, rv⟩ := r.getD h1
      refine ⟨v, ?_, rv⟩
      rw [List.getElem?_append_left (by simp; omega), List.getElem?_map, hv]
      rfl
  · rw [List.getElem?_append_right (by simpa using hi), List.getElem?_replicate] at e
    split at e <;> cases e
/-- THE RULE for a def -/
theorem fn_ok {x qual : Str} {st : Stmt} {f : Addr} {fd : FuncData} {N ps : List Str} {k n : Nat} (b : SX) (F : Fun K x qual st f fd) (S : FnScope N ps (defScope st)) (hn : ps.length = n)
    (hb : ∀ (cdv : Value) (A : Around) (outer : List Env) (s : Shared) (H : Hp) (E : XK), Room k (A.deeper (envOfC qual (defScope st) s.heap.objs.size f cdv)) →
      DSs (cxOf (L2.CX P w) P w K mg base N qual (defScope st) f cdv A outer s H E) (fun c d _ H => E c d H) (defBody st) b) : FnOk P w K mg base (L2.CX P w) (k + 1) f fd ps (spD K mg n (fnD N.length b)) := by
  subst hn
  refine F.okX S (fun vs H Q E h => ?_) (fun cdv A outer s H vs Q E hr h => ⟨_, hb cdv A outer s H E hr, ?_⟩)
  · obtain ⟨α, C, ds, c, r, hl, _⟩ := h
    exact r.length.trans hl
  · obtain ⟨α, C, ds, c, r, hl, h⟩ := h
    refine ⟨α, C, _, c, start_SR r, ?_⟩
    unfold fnD at h
    cases ho : b (ds.map some ++ List.replicate (N.length - ds.length) none) C with
    | ok fl ρ' C' =>
      rw [ho] at h
      cases fl with
      | nx => exact fun α' H' σ' e' c' r' => h α' H' e' c' .non .non
      | rt d => exact fun α' H' σ' e' c' r' v rv => h α' H' e' c' v rv
      | bk => exact h.elim
      | ct => exact h.elim
    | err er ρ' C' =>
      rw [ho] at h
      exact fun cls d α' H' σ' e' c' r' q => h cls d α' H' e' c' q
    | bad => rw [ho] at h; exact h
/-- a promise for no arguments at all -/
theorem fn_bad {x qual : Str} {st : Stmt} {f : Addr} {fd : FuncData} {ps : List Str} {k n : Nat} : FnOk P w K mg base (L2.CX P w) k f fd ps (spD K mg n fun _ => bad) :=
  ⟨fun _ _ _ _ ⟨_, _, _, _, _, _, h⟩ => h.elim, fun _ _ _ _ _ _ _ _ _ _ _ _ _ ⟨_, _, _, _, _, _, h⟩ => h.elim⟩
/-- the same def, another function of the data that is at most as much defined -/
theorem fn_imp {f : Addr} {fd : FuncData} {ps : List Str} {k n : Nat} {g g' : List D → Mo D} (F : FnOk P w K mg base (L2.CX P w) k f fd ps (spD K mg n g)) (h : ∀ ds C, ds.length = n → g' ds C ≠ .bad → g ds C = g' ds C) : FnOk P w K mg base (L2.CX P w) k f fd ps (spD K mg n g') :=
  F.imp fun vs H Q E ⟨α, C, ds, c, r, hl, q⟩ => ⟨α, C, ds, c, r, hl, by
    rw [h ds C hl fun z => by rw [z] at q; exact q]
    exact q⟩
end

/-! ### calls of defs -/
/-- what leaves a callee is taken here -/
def Tk (X : Cx) (W : WX) : Prop := ∀ σ, PassesAt (L2.CX X.prog X.w) X σ (WE W σ)
theorem tk_of {X : Cx} {W : WX} (t : Takes X W) : Tk X W := fun σ => passAt t σ
abbrev W0 : WX := fun _ _ _ _ => False
theorem tk0 {X : Cx} : Tk X W0 := fun σ pins H s e s' I h => by
  obtain ⟨_, _, _, _, _, _, _, _, _, _, _, _, z⟩ := h
  exact z.elim
def xCall (n : Nat) (g : List D → Mo D) (fa : AX) : EX := fun ρ => bnd (fa ρ) fun ds => if ds.length = n then g ds else bad
section
variable {X : Cx} {W : WX} {k n : Nat} {f : Addr} {fd : FuncData} {ps : List Str} {g : List D → Mo D} {x : Str} {p pos : Pos} {e : Expr} {es : List Expr} {fa : AX} {σ : St} {H : Hp} {Q : VK}
theorem tD_call (h : tD X W (xCall n g fa) σ H Q) : tDA X W fa σ H fun vs H1 => spD X.K X.mg n g vs H1 Q (WE W σ) := by
  obtain ⟨α, C, ρ, c, r, h⟩ := h
  refine ⟨α, C, ρ, c, r, (WpO.bnd c h).mono fun α1 H1 C1 ds e1 c1 h1 vs rv => ?_⟩
  by_cases hl : ds.length = n
  · rw [if_pos hl] at h1
    exact ⟨α1, C1, ds, c1, rv, hl, h1⟩
  · rw [if_neg hl] at h1
    exact h1.elim
theorem de_call (F : FnOk X.prog X.w X.K X.mg X.base (L2.CX X.prog X.w) k f fd ps (spD X.K X.mg n g)) (hr : Room k X.A) (hm : X.mg x = some (.ref f)) (hk : PySem.W.keepIn X.K (.ref f) = true) (hb : Binds X.K fd ps []) (tk : Tk X W)
    (ha : DA X W (e :: es) fa) (hg : Gl X x := by rfl) (hdb : (x == ("__debug__" : Str)) = false := by decide) (he : starEach (e :: es) X.env = (false, eval e X.env) :: starEach es X.env := by rfl) (hpl : (backTo pos (starEach es X.env)).any (·.1) = false := by rfl) :
    DE X W (.Call (.Name x p) (e :: es) [] pos) (xCall n g fa) := peImp (pe_callS F hr hg hm hk hb tk ha hdb he hpl) fun σ H Q h => tD_call h
end
end DL

/-! DL4: the operations on data. -/
namespace DL
open PySem L2
/-! ### equality -/
mutual
def toPy : D → PyData
  | .non => .none
  | .bl b => .bool b
  | .int i => .int i
  | .str x => .str x
  | .tup ds => .tuple (toPys ds)
  | .lst ds => .list (toPys ds)
  | _ => .dict []
def toPys : List D → List PyData
  | [] => []
  | d :: ds => toPy d :: toPys ds
end
mutual
/-- data that == goes over: no dict, no cell within, not deep -/
def okD : Nat → D → Bool
  | _, .non => true
  | _, .bl _ => true
  | _, .int _ => true
  | _, .str x => PyData.canLay0 (.str x)
  | n + 1, .tup ds => okL n ds
  | n + 1, .lst ds => okL n ds
  | _, _ => false
def okL : Nat → List D → Bool
  | _, [] => true
  | n, d :: ds => okD n d && okL n ds
end
def eqD (x y : D) : Bool := PyData.eqv (toPy x) (toPy y)
def eqL (xs ys : List D) : Bool := PyData.eqvAll (toPys xs) (toPys ys)
mutual
theorem okD_lay : ∀ (n : Nat) (d : D), okD n d = true → (toPy d).canLay0 = true ∧ (toPy d).depth ≤ n
  | _, .non, _ => ⟨rfl, Nat.zero_le _⟩
  | _, .bl _, _ => ⟨rfl, Nat.zero_le _⟩
  | _, .int _, _ => ⟨rfl, Nat.zero_le _⟩
  | n, .str x, h => ⟨by cases n <;> exact h, Nat.zero_le _⟩
  | n + 1, .tup ds, h => by
    obtain ⟨a, b⟩ := okL_lay n ds h
    exact ⟨a, Nat.succ_le_succ b⟩
  | n + 1, .lst ds, h => by
    obtain ⟨a, b⟩ := okL_lay n ds h
    exact ⟨a, Nat.succ_le_succ b⟩
  | 0, .tup ds, h => by cases h
  | 0, .lst ds, h => by cases h
  | n, .dct _ _, h => by cases n <;> cases h
  | n, .hnd _, h => by cases n <;> cases h
  | n, .ref _, h => by cases n <;> cases h
  | n, .ty _, h => by cases n <;> cases h
  | n, .scr _, h => by cases n <;> cases h
  | n, .ktp _, h => by cases n <;> cases h
theorem okL_lay : ∀ (n : Nat) (ds : List D), okL n ds = true → PyData.canLayAll0 (toPys ds) = true ∧ PyData.depthAll (toPys ds) ≤ n
  | _, [], _ => ⟨rfl, Nat.zero_le _⟩
  | n, d :: ds, h => by
    have h' := Bool.and_eq_true_iff.mp (show (okD n d && okL n ds) = true from h)
    obtain ⟨a, b⟩ := okD_lay n d h'.1
    obtain ⟨a', b'⟩ := okL_lay n ds h'.2
    exact ⟨by show ((toPy d).canLay0 && PyData.canLayAll0 (toPys ds)) = true; rw [a, a']; rfl, Nat.max_le.mpr ⟨b, b'⟩⟩
end
section
variable {K : PySem.W.Frag} {α : Al} {H : Hp} {C : Cells}
mutual
theorem VR.dp : ∀ {n : Nat} {v : V} {d : D}, VR K α H v d → okD n d = true → Dp K H v (toPy d)
  | _, _, _, .non, _ => .non
  | _, _, _, .bl b, _ => .bl b
  | _, _, _, .int i, _ => .int i
  | _, _, _, .str x, _ => .str x
  | n + 1, _, _, .tup h _ r, ok => .tup (SqT.of h) (VRs.dp (n := n) r ok)
  | n + 1, _, _, .lst h _ _ r, ok => .lst (SqL.of h) (VRs.dp (n := n) r ok)
  | 0, _, _, .tup h _ r, ok => by cases ok
  | 0, _, _, .lst h _ _ r, ok => by cases ok
  | n, _, _, .dctK _ _ _ _, ok => by cases n <;> cases ok
  | n, _, _, .dctT _ _ _ _, ok => by cases n <;> cases ok
  | n, _, _, .hnd _, ok => by cases n <;> cases ok
  | n, _, _, .ref _, ok => by cases n <;> cases ok
  | n, _, _, .ty _, ok => by cases n <;> cases ok
  | n, _, _, .scr _ _ _, ok => by cases n <;> cases ok
  | n, _, _, .ktp _ _ _, ok => by cases n <;> cases ok
theorem VRs.dp : ∀ {n : Nat} {vs : List V} {ds : List D}, VRs K α H vs ds → okL n ds = true → DpAll K H vs (toPys ds)
  | _, _, _, .nil, _ => .nil
  | n, _, d :: ds, .cons h t, ok => .cons (VR.dp h (Bool.and_eq_true_iff.mp (show (okD n d && okL n ds) = true from ok)).1) (VRs.dp t (Bool.and_eq_true_iff.mp (show (okD n d && okL n ds) = true from ok)).2)
end
/-- a cell's content, else the thing itself -/
def look (C : Cells) : D → D
  | .hnd k => match C[k]? with
    | some (.lst ds) => .lst ds
    | some (.dct ks vs) => .dct ks vs
    | none => .hnd k
  | d => d
/-- a list, be it a cell -/
theorem VR.asL {v : V} {d : D} {ds : List D} (c : CR K α H C) (r : VR K α H v d) (h : look C d = .lst ds) : ∃ a xs, v = .ref a ∧ H a = some (.lst xs) ∧ xs.length ≤ sizeLine ∧ VRs K α H xs ds := by
  cases r with
  | @lst a xs ds' h1 n z r => cases h; exact ⟨a, xs, rfl, h1, z, r⟩
  | @hnd k a hk =>
    unfold look at h
    cases hc : C[k]? with
    | none => simp only [hc] at h; cases h
    | some cl =>
      cases cl with
      | dct _ _ => simp only [hc] at h; cases h
      | lst ds' =>
        obtain ⟨xs, e1, z, r⟩ := c.at_ k _ _ hk hc
        simp only [hc] at h
        cases h
        exact ⟨a, xs, rfl, e1, z, r⟩
  | _ => cases h
theorem VR.asT {v : V} {d : D} {ds : List D} (c : CR K α H C) (r : VR K α H v d) (h : look C d = .tup ds) : ∃ a xs, v = .ref a ∧ H a = some (.tup xs) ∧ xs.length ≤ sizeLine ∧ VRs K α H xs ds := by
  cases r with
  | @tup a xs ds' h1 z r => cases h; exact ⟨a, xs, rfl, h1, z, r⟩
  | @hnd k a hk =>
    unfold look at h
    cases hc : C[k]? with
    | none => simp only [hc] at h; cases h
    | some cl => cases cl <;> (simp only [hc] at h; cases h)
  | _ => cases h
theorem VR.asI {v : V} {d : D} {i : Int} (r : VR K α H v d) (h : look C d = .int i) : v = .int i := by
  cases r with
  | int j => cases h; rfl
  | @hnd k a hk =>
    unfold look at h
    cases hc : C[k]? with
    | none => simp only [hc] at h; cases h
    | some cl => cases cl <;> (simp only [hc] at h; cases h)
  | _ => cases h
theorem VR.asS {v : V} {d : D} {x : Str} (r : VR K α H v d) (h : look C d = .str x) : v = .str x := by
  cases r with
  | str j => cases h; rfl
  | @hnd k a hk =>
    unfold look at h
    cases hc : C[k]? with
    | none => simp only [hc] at h; cases h
    | some cl => cases cl <;> (simp only [hc] at h; cases h)
  | _ => cases h
theorem VR.asB {v : V} {d : D} {b : Bool} (r : VR K α H v d) (h : look C d = .bl b) : v = .bl b := by
  cases r with
  | bl j => cases h; rfl
  | @hnd k a hk =>
    unfold look at h
    cases hc : C[k]? with
    | none => simp only [hc] at h; cases h
    | some cl => cases cl <;> (simp only [hc] at h; cases h)
  | _ => cases h
theorem VR.asDp {v : V} {d : D} {n : Nat} (c : CR K α H C) (r : VR K α H v d) (h : okD n (look C d) = true) : Dp K H v (toPy (look C d)) := by
  cases r with
  | @hnd k a hk =>
    unfold look at h ⊢
    cases hc : C[k]? with
    | none => simp only [hc] at h; cases n <;> cases h
    | some cl =>
      cases cl with
      | dct _ _ => simp only [hc] at h; cases n <;> cases h
      | lst ds' =>
        obtain ⟨xs, e1, z, r⟩ := c.at_ k _ _ hk hc
        simp only [hc] at h ⊢
        cases n with
        | zero => cases h
        | succ n => exact .lst (SqL.of e1) (r.dp (n := n) h)
  | non => exact .non
  | bl b => exact .bl b
  | int b => exact .int b
  | str b => exact .str b
  | tup a b c => exact VR.dp (n := n) (.tup a b c) h
  | lst a b c d => exact VR.dp (n := n) (.lst a b c d) h
  | dctK a b c d => cases n <;> cases h
  | dctT a b c d => cases n <;> cases h
  | ref a => cases n <;> cases h
  | ty a => cases n <;> cases h
  | scr a b c => cases n <;> cases h
  | ktp a b c => cases n <;> cases h
end
def okQ (d : D) : Bool := okD 60 d
def oEq : Op2 := fun C x y => if okQ (look C x) && okQ (look C y) then some (.bl (eqD (look C x) (look C y))) else none
def oNe : Op2 := fun C x y => if okQ (look C x) && okQ (look C y) then some (.bl (!eqD (look C x) (look C y))) else none
theorem shaped_of {d : D} (h : okQ d = true) : SeqAt.shaped (toPy d) = true := by
  obtain ⟨a, b⟩ := okD_lay 60 d h
  show ((toPy d).canLay0 && decide ((toPy d).depth ≤ 64)) = true
  rw [a, decide_eq_true (Nat.le_trans b (by decide))]
  rfl
section
variable {X : Cx}
theorem r_eq (hu : X.A.units + 64 < cLine) : OpR X (compareOp .Eq) (rD2 X.K oEq) := opImp (op_eqD hu) fun x y H Q ⟨α, C, dx, dy, dz, c, rx, ry, h, ans⟩ => by
  unfold oEq at h
  split at h
  · rename_i hk
    obtain ⟨h1, h2⟩ := Bool.and_eq_true_iff.mp hk
    cases h
    exact ⟨_, _, rx.asDp c h1, ry.asDp c h2, shaped_of h1, shaped_of h2, ans.here c (.bl _)⟩
  · cases h
theorem r_ne (hu : X.A.units + 64 < cLine) : OpR X (compareOp .NotEq) (rD2 X.K oNe) := opImp (op_neD hu) fun x y H Q ⟨α, C, dx, dy, dz, c, rx, ry, h, ans⟩ => by
  unfold oNe at h
  split at h
  · rename_i hk
    obtain ⟨h1, h2⟩ := Bool.and_eq_true_iff.mp hk
    cases h
    exact ⟨_, _, rx.asDp c h1, ry.asDp c h2, shaped_of h1, shaped_of h2, ans.here c (.bl _)⟩
  · cases h

/-! ### numbers -/
def oI2 (p : Int → Int → Option D) : Op2 := fun _ x y => match x, y with
  | .int i, .int j => p i j
  | _, _ => none
theorem oI2_some {p : Int → Int → Option D} {C : Cells} {x y z : D} (h : oI2 p C x y = some z) : ∃ i j, x = .int i ∧ y = .int j ∧ p i j = some z := by
  unfold oI2 at h
  split at h
  · exact ⟨_, _, rfl, rfl, h⟩
  · cases h
theorem VR.intInv {K : PySem.W.Frag} {α : Al} {H : Hp} {v : V} {i : Int} (r : VR K α H v (.int i)) : v = .int i := by cases r; rfl
theorem rI0_of {f : Value → Value → Sem Value} {g : Int → Int → V} {p : Int → Int → Option D} (h : OpR X f (rI0 g)) (hp : ∀ i j z, p i j = some z → (∃ k, g i j = .int k ∧ z = .int k) ∨ (∃ k, g i j = .bl k ∧ z = .bl k)) : OpR X f (rD2 X.K (oI2 p)) :=
  opImp h fun x y H Q ⟨α, C, dx, dy, dz, c, rx, ry, h, ans⟩ => by
    obtain ⟨i, j, rfl, rfl, h⟩ := oI2_some h
    refine ⟨i, j, rx.intInv, ry.intInv, ?_⟩
    rcases hp i j dz h with ⟨k, e1, e2⟩ | ⟨k, e1, e2⟩
    · rw [e1]; subst e2; exact ans.here c (.int k)
    · rw [e1]; subst e2; exact ans.here c (.bl k)
theorem rI_of {f : Value → Value → Sem Value} {g : Int → Int → V} {CC : Int → Int → Prop} {p : Int → Int → Option D} (h : OpR X f (rI CC g)) (hp : ∀ i j z, p i j = some z → CC i j ∧ ∃ k, g i j = .int k ∧ z = .int k) : OpR X f (rD2 X.K (oI2 p)) :=
  opImp h fun x y H Q ⟨α, C, dx, dy, dz, c, rx, ry, h, ans⟩ => by
    obtain ⟨i, j, rfl, rfl, h⟩ := oI2_some h
    obtain ⟨hc, k, e1, e2⟩ := hp i j dz h
    refine ⟨i, j, rx.intInv, ry.intInv, hc, ?_⟩
    rw [e1]; subst e2; exact ans.here c (.int k)
def oLt : Op2 := oI2 fun i j => some (.bl (decide (i < j)))
def oLe : Op2 := oI2 fun i j => some (.bl (decide (i ≤ j)))
def oGt : Op2 := oI2 fun i j => some (.bl (decide (j < i)))
def oGe : Op2 := oI2 fun i j => some (.bl (decide (j ≤ i)))
theorem r_lt : OpR X (compareOp .Lt) (rD2 X.K oLt) := rI0_of op_lt fun i j z h => .inr ⟨_, rfl, (Option.some.inj h).symm⟩
theorem r_le : OpR X (compareOp .LtE) (rD2 X.K oLe) := rI0_of op_le fun i j z h => .inr ⟨_, rfl, (Option.some.inj h).symm⟩
theorem r_gt : OpR X (compareOp .Gt) (rD2 X.K oGt) := rI0_of op_gt fun i j z h => .inr ⟨_, rfl, (Option.some.inj h).symm⟩
theorem r_ge : OpR X (compareOp .GtE) (rD2 X.K oGe) := rI0_of op_ge fun i j z h => .inr ⟨_, rfl, (Option.some.inj h).symm⟩
def oSub : Op2 := oI2 fun i j => some (.int (i - j))
theorem r_sub : OpR X (binaryOp .Sub) (rD2 X.K oSub) := rI0_of op_sub fun i j z h => .inl ⟨_, rfl, (Option.some.inj h).symm⟩
instance (i j : Int) : Decidable (CMul i j) := by unfold CMul; infer_instance
instance (i j : Int) : Decidable (CPow i j) := by unfold CPow; infer_instance
def oMod : Op2 := oI2 fun i j => if 0 < j then some (.int (i % j)) else none
theorem r_mod : OpR X (binaryOp .Mod) (rD2 X.K oMod) := rI_of op_mod fun i j z h => by
  by_cases hc : 0 < j
  · rw [if_pos hc] at h; exact ⟨hc, _, rfl, (Option.some.inj h).symm⟩
  · rw [if_neg hc] at h; cases h
def oFdv : Op2 := oI2 fun i j => if 0 < j ∧ j < 1073741824 then some (.int (i / j)) else none
theorem r_fdv : OpR X (binaryOp .FloorDiv) (rD2 X.K oFdv) := rI_of op_fdiv fun i j z h => by
  by_cases hc : 0 < j ∧ j < 1073741824
  · rw [if_pos hc] at h; exact ⟨hc, _, rfl, (Option.some.inj h).symm⟩
  · rw [if_neg hc] at h; cases h
def oPow : Op2 := oI2 fun i j => if CPow i j then some (.int (i ^ j.toNat)) else none
theorem r_pow : OpR X (binaryOp .Pow) (rD2 X.K oPow) := rI_of op_pow fun i j z h => by
  by_cases hc : CPow i j
  · rw [if_pos hc] at h; exact ⟨hc, _, rfl, (Option.some.inj h).symm⟩
  · rw [if_neg hc] at h; cases h
def oNeg : Op1 := fun _ x => match x with
  | .int i => some (.int (-i))
  | _ => none
theorem r_neg : UnR X (unaryOp .USub) (rD1 X.K oNeg) := unImp un_neg fun x H Q ⟨α, C, dx, dz, c, rx, h, ans⟩ => by
  cases dx with
  | int i => cases h; exact ⟨i, rx.intInv, ans.here c (.int _)⟩
  | _ => cases h

/-! ### +, * : numbers, texts, lists, tuples -/
def oAdd : Op2 := fun C x y => match look C x, look C y with
  | .int i, .int j => some (.int (i + j))
  | .str a, .str b => if a.length + b.length ≤ sizeLine then some (.str (a ++ b)) else none
  | .tup a, .tup b => if a.length + b.length ≤ sizeLine then some (.tup (a ++ b)) else none
  | .lst a, .lst b => if a.length + b.length ≤ sizeLine then some (.lst (a ++ b)) else none
  | _, _ => none
theorem vrNew {K : PySem.W.Frag} {α : Al} {H : Hp} {C : Cells} (c : CR K α H C) {p : Addr} {xs : List V} {ds : List D} (hp : H p = none) (hl : xs.length ≤ sizeLine) (r : VRs K α H xs ds) : VR K α (upd H p (.lst xs)) (.ref p) (.lst ds) :=
  .lst upd_same (c.notin_of_none hp) hl (r.ext c (Ext.new c hp))
theorem vrNewT {K : PySem.W.Frag} {α : Al} {H : Hp} {C : Cells} (c : CR K α H C) {p : Addr} {xs : List V} {ds : List D} (hp : H p = none) (hl : xs.length ≤ sizeLine) (r : VRs K α H xs ds) : VR K α (upd H p (.tup xs)) (.ref p) (.tup ds) :=
  .tup upd_same hl (r.ext c (Ext.new c hp))
theorem r_add : OpR X (binaryOp .Add) (rD2 X.K oAdd) := by
  refine opImp ((op_add (X := X)).or (op_add_str.or (op_catA.or op_cat))) fun x y H Q ⟨α, C, dx, dy, dz, c, rx, ry, h, ans⟩ => ?_
  unfold oAdd at h
  split at h
  · rename_i i j h1 h2
    cases h
    exact .inl ⟨i, j, rx.asI h1, ry.asI h2, ans.here c (.int _)⟩
  · rename_i a b h1 h2
    split at h
    · rename_i hl
      cases h
      exact .inr (.inl ⟨a, b, rx.asS h1, ry.asS h2, hl, ans.here c (.str _)⟩)
    · cases h
  · rename_i as bs h1 h2
    split at h
    · rename_i hl
      cases h
      obtain ⟨a, xs, rfl, ha, za, ra⟩ := rx.asT c h1
      obtain ⟨b, ys, rfl, hb, zb, rb⟩ := ry.asT c h2
      have l1 := ra.length
      have l2 := rb.length
      refine .inr (.inr (.inl ⟨a, b, xs, ys, rfl, rfl, SqT.of ha, SqT.of hb, by omega, fun e => ?_, fun e e' => ?_, fun e e' p hp => ?_⟩))
      · subst e
        cases ra
        exact ans.here c (.tup hb zb rb)
      · subst e'
        cases rb
        rw [List.append_nil] at ans
        exact ans.here c (.tup ha za ra)
      · exact ans.new c hp (vrNewT c hp (by rw [List.length_append]; omega) (ra.append rb))
    · cases h
  · rename_i as bs h1 h2
    split at h
    · rename_i hl
      cases h
      obtain ⟨a, xs, rfl, ha, za, ra⟩ := rx.asL c h1
      obtain ⟨b, ys, rfl, hb, zb, rb⟩ := ry.asL c h2
      have l1 := ra.length
      have l2 := rb.length
      exact .inr (.inr (.inr ⟨_, _, xs, ys, rfl, rfl, ha, hb, by omega, fun p hp => ans.new c hp (vrNew c hp (by rw [List.length_append]; omega) (ra.append rb))⟩))
    · cases h
  · cases h
end
end DL

/-! DL5: places, slices, built-ins, displays, methods, what is walked, comprehensions. -/
namespace DL
open PySem L2
section
variable {X : Cx} {W : WX} {a b c e : Expr} {es : List Expr} {f g : EX} {fa : AX} {pos : Pos} {σ : St} {H : Hp} {Q : VK}
/-! ### * -/
def oMul : Op2 := fun C x y => match look C x, look C y with
  | .int i, .int j => if CMul i j then some (.int (i * j)) else none
  | .lst a, .int k => if 0 ≤ k ∧ k < 1000 ∧ a.length * k.toNat ≤ sizeLine then some (.lst (List.replicate k.toNat a).flatten) else none
  | _, _ => none
theorem VRs.rep {K : PySem.W.Frag} {α : Al} {H : Hp} {xs : List V} {ds : List D} (r : VRs K α H xs ds) : ∀ k : Nat, VRs K α H (List.replicate k xs).flatten (List.replicate k ds).flatten
  | 0 => .nil
  | k + 1 => by
    rw [List.replicate_succ, List.replicate_succ, List.flatten_cons, List.flatten_cons]
    exact r.append (VRs.rep r k)
theorem r_mul : OpR X (binaryOp .Mult) (rD2 X.K oMul) := by
  refine opImp ((op_mul (X := X)).or op_rep) fun x y H Q ⟨α, C, dx, dy, dz, c, rx, ry, h, ans⟩ => ?_
  unfold oMul at h
  split at h
  · rename_i i j h1 h2
    split at h
    · rename_i hl
      cases h
      exact .inl ⟨i, j, rx.asI h1, ry.asI h2, hl, ans.here c (.int _)⟩
    · cases h
  · rename_i as k h1 h2
    split at h
    · rename_i hl
      cases h
      obtain ⟨a, xs, rfl, ha, za, ra⟩ := rx.asL c h1
      have l1 := ra.length
      refine .inr ⟨a, k, xs, rfl, ry.asI h2, ha, by omega, by omega, by rw [l1]; exact hl.2.2, fun p hp => ans.new c hp (vrNew c hp ?_ (ra.rep _))⟩
      rw [List.length_flatten, List.map_replicate, List.sum_replicate_nat, l1, Nat.mul_comm]
      exact hl.2.2
    · cases h
  · cases h

/-! ### o[i] -/
/-- what has items: the script, a list, a tuple -/
def seqOf : D → Option (List D)
  | .tup ds => some ds
  | .lst ds => some ds
  | .scr ds => some ds
  | _ => none
def oIx : Op2 := fun C x y => match y with
  | .int i => match look C x with
    | .tup ds => atI ds i
    | .lst ds => atI ds i
    | .scr ds => atI ds i
    | .ktp ds => atI ds i
    | .str s => if s.length ≤ sizeLine then (atI s.cps.toList i).map fun c => .str ⟨#[c]⟩ else none
    | _ => none
  | _ => none
theorem VRs.atI {K : PySem.W.Frag} {α : Al} {H : Hp} {xs : List V} {ds : List D} (r : VRs K α H xs ds) {i : Int} {d : D} (h : L2.atI ds i = some d) : ∃ v, L2.atI xs i = some v ∧ VR K α H v d := by
  unfold L2.atI at h ⊢
  rw [r.length]
  cases hn : ixN ds.length i with
  | none => rw [hn] at h; cases h
  | some j =>
    rw [hn] at h
    exact r.getD h
theorem VR.asScr {K : PySem.W.Frag} {α : Al} {C : Cells} {v : V} {d : D} {ds : List D} (r : VR K α H v d) (h : look C d = .scr ds) : ∃ a xs, v = .ref a ∧ SqL K H a xs ∧ xs.length ≤ sizeLine ∧ VRs K α H xs ds := by
  cases r with
  | @scr a xs ds' h1 z r => cases h; exact ⟨a, xs, rfl, h1.sq, z, r⟩
  | @hnd k a hk =>
    unfold look at h
    cases hc : C[k]? with
    | none => simp only [hc] at h; cases h
    | some cl => cases cl <;> (simp only [hc] at h; cases h)
  | _ => cases h
theorem VR.asK {K : PySem.W.Frag} {α : Al} {C : Cells} {v : V} {d : D} {ds : List D} (r : VR K α H v d) (h : look C d = .ktp ds) : ∃ a xs, v = .ref a ∧ SqT K H a xs ∧ xs.length ≤ sizeLine ∧ VRs K α H xs ds := by
  cases r with
  | @ktp a xs ds' h1 z r => cases h; exact ⟨a, xs, rfl, h1, z, r⟩
  | @hnd k a hk =>
    unfold look at h
    cases hc : C[k]? with
    | none => simp only [hc] at h; cases h
    | some cl => cases cl <;> (simp only [hc] at h; cases h)
  | _ => cases h
theorem r_ix : IxR X (rD2 X.K oIx) := ixImp (ix_list.or (ix_tup.or ix_str)) fun x y H Q ⟨α, C, dx, dy, dz, c, rx, ry, h, ans⟩ => by
  unfold oIx at h
  cases dy with
  | int i =>
    have ey := ry.intInv
    subst ey
    dsimp only at h
    split at h
    · rename_i ds hl
      obtain ⟨a, xs, rfl, ha, za, ra⟩ := rx.asT c hl
      obtain ⟨v, hv, rv⟩ := ra.atI h
      exact .inr (.inl ⟨a, xs, i, v, rfl, rfl, SqT.of ha, hv, ans.here c rv⟩)
    · rename_i ds hl
      obtain ⟨a, xs, rfl, ha, za, ra⟩ := rx.asL c hl
      obtain ⟨v, hv, rv⟩ := ra.atI h
      exact .inl ⟨a, xs, i, v, rfl, rfl, SqL.of ha, hv, ans.here c rv⟩
    · rename_i ds hl
      obtain ⟨a, xs, rfl, ha, za, ra⟩ := rx.asScr hl
      obtain ⟨v, hv, rv⟩ := ra.atI h
      exact .inl ⟨a, xs, i, v, rfl, rfl, ha, hv, ans.here c rv⟩
    · rename_i ds hl
      obtain ⟨a, xs, rfl, ha, za, ra⟩ := rx.asK hl
      obtain ⟨v, hv, rv⟩ := ra.atI h
      exact .inr (.inl ⟨a, xs, i, v, rfl, rfl, ha, hv, ans.here c rv⟩)
    · rename_i s hl
      split at h
      · rename_i hz
        obtain ⟨ch, h1, h2⟩ := Option.map_eq_some_iff.mp h
        subst h2
        exact .inr (.inr ⟨s, i, ch, rx.asS hl, rfl, hz, h1, ans.here c (.str _)⟩)
      · cases h
    · cases h
  | _ => cases h

/-! ### o[i:j] -/
def cutL {β : Type} (xs : List β) (lo hi : Option Int) : List β := (xs.drop (HT.sIx xs.length 0 lo)).take (HT.sIx xs.length xs.length hi - HT.sIx xs.length 0 lo)
theorem VRs.cut {K : PySem.W.Frag} {α : Al} {H : Hp} {xs : List V} {ds : List D} (r : VRs K α H xs ds) (lo hi : Option Int) : VRs K α H (cutV xs lo hi) (cutL ds lo hi) := by
  unfold cutV cutL
  rw [r.length]
  exact (r.drop _).take _
abbrev OX := Ro → Mo (Option Int)
def tDO (X : Cx) (W : WX) (f : OX) : TO := fun σ H Q => ∃ α C ρ, CR X.K α H C ∧ SR X.K α σ H ρ ∧
  WpO X.K X.mg α H (fun α' H' _ x => Q x H') (fun c d H' => W c d σ H') (f ρ C)
abbrev DO (X : Cx) (W : WX) (e : Option Expr) (f : OX) : Prop := PO X e (tDO X W f)
theorem poImp {e : Option Expr} {t t' : TO} (h : PO X e t) (i : ∀ σ H Q, t' σ H Q → t σ H Q) : PO X e t' := ⟨fun pins s σ H Q I q => h.run pins s σ H Q I (i σ H Q q)⟩
def oN : OX := fun _ => ret none
def oS (f : EX) : OX := fun ρ => bnd (f ρ) fun x => lft fun _ => match x with
  | .int i => some (some i)
  | _ => none
theorem do_none : DO X W none oN := poImp po_none fun σ H Q ⟨α, C, ρ, c, r, h⟩ => WpO.ret c h
theorem do_some (h : DE X W e f) : DO X W (some e) (oS f) := poImp (po_some h) fun σ H Q ⟨α, C, ρ, c, r, h⟩ => by
  refine ⟨α, C, ρ, c, r, (WpO.bnd c h).mono fun α1 H1 C1 x e1 c1 h1 v rv => ?_⟩
  obtain ⟨z, hz, q⟩ := h1.lft
  cases x with
  | int i => cases hz; exact ⟨i, rv.intInv, q α1 H1 (Ext.refl _ _) c1⟩
  | _ => cases hz
def sl (C : Cells) (x : D) (lo hi : Option Int) : Option D := match look C x with
  | .tup ds => some (.tup (cutL ds lo hi))
  | .lst ds => some (.lst (cutL ds lo hi))
  | .scr ds => some (.lst (cutL ds lo hi))
  | _ => none
def xSl (f : EX) (lo hi : OX) : EX := fun ρ => bnd (f ρ) fun x => bnd (lo ρ) fun l => bnd (hi ρ) fun u => lft fun C => sl C x l u
theorem cutV_len (xs : List V) (lo hi : Option Int) (h : xs.length ≤ sizeLine) : (cutV xs lo hi).length ≤ sizeLine := Nat.le_trans (cutV_length xs lo hi) h
theorem cut_whole {β : Type} (xs : List β) (lo hi : Option Int) (h : HT.sIx xs.length 0 lo = 0 ∧ HT.sIx xs.length xs.length hi = xs.length) : cutL xs lo hi = xs := by
  unfold cutL
  rw [h.1, h.2]
  simp
theorem de_sl {lo hi : Option Expr} {fl fh : OX} {p2 : Pos} (he : DE X W e f) (hl : DO X W lo fl) (hh : DO X W hi fh) : DE X W (.Subscript e (.Slice lo hi none p2) pos) (xSl f fl fh) :=
  peImp (pe_slice (sl_tupA.or sl_list) he hl hh) fun σ H Q ⟨α, C, ρ, c, r, h⟩ => by
  refine ⟨α, C, ρ, c, r, (WpO.bnd c h).mono fun α1 H1 C1 x e1 c1 h1 v rv => ?_⟩
  refine ⟨α1, C1, ρ, c1, r.ext c e1, (WpO.bnd c1 h1).mono fun α2 H2 C2 l e2 c2 h2 => ?_⟩
  refine ⟨α2, C2, ρ, c2, (r.ext c e1).ext c1 e2, (WpO.bnd c2 h2).mono fun α3 H3 C3 u e3 c3 h3 => ?_⟩
  obtain ⟨z, hz, q⟩ := h3.lft
  have ans : Ans X.K α3 H3 C3 Q z := q
  have rv3 := (rv.ext c1 e2).ext c2 e3
  unfold sl at hz
  split at hz
  · rename_i ds hl
    cases hz
    obtain ⟨a, xs, rfl, ha, za, ra⟩ := rv3.asT c3 hl
    refine .inl ⟨a, xs, rfl, SqT.of ha, fun hw => ?_, fun hw p hp => ans.new c3 hp (vrNewT c3 hp (cutV_len _ _ _ za) (ra.cut l u))⟩
    rw [ra.length] at hw
    rw [cut_whole _ _ _ hw] at ans
    exact ans.here c3 (.tup ha za ra)
  · rename_i ds hl
    cases hz
    obtain ⟨a, xs, rfl, ha, za, ra⟩ := rv3.asL c3 hl
    exact .inr ⟨a, xs, rfl, SqL.of ha, fun p hp => ans.new c3 hp (vrNew c3 hp (cutV_len _ _ _ za) (ra.cut l u))⟩
  · rename_i ds hl
    cases hz
    obtain ⟨a, xs, rfl, ha, za, ra⟩ := rv3.asScr hl
    exact .inr ⟨a, xs, rfl, ha, fun p hp => ans.new c3 hp (vrNew c3 hp (cutV_len _ _ _ za) (ra.cut l u))⟩
  · cases hz

/-! ### displays -/
theorem de_tup {x1 : Nat} (h : DA X W es fa) (hl : ∀ ρ C xs C', fa ρ C = .ok (xs, C') → xs.length ≤ sizeLine) : DE X W (.Tuple es x1 pos) (xN (fun _ xs => some (.tup xs)) fa) := peImp (pe_tup h) fun σ H Q h => by
  obtain ⟨α, C, ρ, c, r, h⟩ := h
  have h0 := WpO.bnd c h
  refine ⟨α, C, ρ, c, r, ?_⟩
  cases hf : fa ρ C with
  | bad => rw [hf] at h0; exact h0
  | err er C1 => rw [hf] at h0; exact h0
  | ok p =>
    obtain ⟨xs, C1⟩ := p
    rw [hf] at h0
    intro α1 H1 e1 c1 vs rv
    obtain ⟨z, hz, q⟩ := (h0 α1 H1 e1 c1).lft
    cases hz
    have hlen : vs.length ≤ sizeLine := by rw [rv.length]; exact hl ρ C xs C1 hf
    exact ⟨hlen, fun p hp => Ans.new (C := C1) q c1 hp (vrNewT c1 hp hlen rv)⟩
theorem de_lst (h : DA X W es fa) (hl : ∀ ρ C xs C', fa ρ C = .ok (xs, C') → xs.length ≤ sizeLine) : DE X W (.List es pos) (xN (fun _ xs => some (.lst xs)) fa) := peImp (pe_lst h) fun σ H Q h => by
  obtain ⟨α, C, ρ, c, r, h⟩ := h
  have h0 := WpO.bnd c h
  refine ⟨α, C, ρ, c, r, ?_⟩
  cases hf : fa ρ C with
  | bad => rw [hf] at h0; exact h0
  | err er C1 => rw [hf] at h0; exact h0
  | ok p =>
    obtain ⟨xs, C1⟩ := p
    rw [hf] at h0
    intro α1 H1 e1 c1 vs rv
    obtain ⟨z, hz, q⟩ := (h0 α1 H1 e1 c1).lft
    cases hz
    have hlen : vs.length ≤ sizeLine := by rw [rv.length]; exact hl ρ C xs C1 hf
    exact ⟨hlen, fun p hp => Ans.new (C := C1) q c1 hp (vrNew c1 hp hlen rv)⟩
/-- a display that makes a cell -/
def xCell (fa : AX) : EX := fun ρ => bnd (fa ρ) fun xs C => .ok (.hnd C.length, C ++ [.lst xs])
theorem de_cell (h : DA X W es fa) (hl : ∀ ρ C xs C', fa ρ C = .ok (xs, C') → xs.length ≤ sizeLine) : DE X W (.List es pos) (xCell fa) := peImp (pe_lst h) fun σ H Q h => by
  obtain ⟨α, C, ρ, c, r, h⟩ := h
  have h0 := WpO.bnd c h
  refine ⟨α, C, ρ, c, r, ?_⟩
  cases hf : fa ρ C with
  | bad => rw [hf] at h0; exact h0
  | err er C1 => rw [hf] at h0; exact h0
  | ok p =>
    obtain ⟨xs, C1⟩ := p
    rw [hf] at h0
    intro α1 H1 e1 c1 vs rv
    have q := h0 α1 H1 e1 c1
    have hlen : vs.length ≤ sizeLine := by rw [rv.length]; exact hl ρ C xs C1 hf
    refine ⟨hlen, fun p hp => ?_⟩
    have ex := Ext.newCell (o := .lst vs) c1 hp
    have cn : CR X.K (α1.push p) (upd H1 p (.lst vs)) (C1 ++ [.lst xs]) := c1.newCell hp ⟨vs, upd_same, hlen, rv.ext c1 ex⟩
    exact q (α1.push p) _ ex cn (.ref p) (.hnd (by rw [← c1.len]; simp))
/-- an argument list of a known length -/
def lenA : List Expr → Nat := List.length
theorem aNil_len {ρ : Ro} {C C' : Cells} {xs : List D} (h : aNil ρ C = .ok (xs, C')) : xs.length = 0 := by cases h; rfl
theorem aCons_len {f : EX} {fa : AX} {n : Nat} (ih : ∀ ρ C xs C', fa ρ C = .ok (xs, C') → xs.length = n) {ρ : Ro} {C C' : Cells} {xs : List D} (h : aCons f fa ρ C = .ok (xs, C')) : xs.length = n + 1 := by
  unfold aCons bnd at h
  cases h1 : f ρ C with
  | ok p =>
    obtain ⟨x, C1⟩ := p
    rw [h1] at h
    dsimp only at h
    cases h2 : fa ρ C1 with
    | ok p2 =>
      obtain ⟨ys, C2⟩ := p2
      rw [h2] at h
      cases h
      rw [List.length_cons, ih _ _ _ _ h2]
    | err _ _ => rw [h2] at h; cases h
    | bad => rw [h2] at h; cases h
  | err _ _ => rw [h1] at h; cases h
  | bad => rw [h1] at h; cases h

/-! ### built-ins -/
def oLen : OpN := fun C xs => match xs with
  | [x] => match look C x with
    | .tup ds => some (.int ds.length)
    | .lst ds => some (.int ds.length)
    | .scr ds => some (.int ds.length)
    | .ktp ds => some (.int ds.length)
    | .str s => if s.length ≤ sizeLine then some (.int s.length) else none
    | _ => none
  | _ => none
theorem vrs1 {K : PySem.W.Frag} {α : Al} {H : Hp} {xs : List V} {d : D} (r : VRs K α H xs [d]) : ∃ v, xs = [v] ∧ VR K α H v d := by
  cases r with
  | cons h t => cases t; exact ⟨_, rfl, h⟩
theorem vrs2 {K : PySem.W.Frag} {α : Al} {H : Hp} {xs : List V} {d d' : D} (r : VRs K α H xs [d, d']) : ∃ v v', xs = [v, v'] ∧ VR K α H v d ∧ VR K α H v' d' := by
  cases r with
  | cons h t =>
    obtain ⟨v', rfl, h'⟩ := vrs1 t
    exact ⟨_, _, rfl, h, h'⟩
theorem c_len : CallR X (.builtin "len") (rDN X.K oLen) := callImp (call_len_seq.or call_len_str) fun xs H Q ⟨α, C, ds, dz, c, r, h, ans⟩ => by
  unfold oLen at h
  split at h
  · rename_i x
    obtain ⟨v, rfl, rv⟩ := vrs1 r
    split at h
    · rename_i ds hl
      cases h
      obtain ⟨a, xs, rfl, ha, za, ra⟩ := rv.asT c hl
      rw [← ra.length] at ans
      exact .inl ⟨a, xs, rfl, .inr (SqT.of ha), ans.here c (.int _)⟩
    · rename_i ds hl
      cases h
      obtain ⟨a, xs, rfl, ha, za, ra⟩ := rv.asL c hl
      rw [← ra.length] at ans
      exact .inl ⟨a, xs, rfl, .inl (SqL.of ha), ans.here c (.int _)⟩
    · rename_i ds hl
      cases h
      obtain ⟨a, xs, rfl, ha, za, ra⟩ := rv.asScr hl
      rw [← ra.length] at ans
      exact .inl ⟨a, xs, rfl, .inl ha, ans.here c (.int _)⟩
    · rename_i ds hl
      cases h
      obtain ⟨a, xs, rfl, ha, za, ra⟩ := rv.asK hl
      rw [← ra.length] at ans
      exact .inl ⟨a, xs, rfl, .inr ha, ans.here c (.int _)⟩
    · rename_i s hl
      split at h
      · rename_i hz
        cases h
        exact .inr ⟨s, by rw [rv.asS hl], hz, ans.here c (.int _)⟩
      · cases h
    · cases h
  · cases h
def oInt : OpN := fun _ xs => match xs with
  | [.int i] => some (.int i)
  | [.bl k] => some (.int (if k then 1 else 0))
  | _ => none
theorem VR.blInv' {K : PySem.W.Frag} {α : Al} {H : Hp} {v : V} {k : Bool} (r : VR K α H v (.bl k)) : v = .bl k := by cases r; rfl
theorem c_int : CallR X (.type "int") (rDN X.K oInt) := callImp call_int1 fun xs H Q ⟨α, C, ds, dz, c, r, h, ans⟩ => by
  unfold oInt at h
  split at h
  · rename_i i
    cases h
    obtain ⟨v, rfl, rv⟩ := vrs1 r
    exact .inl ⟨i, by rw [rv.intInv], ans.here c (.int _)⟩
  · rename_i k
    cases h
    obtain ⟨v, rfl, rv⟩ := vrs1 r
    exact .inr ⟨k, by rw [rv.blInv], ans.here c (.int _)⟩
  · cases h
def oAbs : OpN := fun _ xs => match xs with
  | [.int i] => some (.int (if i < 0 then -i else i))
  | _ => none
theorem c_abs : CallR X (.builtin "abs") (rDN X.K oAbs) := callImp call_abs fun xs H Q ⟨α, C, ds, dz, c, r, h, ans⟩ => by
  unfold oAbs at h
  split at h
  · rename_i i
    cases h
    obtain ⟨v, rfl, rv⟩ := vrs1 r
    exact ⟨i, by rw [rv.intInv], ans.here c (.int _)⟩
  · cases h
def oMax2 : OpN := fun _ xs => match xs with
  | [.int i, .int j] => some (.int (if j > i then j else i))
  | _ => none
def oMin2 : OpN := fun _ xs => match xs with
  | [.int i, .int j] => some (.int (if j < i then j else i))
  | _ => none
theorem c_max2 (hc : X.calm = true) : CallR X (.builtin "max") (rDN X.K oMax2) := callImp (call_max2 hc) fun xs H Q ⟨α, C, ds, dz, c, r, h, ans⟩ => by
  unfold oMax2 at h
  split at h
  · rename_i i j
    cases h
    obtain ⟨v, v', rfl, rv, rv'⟩ := vrs2 r
    exact ⟨i, j, by rw [rv.intInv, rv'.intInv], ans.here c (.int _)⟩
  · cases h
theorem c_min2 (hc : X.calm = true) : CallR X (.builtin "min") (rDN X.K oMin2) := callImp (call_min2 hc) fun xs H Q ⟨α, C, ds, dz, c, r, h, ans⟩ => by
  unfold oMin2 at h
  split at h
  · rename_i i j
    cases h
    obtain ⟨v, v', rfl, rv, rv'⟩ := vrs2 r
    exact ⟨i, j, by rw [rv.intInv, rv'.intInv], ans.here c (.int _)⟩
  · cases h
def oStrI : OpN := fun _ xs => match xs with
  | [.int i] => if i.natAbs.log2 < 1920 then some (.str (Str.ofString (toString i))) else none
  | _ => none
theorem c_strI : CallR X (.type "str") (rDN X.K oStrI) := callImp call_str_int fun xs H Q ⟨α, C, ds, dz, c, r, h, ans⟩ => by
  unfold oStrI at h
  split at h
  · rename_i i
    split at h
    · rename_i hl
      cases h
      obtain ⟨v, rfl, rv⟩ := vrs1 r
      exact ⟨i, by rw [rv.intInv], hl, ans.here c (.str _)⟩
    · cases h
  · cases h
def oDivm : OpN := fun _ xs => match xs with
  | [.int i, .int j] => if 0 < j ∧ j < 1073741824 then some (.tup [.int (i / j), .int (i % j)]) else none
  | _ => none
theorem c_divm : CallR X (.builtin "divmod") (rDN X.K oDivm) := callImp call_divmod fun xs H Q ⟨α, C, ds, dz, c, r, h, ans⟩ => by
  unfold oDivm at h
  split at h
  · rename_i i j
    split at h
    · rename_i hl
      cases h
      obtain ⟨v, v', rfl, rv, rv'⟩ := vrs2 r
      exact ⟨i, j, by rw [rv.intInv, rv'.intInv], hl, fun p hp => ans.new c hp (vrNewT c hp (by show 2 ≤ sizeLine; decide) (.cons (.int _) (.cons (.int _) .nil)))⟩
    · cases h
  · cases h
/-- list(xs), tuple(xs) of what has items -/
def oList : OpN := fun C xs => match xs with
  | [x] => (seqOf (look C x)).map .lst
  | _ => none
def oTuple : OpN := fun C xs => match xs with
  | [x] => (seqOf (look C x)).map .tup
  | _ => none
theorem VR.asSeq {K : PySem.W.Frag} {α : Al} {C : Cells} {v : V} {d : D} {ds : List D} (c : CR K α H C) (r : VR K α H v d) (h : seqOf (look C d) = some ds) :
    ∃ a xs, v = .ref a ∧ ((SqL K H a xs ∧ ∀ es, look C d ≠ .tup es) ∨ (H a = some (.tup xs) ∧ look C d = .tup ds)) ∧ xs.length ≤ sizeLine ∧ VRs K α H xs ds := by
  cases hl : look C d with
  | tup es =>
    rw [hl] at h
    cases h
    obtain ⟨a, xs, e, ha, z, ra⟩ := r.asT c hl
    exact ⟨a, xs, e, .inr ⟨ha, rfl⟩, z, ra⟩
  | lst es =>
    rw [hl] at h
    cases h
    obtain ⟨a, xs, e, ha, z, ra⟩ := r.asL c hl
    exact ⟨a, xs, e, .inl ⟨SqL.of ha, fun _ z => by cases z⟩, z, ra⟩
  | scr es =>
    rw [hl] at h
    cases h
    obtain ⟨a, xs, e, ha, z, ra⟩ := r.asScr hl
    exact ⟨a, xs, e, .inl ⟨ha, fun _ z => by cases z⟩, z, ra⟩
  | _ => rw [hl] at h; cases h
theorem c_list : CallR X (.type "list") (rDN X.K oList) := callImp call_list_of fun xs H Q ⟨α, C, ds, dz, c, r, h, ans⟩ => by
  unfold oList at h
  split at h
  · rename_i x
    obtain ⟨v, rfl, rv⟩ := vrs1 r
    obtain ⟨ds, h1, h2⟩ := Option.map_eq_some_iff.mp h
    subst h2
    obtain ⟨a, xs, rfl, ha, z, ra⟩ := rv.asSeq c h1
    refine ⟨a, xs, rfl, ?_, fun p hp => ans.new c hp (vrNew c hp z ra)⟩
    rcases ha with ha | ha
    · exact .inl ha.1
    · exact .inr (SqT.of ha.1)
  · cases h
theorem c_tuple : CallR X (.type "tuple") (rDN X.K oTuple) := callImp call_tuple_of fun xs H Q ⟨α, C, ds, dz, c, r, h, ans⟩ => by
  unfold oTuple at h
  split at h
  · rename_i x
    obtain ⟨v, rfl, rv⟩ := vrs1 r
    obtain ⟨ds, h1, h2⟩ := Option.map_eq_some_iff.mp h
    subst h2
    obtain ⟨a, xs, rfl, ha, z, ra⟩ := rv.asSeq c h1
    refine ⟨a, xs, rfl, ?_⟩
    rcases ha with ha | ha
    · exact .inl ⟨ha.1, fun p hp => ans.new c hp (vrNewT c hp z ra)⟩
    · exact .inr ⟨SqT.of ha.1, ans.here c (.tup ha.1 z ra)⟩
  · cases h
/-- isinstance -/
def tyN (C : Cells) : D → Option String
  | .non => some "NoneType"
  | .bl _ => some "bool"
  | .int _ => some "int"
  | .str _ => some "str"
  | .tup _ => some "tuple"
  | .lst _ => some "list"
  | .scr _ => some "list"
  | .ktp _ => some "tuple"
  | .dct _ _ => some "dict"
  | .hnd k => match C[k]? with
    | some (.lst _) => some "list"
    | some (.dct _ _) => some "dict"
    | none => none
  | _ => none
inductive Kn : String → Prop where
  | n1 : Kn "int" | n2 : Kn "bool" | n3 : Kn "str" | n4 : Kn "tuple" | n5 : Kn "list" | n6 : Kn "dict"
theorem kit_ok (K : PySem.W.Frag) {t n : String} (ht : t = "NoneType" ∨ Kn t) (hn : Kn n) : PySem.W.kitOne K (.type t) (.type n) = some (t == n || (t == "bool" && n == "int")) := by
  rcases ht with rfl | ht
  · cases hn <;> rfl
  · cases ht <;> cases hn <;> rfl
theorem tyN_ok {K : PySem.W.Frag} {α : Al} {C : Cells} {v : V} {d : D} {t : String} (c : CR K α H C) (r : VR K α H v d) (h : tyN C d = some t) : TyX K H v (.type t) ∧ (t = "NoneType" ∨ Kn t) := by
  cases r with
  | non => cases h; exact ⟨.base .non, .inl rfl⟩
  | bl b => cases h; exact ⟨.base (.bl b), .inr .n2⟩
  | int b => cases h; exact ⟨.base (.int b), .inr .n1⟩
  | str b => cases h; exact ⟨.base (.str b), .inr .n3⟩
  | tup h1 z r => cases h; exact ⟨.base (.tup h1), .inr .n4⟩
  | ktp h1 z r =>
    cases h
    refine ⟨?_, .inr .n4⟩
    rcases h1 with (h1 | ⟨o, h1⟩) | ⟨o, its, n, h1, h2, _⟩
    · exact .base (.tup h1)
    · exact .fTuple h1
    · exact .kTuple h1 h2
  | lst h1 n z r => cases h; exact ⟨.base (.lst h1), .inr .n5⟩
  | scr h1 z r =>
    cases h
    rcases h1 with ⟨o, h1⟩ | ⟨o, its, n, h1, h2, _⟩
    · exact ⟨.base (.frz h1), .inr .n5⟩
    · exact ⟨.kList h1 h2, .inr .n5⟩
  | dctK h1 _ _ _ => cases h; exact ⟨.base (.dK h1), .inr .n6⟩
  | dctT h1 _ _ _ => cases h; exact ⟨.base (.dT h1), .inr .n6⟩
  | @hnd k a hk =>
    unfold tyN at h
    cases hc : C[k]? with
    | none => simp only [hc] at h; cases h
    | some cl =>
      cases cl with
      | lst ds =>
        obtain ⟨xs, e1, _⟩ := c.at_ k _ _ hk hc
        simp only [hc] at h
        cases h
        exact ⟨.base (.lst e1), .inr .n5⟩
      | dct ks vs =>
        simp only [hc] at h
        cases h
        rcases c.at_ k _ _ hk hc with ⟨kvs, e1, _⟩ | ⟨kvs, e1, _⟩
        · exact ⟨.base (.dK e1), .inr .n6⟩
        · exact ⟨.base (.dT e1), .inr .n6⟩
  | ref a => cases h
  | ty a => cases h
def oIsi (n : String) : OpN := fun C xs => match xs with
  | [x, .ty m] => if m = n then (tyN C x).map fun t => .bl (t == n || (t == "bool" && n == "int")) else none
  | _ => none
theorem c_isi {n : String} (hn : Kn n) : CallR X (.builtin "isinstance") (rDN X.K (oIsi n)) := callImp call_isi fun xs H Q ⟨α, C, ds, dz, c, r, h, ans⟩ => by
  unfold oIsi at h
  split at h
  · rename_i x m
    split at h
    · rename_i hm
      subst hm
      obtain ⟨t, h1, h2⟩ := Option.map_eq_some_iff.mp h
      subst h2
      obtain ⟨v, v', rfl, rv, rv'⟩ := vrs2 r
      obtain ⟨ty, ht⟩ := tyN_ok c rv h1
      cases rv'
      exact ⟨v, _, .type t, .type m, _, rfl, .ty m, ty, kit_ok X.K ht hn, ans.here c (.bl _)⟩
    · cases h
  · cases h

/-! ### is, in -/
def oIsN : Op2 := fun _ x y => match y with
  | .non => match x with
    | .non => some (.bl true)
    | _ => some (.bl false)
  | _ => none
def oNotN : Op2 := fun _ x y => match y with
  | .non => match x with
    | .non => some (.bl false)
    | _ => some (.bl true)
  | _ => none
theorem r_isN : OpR X (compareOp .Is) (rD2 X.K oIsN) := opImp op_isN fun x y H Q ⟨α, C, dx, dy, dz, c, rx, ry, h, ans⟩ => by
  cases dy with
  | non =>
    cases ry
    refine ⟨rfl, ans.here c ?_⟩
    cases rx <;> (cases h; exact .bl _)
  | _ => cases h
theorem r_notN : OpR X (compareOp .IsNot) (rD2 X.K oNotN) := opImp op_notN fun x y H Q ⟨α, C, dx, dy, dz, c, rx, ry, h, ans⟩ => by
  cases dy with
  | non =>
    cases ry
    refine ⟨rfl, ans.here c ?_⟩
    cases rx <;> (cases h; exact .bl _)
  | _ => cases h
def oIsB : Op2 := fun _ x y => match x, y with
  | .bl a, .bl b => some (.bl (decide (a = b)))
  | _, _ => none
def oNotB : Op2 := fun _ x y => match x, y with
  | .bl a, .bl b => some (.bl (!decide (a = b)))
  | _, _ => none
theorem r_isB : OpR X (compareOp .Is) (rD2 X.K oIsB) := opImp op_isBl fun x y H Q ⟨α, C, dx, dy, dz, c, rx, ry, h, ans⟩ => by
  unfold oIsB at h
  split at h
  · cases h; exact ⟨_, _, rx.blInv, ry.blInv, ans.here c (.bl _)⟩
  · cases h
theorem r_notB : OpR X (compareOp .IsNot) (rD2 X.K oNotB) := opImp op_notBl fun x y H Q ⟨α, C, dx, dy, dz, c, rx, ry, h, ans⟩ => by
  unfold oNotB at h
  split at h
  · cases h; exact ⟨_, _, rx.blInv, ry.blInv, ans.here c (.bl _)⟩
  · cases h
end
end DL

/-! DL6: in, append, o[i] = e, what is walked, comprehensions, keyword calls. -/
namespace DL
open PySem L2
section
variable {X : Cx} {W : WX} {a b c e : Expr} {es : List Expr} {f g : EX} {fa : AX} {pos : Pos} {σ : St} {H : Hp} {Q : VK}
/-! ### in -/
def flatD : D → Bool
  | .non => true | .bl _ => true | .int _ => true | .str _ => true | _ => false
theorem flat_ok {K : PySem.W.Frag} {α : Al} {v : V} {d : D} (r : VR K α H v d) (h : flatD d = true) : flatV v = true := by
  cases r <;> first | rfl | cases h
theorem flat_eq {K : PySem.W.Frag} {α : Al} {v v' : V} {d d' : D} (r : VR K α H v d) (r' : VR K α H v' d') (h : flatD d = true) (h' : flatD d' = true) : eqV v v' = eqD d d' := by
  cases r <;> first | (cases r' <;> first | rfl | cases h') | cases h
theorem flats_ok {K : PySem.W.Frag} {α : Al} : ∀ {vs : List V} {ds : List D}, VRs K α H vs ds → ds.all flatD = true → vs.all flatV = true
  | _, _, .nil, _ => rfl
  | _, _, .cons h t, q => by
    simp only [List.all_cons, Bool.and_eq_true] at q ⊢
    exact ⟨flat_ok h q.1, flats_ok t q.2⟩
theorem flats_in {K : PySem.W.Frag} {α : Al} {x : V} {dx : D} (rx : VR K α H x dx) (hx : flatD dx = true) : ∀ {vs : List V} {ds : List D}, VRs K α H vs ds → ds.all flatD = true → inV x vs = ds.any fun d => eqD d dx
  | _, _, .nil, _ => rfl
  | _, _, .cons h t, q => by
    simp only [List.all_cons, Bool.and_eq_true] at q
    have ih := flats_in rx hx t q.2
    unfold inV at ih ⊢
    rw [List.any_cons, List.any_cons, ih, flat_eq h rx q.1 hx]
theorem any_py (dx : D) : ∀ ds : List D, ((toPys ds).any fun z => PyData.eqv z (toPy dx)) = ds.any fun d => eqD d dx
  | [] => rfl
  | d :: ds => by
    show (PyData.eqv (toPy d) (toPy dx) || (toPys ds).any fun z => PyData.eqv z (toPy dx)) = _
    rw [any_py dx ds]
    rfl
def isLst : D → Bool
  | .lst _ => true
  | _ => false
def inD (neg : Bool) : Op2 := fun C x y => match seqOf (look C y) with
  | some ds => if flatD x && ds.all flatD || (isLst (look C y) && okQ (look C x) && okQ (look C y)) then some (.bl (if neg then !(ds.any fun d => eqD d (look C x)) else ds.any fun d => eqD d (look C x))) else none
  | none => none
theorem look_flat {C : Cells} {x : D} (h : flatD x = true) : look C x = x := by cases x <;> first | rfl | cases h
theorem in_ok {neg : Bool} {α : Al} {C : Cells} {x y : V} {dx dy dz : D} (c : CR X.K α H C) (rx : VR X.K α H x dx) (ry : VR X.K α H y dy) (h : inD neg C dx dy = some dz) (ans : Ans X.K α H C Q dz) :
    rIn X.K neg x y H Q ∨ ∃ d ds, Dp X.K H x d ∧ Dp X.K H y (.list ds) ∧ SeqAt.shaped d = true ∧ SeqAt.shaped (.list ds) = true ∧ Q (.bl (if neg then !(ds.any fun z => PyData.eqv z d) else ds.any fun z => PyData.eqv z d)) H := by
  unfold inD at h
  split at h
  · rename_i ds hs
    split at h
    · rename_i hc
      cases h
      rcases Bool.or_eq_true_iff.mp hc with hc | hc
      · obtain ⟨h1, h2⟩ := Bool.and_eq_true_iff.mp hc
        obtain ⟨a, xs, rfl, ha, z, ra⟩ := ry.asSeq c hs
        rw [look_flat h1] at ans
        refine .inl ⟨a, xs, rfl, ?_, flat_ok rx h1, flats_ok ra h2, ?_⟩
        · rcases ha with ha | ha
          · exact .inl ha.1
          · exact .inr (SqT.of ha.1)
        · rw [flats_in rx h1 ra h2]
          exact ans.here c (.bl _)
      · obtain ⟨h1, h2⟩ := Bool.and_eq_true_iff.mp hc
        obtain ⟨h0, h1⟩ := Bool.and_eq_true_iff.mp h1
        have d1 := rx.asDp c h1
        have d2 := ry.asDp c h2
        cases hl : look C dy with
        | lst es =>
          rw [hl] at hs h2 d2
          cases hs
          refine .inr ⟨_, toPys _, d1, d2, shaped_of h1, shaped_of h2, ?_⟩
          rw [any_py]
          exact ans.here c (.bl _)
        | _ => rw [hl] at h0; cases h0
    · cases h
  · cases h
theorem r_in (hu : X.A.units + 65 < cLine) : OpR X (compareOp .In) (rD2 X.K (inD false)) := opImp (op_in_seq.or (op_inD hu)) fun x y H Q ⟨α, C, dx, dy, dz, c, rx, ry, h, ans⟩ => in_ok c rx ry h ans
theorem r_notIn (hu : X.A.units + 65 < cLine) : OpR X (compareOp .NotIn) (rD2 X.K (inD true)) := opImp (op_notIn_seq.or (op_notInD hu)) fun x y H Q ⟨α, C, dx, dy, dz, c, rx, ry, h, ans⟩ => in_ok c rx ry h ans

/-! ### append -/
def chkL (o : D) : Mo Unit := fun C => match o with
  | .hnd k => match C[k]? with
    | some (.lst _) => .ok ((), C)
    | _ => .bad
  | _ => .bad
def appD (o y : D) : Mo D := fun C => match o with
  | .hnd k => match C[k]? with
    | some (.lst ds) => if ds.length < sizeLine then .ok (.non, C.set k (.lst (ds ++ [y]))) else .bad
    | _ => .bad
  | _ => .bad
def app1 (o : D) : List D → Mo D
  | [y] => appD o y
  | _ => bad
def xApp (f : EX) (fa : AX) : EX := fun ρ => bnd (f ρ) fun o => bnd (chkL o) fun _ => bnd (fa ρ) (app1 o)
theorem hnd_lst {K : PySem.W.Frag} {α : Al} {C : Cells} {v : V} {k : Nat} {ds : List D} (c : CR K α H C) (r : VR K α H v (.hnd k)) (hc : C[k]? = some (.lst ds)) : ∃ p xs, v = .ref p ∧ α.cs[k]? = some p ∧ H p = some (.lst xs) ∧ xs.length ≤ sizeLine ∧ VRs K α H xs ds := by
  cases r with
  | @hnd k p hk =>
    obtain ⟨xs, e1, z, r⟩ := c.at_ k _ _ hk hc
    exact ⟨p, xs, rfl, hk, e1, z, r⟩
theorem de_app {apos cpos : Pos} (ho : DE X W a f) (hy : DA X W [e] fa) (hbase : attributeBase a "append" X.env (eval a X.env) = eval a X.env := by rfl)
    (hfew : ((backTo cpos (starEach [e] X.env)).all (fun x => !x.1) && (backToKw cpos (keywordEach [] X.env)).all (fun x => x.1.isSome)
      && decide ([e].length + ([] : List Keyword).length + (if ([] : List Keyword).isEmpty then 0 else 1) < 30)) = true := by rfl)
    (hline : (apos.endLine == cpos.line) = true := by rfl) (hs : starEach [e] X.env = (false, eval e X.env) :: starEach [] X.env := by rfl) (hplain : (backTo cpos (starEach [] X.env)).any (·.1) = false := by rfl) :
    DE X W (.Call (.Attribute a "append" apos) [e] [] cpos) (xApp f fa) :=
  peImp (pe_bm PySem.F.plainAttrs_list PySem.F.slot_list_append PySem.F.type_list_append mt_append ho hy hbase hfew hline hs hplain) fun σ H Q ⟨α, C, ρ, c, r, h⟩ => by
  refine ⟨α, C, ρ, c, r, (WpO.bnd c h).mono fun α1 H1 C1 o e1 c1 h1 v rv => ?_⟩
  have h1' := WpO.bnd c1 h1
  cases o with
  | hnd k =>
    cases hc : C1[k]? with
    | none => simp only [chkL, hc] at h1'; exact h1'.elim
    | some cl =>
      cases cl with
      | dct _ _ => simp only [chkL, hc] at h1'; exact h1'.elim
      | lst ds =>
        simp only [chkL, hc] at h1'
        obtain ⟨p, xs, rfl, hp, hx, hz, rx⟩ := hnd_lst c1 rv hc
        refine ⟨.inl ⟨rfl, _, SqL.of hx⟩, ?_⟩
        have h2 := h1' α1 H1 (Ext.refl _ _) c1
        refine ⟨α1, C1, ρ, c1, r.ext c e1, (WpO.bnd c1 h2).mono fun α2 H2 C2 ys e2 c2 h4 vs rvs => ?_⟩
        cases rvs with
        | nil => exact h4.elim
        | @cons w ws y ys rw' rt =>
          cases rt with
          | cons _ _ => exact h4.elim
          | nil =>
            have h4 : WpO X.K X.mg α2 H2 _ _ (appD (.hnd k) y C2) := h4
            unfold appD at h4
            dsimp only at h4
            cases hc2 : C2[k]? with
            | none => simp only [hc2] at h4; exact h4.elim
            | some cl =>
              cases cl with
              | dct _ _ => simp only [hc2] at h4; exact h4.elim
              | lst ds2 =>
                simp only [hc2] at h4
                by_cases hlen : ds2.length < sizeLine
                · rw [if_pos hlen] at h4
                  obtain ⟨p2, xs2, ep, hp2, hx2, hz2, rx2⟩ := hnd_lst c2 (rv.ext c1 e2) hc2
                  cases ep
                  have l2 := rx2.length
                  have hl' : (xs2 ++ [w]).length ≤ sizeLine := by rw [List.length_append, l2]; exact hlen
                  have ex := Ext.write (o := .lst (xs2 ++ [w])) c2 hp2
                  have rall := (rx2.append (.cons rw' .nil)).ext c2 ex
                  refine ⟨p, xs2, w, rfl, rfl, hx2, by rw [l2]; exact hlen, ?_⟩
                  exact h4 α2 _ ex (c2.write hp2 ⟨_, upd_same, hl', rall⟩) .non .non
                · rw [if_neg hlen] at h4
                  exact h4.elim
  | _ => exact h1'.elim

/-! ### o[i] = e -/
/-- no error -/
def nb {α : Type} (m : Mo α) : Mo α := fun C => match m C with
  | .err _ _ => .bad
  | o => o
theorem WpO.nb {K : PySem.W.Frag} {mg : Str → Option Value} {α : Al} {C : Cells} {β : Type} {m : Mo β} {Q : Al → Hp → Cells → β → Prop} {E E' : XK} (h : WpO K mg α H Q E (nb m C)) : WpO K mg α H Q E' (m C) := by
  unfold DL.nb at h
  cases hm : m C with
  | ok p => rw [hm] at h; exact h
  | err er C' => rw [hm] at h; exact h.elim
  | bad => rw [hm] at h; exact h.elim
def setD (o i y : D) : Mo Unit := fun C => match o, i with
  | .hnd k, .int j => match C[k]? with
    | some (.lst ds) => match ixN ds.length j with
      | some m => .ok ((), C.set k (.lst (ds.set m y)))
      | none => .bad
    | _ => .bad
  | _, _ => .bad
def gSubD (fo fi : EX) : TX := fun d ρ => bnd (nb (fo ρ)) fun o => bnd (nb (fi ρ)) fun i => bnd (setD o i d) fun _ => ret ρ
theorem nb_ne {α : Type} {m : Mo α} {C C' : Cells} {er : Er} : nb m C ≠ .err er C' := by
  unfold nb
  cases m C <;> simp
theorem bnd_ne {β γ : Type} {m : Mo β} {k : β → Mo γ} (a : ∀ C er C', m C ≠ .err er C') (b : ∀ x C er C', k x C ≠ .err er C') : ∀ C er C', bnd m k C ≠ .err er C' := fun C er C' h => by
  unfold bnd at h
  cases hm : m C with
  | ok p => rw [hm] at h; exact b _ _ _ _ h
  | err e1 C1 => exact a _ _ _ hm
  | bad => rw [hm] at h; cases h
theorem ne_sub {fo fi : EX} : NoErr (gSubD fo fi) := fun d ρ C er C' => bnd_ne (fun _ _ _ => nb_ne) (fun o C er C' => bnd_ne (fun _ _ _ => nb_ne) (fun i C er C' => bnd_ne (fun C er C' h => by
    unfold setD at h
    split at h
    · split at h
      · split at h <;> cases h
      · cases h
    · cases h) (fun _ _ _ _ h => by cases h) C er C') C er C') C er C'
theorem dg_sub {fo fi : EX} (ho : DE X W0 a fo) (hi : DE X W0 b fi)
    (ha : ∀ v, assign (.Subscript a b pos) X.env v = (do
      let ov ← holding [v] (eval a X.env)
      let iv ← holding [v, ov] (eval b X.env)
      standAt pos
      holding [v, ov, iv] (setItem ov iv v)
      release [v, ov, iv] []) := by intro _; rfl) : DG X (.Subscript a b pos) [] (gSubD fo fi) := pgImp (pg_sub ho hi set_list ha) fun v σ H Q ⟨α, C, ρ, d, c, r, rv, h⟩ => by
  refine ⟨α, C, ρ, c, r, (WpO.nb (WpO.bnd c h)).mono fun α1 H1 C1 o e1 c1 h1 vo ro => ?_⟩
  refine ⟨α1, C1, ρ, c1, r.ext c e1, (WpO.nb (WpO.bnd c1 h1)).mono fun α2 H2 C2 i e2 c2 h2 vi ri => ?_⟩
  have h3 := WpO.bnd c2 h2
  unfold setD at h3
  split at h3
  · rename_i k j
    split at h3
    · rename_i ds hc
      split at h3
      · rename_i m hm
        obtain ⟨p, xs, rfl, hp, hx, hz, rx⟩ := hnd_lst c2 (ro.ext c1 e2) hc
        have l := rx.length
        have ex := Ext.write (o := .lst (xs.set m v)) c2 hp
        have rall := (rx.set ((rv.ext c e1).ext c1 e2) m).ext c2 ex
        refine ⟨p, xs, j, m, rfl, ri.intInv, hx, by rw [l]; exact hm, ?_⟩
        have cw := c2.write (cl := .lst (ds.set m d)) hp ⟨xs.set m v, upd_same, by rw [List.length_set]; exact hz, rall⟩
        have h4 := h3 α2 _ ex cw
        exact WpO.ret cw h4 σ (((r.ext c e1).ext c1 e2).ext c2 ex) (Agr.refl _ _)
      · exact h3.elim
    · exact h3.elim
  · exact h3.elim

/-! ### what is walked -/
def srcSeq : D → Mo Src := fun x => lft fun C => match x with
  | .hnd k => match C[k]? with
    | some (.lst ds) => some ⟨ds, some (k, ds)⟩
    | _ => none
  | .tup ds => some ⟨ds, none⟩
  | .lst ds => some ⟨ds, none⟩
  | .scr ds => some ⟨ds, none⟩
  | .ktp ds => some ⟨ds, none⟩
  | _ => none
def iSeq (f : EX) : IX := fun ρ => bnd (f ρ) srcSeq
theorem pi_seq {tg l : Expr} {tl : TE} (hl : PE X l tl) : PI X tg l (fun σ H R => tl σ H fun x H1 => (∃ a, x = .ref a ∧ (∃ xs, SqL X.K H1 a xs) ∧ R (Itl X.K a) H1) ∨ (∃ a, x = .ref a ∧ (∃ xs, SqT X.K H1 a xs) ∧ R (Itt X.K a) H1)) := by
  refine ⟨fun pins s σ H R I h => ?_⟩
  refine thn (hl.run pins s σ H _ I h) fun v s1 ⟨x, H1, I1, r1, q1⟩ => ?_
  rcases q1 with ⟨a, e, ⟨xs, hq⟩, q⟩ | ⟨a, e, ⟨xs, hq⟩, q⟩
  · subst e
    cases r1
    obtain ⟨its, rv, p, hz⟩ := I1.list hq
    refine wpAny_pyIter_list p.isList ?_
    refine ⟨s1.heap.objs.size, [s1.heap.objs.size], _, _, H1, rfl, I1.kept (t' := s1.toks) fun b o e => Heap.get?_push_of_some _ e, turn_list a _, ⟨_, Heap.get?_push_size _ rfl, rfl, rfl⟩, fun b hb => ?_, q⟩
    have e : b = s1.heap.objs.size := by simpa using hb
    subst e
    exact I1.fpOk (Nat.le_refl _) (I1.hok.fresh (Nat.le_refl _))
  · subst e
    cases r1
    obtain ⟨its, rv, p, hz⟩ := I1.tuple hq
    refine wpAny_pyIter_tuple (show s1.heap.IsTuple a its.toArray from p) ?_
    refine ⟨s1.heap.objs.size, [s1.heap.objs.size], _, _, H1, rfl, I1.kept (t' := s1.toks) fun b o e => Heap.get?_push_of_some _ e, turn_tuple a _, ⟨_, Heap.get?_push_size _ rfl, rfl, rfl⟩, fun b hb => ?_, q⟩
    have e : b = s1.heap.objs.size := by simpa using hb
    subst e
    exact I1.fpOk (Nat.le_refl _) (I1.hok.fresh (Nat.le_refl _))
theorem sqL_ext {K : PySem.W.Frag} {α α' : Al} {H' : Hp} {C : Cells} {a : Addr} {xs : List V} (c : CR K α H C) (e : ExtW α H α' H') (h : H a = some (.lst xs)) (n : a ∉ α.all) : SqL K H' a xs := SqL.of (e.keep _ _ h n)
theorem dw_list {K : PySem.W.Frag} {α : Al} {C : Cells} {a : Addr} {xs : List V} {ds : List D} (c : CR K α H C) (h : H a = some (.lst xs)) (n : a ∉ α.all) (z : xs.length ≤ sizeLine) (r : VRs K α H xs ds) : DWalk K α H (Itl K a) ⟨ds, none⟩ (fun H => SqL K H a xs) (YAt xs) where
  walk := by have w := walk_list (K := K) (a := a) (xs := xs); rw [r.length] at w; exact w
  len := by rw [← r.length]; exact z
  good := fun α' H' C' e c' _ => sqL_ext c e h n
  gives := fun i x H1 H2 α' C' d e c' _ y hd => by
    obtain ⟨rfl, hx⟩ := y
    obtain ⟨d', h1, h2⟩ := r.get hx
    rw [hd] at h1; cases h1
    exact ⟨Ext.refl _ _, c', h2.extW c e⟩
theorem dw_scr {K : PySem.W.Frag} {α : Al} {C : Cells} {a : Addr} {xs : List V} {ds : List D} (c : CR K α H C) (h : SqF K H a xs) (z : xs.length ≤ sizeLine) (r : VRs K α H xs ds) : DWalk K α H (Itl K a) ⟨ds, none⟩ (fun H => SqL K H a xs) (YAt xs) where
  walk := by have w := walk_list (K := K) (a := a) (xs := xs); rw [r.length] at w; exact w
  len := by rw [← r.length]; exact z
  good := fun α' H' C' e c' _ => (sqF_ext c e h).sq
  gives := fun i x H1 H2 α' C' d e c' _ y hd => by
    obtain ⟨rfl, hx⟩ := y
    obtain ⟨d', h1, h2⟩ := r.get hx
    rw [hd] at h1; cases h1
    exact ⟨Ext.refl _ _, c', h2.extW c e⟩
theorem dw_tup {K : PySem.W.Frag} {α : Al} {C : Cells} {a : Addr} {xs : List V} {ds : List D} (c : CR K α H C) (h : SqT K H a xs) (z : xs.length ≤ sizeLine) (r : VRs K α H xs ds) : DWalk K α H (Itt K a) ⟨ds, none⟩ (fun H => SqT K H a xs) (YAt xs) where
  walk := by have w := walk_tup (K := K) (a := a) (xs := xs); rw [r.length] at w; exact w
  len := by rw [← r.length]; exact z
  good := fun α' H' C' e c' _ => sqT_ext c e h
  gives := fun i x H1 H2 α' C' d e c' _ y hd => by
    obtain ⟨rfl, hx⟩ := y
    obtain ⟨d', h1, h2⟩ := r.get hx
    rw [hd] at h1; cases h1
    exact ⟨Ext.refl _ _, c', h2.extW c e⟩
/-- a cell: it must hold the same items (as data) at each turn; the values may be others, so it is walked by what it holds -/
theorem dw_cell {K : PySem.W.Frag} {α : Al} {k : Nat} {a : Addr} {ds : List D} (hk : α.cs[k]? = some a) (z : ds.length ≤ sizeLine) : DWalk K α H (Itl K a) ⟨ds, some (k, ds)⟩ (fun H => ∃ xs, SqL K H a xs ∧ xs.length = ds.length) (fun i H x H' => H' = H ∧ ∀ xs, SqL K H a xs → xs[i]? = some x) where
  walk := ⟨fun i H hi ⟨xs, q, l⟩ => ⟨xs, xs[i]'(by rw [l]; exact hi), q, by simp [show i < xs.length by rw [l]; exact hi]⟩, fun H ⟨xs, q, l⟩ => ⟨xs, q, by rw [l]; exact Nat.le_refl _⟩, fun _ _ _ _ _ _ y => y⟩
  len := z
  good := fun α' H' C' e c' ok => by
    obtain ⟨β, eq, _⟩ := e.pre
    have hk' : α'.cs[k]? = some a := by rw [eq, List.getElem?_append_left (List.getElem?_eq_some_iff.mp hk).1]; exact hk
    obtain ⟨xs, e1, z, r⟩ := c'.at_ k _ _ hk' ok
    exact ⟨xs, SqL.of e1, r.length⟩
  gives := fun i x H1 H2 α' C' d e c' ok y hd => by
    obtain ⟨rfl, hx⟩ := y
    obtain ⟨β, eq, _⟩ := e.pre
    have hk' : α'.cs[k]? = some a := by rw [eq, List.getElem?_append_left (List.getElem?_eq_some_iff.mp hk).1]; exact hk
    obtain ⟨xs, e1, z, r⟩ := c'.at_ k _ _ hk' ok
    obtain ⟨d', h1, h2⟩ := r.get (hx xs (SqL.of e1))
    have hd' : ds[i]? = some d := hd
    rw [hd'] at h1; cases h1
    exact ⟨Ext.refl _ _, c', h2⟩
theorem di_seq {tg : Expr} (hl : DE X W e f) : DI X W tg e (iSeq f) := piImp (pi_seq hl) fun σ H R ⟨α, C, ρ, c, r, h⟩ => by
  refine ⟨α, C, ρ, c, r, (WpO.bnd c h).mono fun α1 H1 C1 x e1 c1 h1 v rv => ?_⟩
  obtain ⟨s, hs, q⟩ := h1.lft
  have q := q α1 H1 (Ext.refl _ _) c1
  cases rv with
  | tup h2 z r2 => cases hs; exact .inr ⟨_, rfl, ⟨_, SqT.of h2⟩, q _ _ _ (dw_tup c1 (SqT.of h2) z r2)⟩
  | ktp h2 z r2 => cases hs; exact .inr ⟨_, rfl, ⟨_, h2⟩, q _ _ _ (dw_tup c1 h2 z r2)⟩
  | lst h2 n z r2 => cases hs; exact .inl ⟨_, rfl, ⟨_, SqL.of h2⟩, q _ _ _ (dw_list c1 h2 n z r2)⟩
  | scr h2 z r2 => cases hs; exact .inl ⟨_, rfl, ⟨_, h2.sq⟩, q _ _ _ (dw_scr c1 h2 z r2)⟩
  | @hnd k a hk =>
    dsimp only at hs
    cases hc : C1[k]? with
    | none => simp only [hc] at hs; cases hs
    | some cl =>
      cases cl with
      | dct _ _ => simp only [hc] at hs; cases hs
      | lst ds =>
        simp only [hc] at hs
        cases hs
        obtain ⟨xs, e1, z, r⟩ := c1.at_ k _ _ hk hc
        exact .inl ⟨_, rfl, ⟨_, SqL.of e1⟩, q _ _ _ (dw_cell hk (by rw [← r.length]; exact z))⟩
  | _ => cases hs
/-- range -/
def rgD (i j : Int) : List D := (List.range (j - i).toNat).map fun (k : Nat) => D.int (i + (k : Int))
theorem rgD_get {i j : Int} {k : Nat} {d : D} (h : (rgD i j)[k]? = some d) : d = .int (i + k) ∧ k < (j - i).toNat := by
  unfold rgD at h
  rw [List.getElem?_map] at h
  cases h1 : (List.range (j - i).toNat)[k]? with
  | none => rw [h1] at h; cases h
  | some m =>
    rw [h1] at h
    obtain ⟨h2, h3⟩ := List.getElem?_eq_some_iff.mp h1
    rw [List.getElem_range] at h3
    subst h3
    rw [List.length_range] at h2
    exact ⟨(Option.some.inj h).symm, h2⟩
theorem dw_range {K : PySem.W.Frag} {α : Al} {i j : Int} (hz : (j - i).toNat ≤ 1000000) : DWalk K α H (Itr i (j - i).toNat) ⟨rgD i j, none⟩ (fun _ => True) (YFn fun k => .int (i + k)) where
  walk := by have w := walk_range (lo := i) (n := (j - i).toNat); have l : (rgD i j).length = (j - i).toNat := by simp [rgD]
             rw [← l] at w; rw [l] at w ⊢; exact w
  len := by have l : (rgD i j).length = (j - i).toNat := by simp [rgD]
            show (rgD i j).length ≤ sizeLine
            rw [l]; exact Nat.le_trans hz (by decide)
  good := fun _ _ _ _ _ _ => trivial
  gives := fun k x H1 H2 α' C' d e c' _ y hd => by
    obtain ⟨rfl, rfl⟩ := y
    obtain ⟨rfl, _⟩ := rgD_get hd
    exact ⟨Ext.refl _ _, c', .int _⟩
def iR1 (fa : AX) : IX := fun ρ => bnd (fa ρ) fun xs => lft fun _ => match xs with
  | [.int j] => if -1000000 ≤ j ∧ j ≤ 1000000 then some ⟨rgD 0 j, none⟩ else none
  | _ => none
def iR2 (fa : AX) : IX := fun ρ => bnd (fa ρ) fun xs => lft fun _ => match xs with
  | [.int i, .int j] => if -1000000000 ≤ i ∧ j ≤ 1000000000 ∧ -1000000000 ≤ j ∧ i ≤ 1000000000 ∧ j - i ≤ 1000000 then some ⟨rgD i j, none⟩ else none
  | _ => none
theorem di_r1 {tg : Expr} {p : Pos} (hm : X.mg "range" = none) (ha : DA X W [e] fa) (hg : Gl X "range" := by rfl) (hs : starEach [e] X.env = [(false, eval e X.env)] := by rfl) : DI X W tg (.Call (.Name "range" p) [e] [] pos) (iR1 fa) :=
  piImp (pi_range1 hg hm ha hs) fun σ H R ⟨α, C, ρ, c, r, h⟩ => by
  refine ⟨α, C, ρ, c, r, (WpO.bnd c h).mono fun α1 H1 C1 xs e1 c1 h1 vs rvs => ?_⟩
  obtain ⟨s, hs, q⟩ := h1.lft
  split at hs
  · rename_i j
    split at hs
    · rename_i hj
      cases hs
      obtain ⟨v, rfl, rv⟩ := vrs1 rvs
      refine ⟨j, by rw [rv.intInv], by omega, by omega, ?_⟩
      have w := q α1 H1 (Ext.refl _ _) c1 _ _ _ (dw_range (i := 0) (j := j) (by omega))
      rw [Int.sub_zero] at w
      exact w
    · cases hs
  · cases hs
theorem di_r2 {tg : Expr} {p : Pos} (hm : X.mg "range" = none) (ha : DA X W [e, b] fa) (hg : Gl X "range" := by rfl) (hs : starEach [e, b] X.env = [(false, eval e X.env), (false, eval b X.env)] := by rfl) (hs2 : starEach [b] X.env = [(false, eval b X.env)] := by rfl) :
    DI X W tg (.Call (.Name "range" p) [e, b] [] pos) (iR2 fa) :=
  piImp (pi_range2 hg hm ha hs hs2) fun σ H R ⟨α, C, ρ, c, r, h⟩ => by
  refine ⟨α, C, ρ, c, r, (WpO.bnd c h).mono fun α1 H1 C1 xs e1 c1 h1 vs rvs => ?_⟩
  obtain ⟨s, hs, q⟩ := h1.lft
  split at hs
  · rename_i i j
    split at hs
    · rename_i hj
      cases hs
      obtain ⟨v, v', rfl, rv, rv'⟩ := vrs2 rvs
      exact ⟨i, j, by rw [rv.intInv, rv'.intInv], ⟨by omega, by omega, by omega, by omega⟩, q α1 H1 (Ext.refl _ _) c1 _ _ _ (dw_range (i := i) (j := j) (by omega))⟩
    · cases hs
  · cases hs
end
end DL

/-! DL7: list comprehensions (one clause, two clauses), keyword calls. -/
namespace DL
open PySem L2
section
variable {X : Cx} {W : WX}
def wipeD (ρ : Ro) : List Nat → Ro
  | [] => ρ
  | v :: vs => (wipeD ρ vs).set v none
theorem SR.wipe {K : PySem.W.Frag} {α : Al} {σ : St} {H : Hp} {ρ : Ro} (r : SR K α σ H ρ) : ∀ vs : List Nat, SR K α (wipe σ vs) H (wipeD ρ vs)
  | [] => r
  | v :: vs => (SR.wipe r vs).unset v none
theorem wipe_get {σ : St} {j : Nat} : ∀ {vs : List Nat}, (wipe σ vs)[j]? = if j ∈ vs then (if j < σ.length then some none else none) else σ[j]?
  | [] => by simp [wipe]
  | v :: vs => by
    unfold wipe
    by_cases h : j = v
    · subst h
      simp only [List.mem_cons, true_or, if_true]
      by_cases hl : j < σ.length
      · rw [List.getElem?_set_self (by rw [wipe_length]; exact hl), if_pos hl]
      · rw [List.getElem?_eq_none (by simpa [wipe_length] using hl), if_neg hl]
    · rw [List.getElem?_set_ne (Ne.symm h), wipe_get]
      simp only [List.mem_cons, h, false_or]
theorem agr_wipe {σ σ' : St} {ix vs : List Nat} (a : Agr ix σ σ') (h : ∀ i ∈ ix, i ∈ vs) : wipe σ' vs = wipe σ vs := by
  refine List.ext_getElem? fun j => ?_
  rw [wipe_get, wipe_get, a.len]
  by_cases hj : j ∈ vs
  · rw [if_pos hj, if_pos hj]
  · rw [if_neg hj, if_neg hj]
    exact a.at_ j fun z => hj (h j z)
theorem wipe_wipe {σ : St} {vs : List Nat} : wipe (wipe σ vs) vs = wipe σ vs := by
  refine List.ext_getElem? fun j => ?_
  rw [wipe_get, wipe_get, wipe_length]
  by_cases hj : j ∈ vs <;> simp [hj]

/-! ### tests of a clause -/
abbrev DTs (X : Cx) (W : WX) (ifs : List Expr) (p : BX) : Prop := PTs X ifs (tDT X W p)
def bYes : BX := fun _ => ret true
theorem dts_nil : DTs X W [] bYes := ⟨fun pins s σ H Q I ⟨α, C, ρ, c, r, h⟩ => pts_nil.run pins s σ H Q I (WpO.ret c h)⟩
theorem dts_one {c : Expr} {p : BX} (h : DT X W c p) : DTs X W [c] p := pts_one h

/-! ### one clause -/
noncomputable def lcD (s : Src) (t : TX) (p : BX) (f : EX) (ρw : Ro) : List D → List D → Mo (List D)
  | [], acc, C => s.chk C (.ok (acc, C)) .bad
  | x :: xs, acc, C => s.chk C (bnd (t x ρw) (fun ρ1 => bnd (p ρ1) fun b => if b = true then bnd (f ρ1) fun y => lcD s t p f ρw xs (acc ++ [y]) else lcD s t p f ρw xs acc) C) .bad
noncomputable def xLc (fi : IX) (vs : List Nat) (t : TX) (p : BX) (f : EX) : EX := fun ρ => bnd (fi ρ) fun s => bnd (nb (lcD s t p f (wipeD ρ vs) s.items [])) fun ds => ret (.lst ds)
theorem chk_eq {β : Type} {s : Src} {C : Cells} {o b v : β} (h : s.chk C o b = v) (hb : b ≠ v) : s.ok C ∧ o = v := by
  have := Src.chk_ok (s := s) (C := C) (o := o) (b := b) (fun z => z = v) h hb
  exact this
theorem bnd_ok {β γ : Type} {m : Mo β} {k : β → Mo γ} {C C' : Cells} {z : γ} (h : bnd m k C = .ok (z, C')) : ∃ x C1, m C = .ok (x, C1) ∧ k x C1 = .ok (z, C') := by
  unfold bnd at h
  cases hm : m C with
  | ok p => obtain ⟨x, C1⟩ := p; rw [hm] at h; exact ⟨x, C1, rfl, h⟩
  | err _ _ => rw [hm] at h; cases h
  | bad => rw [hm] at h; cases h
theorem wpO_of {K : PySem.W.Frag} {mg : Str → Option Value} {α : Al} {H : Hp} {β : Type} {Q : Al → Hp → Cells → β → Prop} {E : XK} {o : Out (β × Cells)} {x : β} {C' : Cells} (h : o = .ok (x, C')) (q : ∀ α' H', Ext α H α' H' → CR K α' H' C' → Q α' H' C' x) : WpO K mg α H Q E o := by
  rw [h]; exact q
/-- behind nb: the outcome -/
theorem wpNbok {K : PySem.W.Frag} {mg : Str → Option Value} {α : Al} {H : Hp} {C : Cells} {β γ : Type} {m : Mo γ} {k : γ → Mo β} {Q : Al → Hp → Cells → β → Prop} {E : XK} (h : WpO K mg α H Q E (bnd (nb m) k C)) : ∃ z C', m C = .ok (z, C') ∧ WpO K mg α H Q E (k z C') := by
  unfold DL.bnd DL.nb at h
  cases hm : m C with
  | ok p => obtain ⟨z, C'⟩ := p; rw [hm] at h; exact ⟨z, C', rfl, h⟩
  | err _ _ => rw [hm] at h; exact h.elim
  | bad => rw [hm] at h; exact h.elim
/-- the state of a comprehension between two turns: D the new list, what it holds -/
structure LcSt (K : PySem.W.Frag) (α1 : Al) (H1 : Hp) (D : Addr) (α : Al) (H : Hp) (C : Cells) (acc : List V) (dacc : List DL.D) : Prop where
  hs : α.hs = D :: α1.hs
  cr : CR K α H C
  ex : ExtW α1 H1 α H
  hk : ∀ b ∈ α1.hs, H b = H1 b
  at_ : H D = some (.lst acc)
  rs : VRs K α H acc dacc
theorem LcSt.start {K : PySem.W.Frag} {α1 : Al} {H1 : Hp} {C1 : Cells} {D : Addr} (c : CR K α1 H1 C1) (h : H1 D = none) : LcSt K α1 H1 D (α1.hide D) (upd H1 D (.lst [])) C1 [] [] :=
  ⟨rfl, c.hidden h, ExtW.hide h, fun b hb => by obtain ⟨xs, e⟩ := c.hid b hb; exact upd_ne (ne_of_none e h), upd_same, .nil⟩
theorem LcSt.go {K : PySem.W.Frag} {α1 α α' : Al} {H1 H H' : Hp} {C C' C1 : Cells} {D : Addr} {acc : List V} {dacc : List DL.D} (c1 : CR K α1 H1 C1) (l : LcSt K α1 H1 D α H C acc dacc) (e : Ext α H α' H') (c' : CR K α' H' C') : LcSt K α1 H1 D α' H' C' acc dacc := by
  refine ⟨by rw [e.hs]; exact l.hs, c', l.ex.trans (fun a ha => l.cr.has a (l.ex.sub ha)) e.toExtW, fun b hb => ?_, ?_, l.rs.ext l.cr e⟩
  · rw [e.hid b (by rw [l.hs]; exact List.mem_cons_of_mem _ hb)]
    exact l.hk b hb
  · rw [e.hid D (by rw [l.hs]; exact List.mem_cons_self)]
    exact l.at_
theorem LcSt.grow {K : PySem.W.Frag} {α1 α : Al} {H1 H : Hp} {C C1 : Cells} {D : Addr} {acc : List V} {dacc : List DL.D} {y : V} {dy : DL.D} (c1 : CR K α1 H1 C1) (h0 : H1 D = none) (l : LcSt K α1 H1 D α H C acc dacc) (r : VR K α H y dy) : LcSt K α1 H1 D α (upd H D (.lst (acc ++ [y]))) C (acc ++ [y]) (dacc ++ [dy]) := by
  have hp : D ∈ α.hs := by rw [l.hs]; exact List.mem_cons_self
  refine ⟨l.hs, l.cr.grow hp, l.ex.mut h0, fun b hb => ?_, upd_same, (l.rs.append (.cons r .nil)).extW l.cr (ExtW.grow hp)⟩
  obtain ⟨xs, e⟩ := c1.hid b hb
  rw [upd_ne (ne_of_none e h0)]
  exact l.hk b hb
theorem LcSt.done {K : PySem.W.Frag} {α1 α : Al} {H1 H : Hp} {C : Cells} {D : Addr} {acc : List V} {dacc : List DL.D} (l : LcSt K α1 H1 D α H C acc dacc) (hl : acc.length ≤ sizeLine) : Ext α1 H1 ⟨α.cs, α1.hs⟩ H ∧ CR K ⟨α.cs, α1.hs⟩ H C ∧ VR K ⟨α.cs, α1.hs⟩ H (.ref D) (.lst dacc) := by
  obtain ⟨hs, cr, ex, hk, at_, rs⟩ := l
  obtain ⟨cs, hs'⟩ := α
  simp only at hs
  subst hs
  have z : CR K ((⟨cs, α1.hs⟩ : Al).hide D) H C := cr
  exact ⟨⟨⟨ex.pre, noMore, ex.keep⟩, rfl, hk⟩, z.shown, .lst at_ z.shown_not hl (VRs.sub (α := (⟨cs, α1.hs⟩ : Al).hide D) (αs := ⟨cs, α1.hs⟩) rfl (fun a h => List.mem_cons_of_mem D h) rs)⟩
/-- the items of a source that a comprehension or a loop walks are at most so many -/
theorem lc_main {t : TX} {p : BX} {f : EX} {ρw : Ro} {g : TG} {tt : TT} {te : TE} {vs ix : List Nat} {σ : St} {H1 : Hp} {α1 : Al} {C1 : Cells} {J : It} {s : Src} {G : Hp → Prop} {Y : Nat → Hp → V → Hp → Prop} {D : Addr} {Qd : Hp → Prop} {ds : List DL.D} {C2 : Cells}
    (c1 : CR X.K α1 H1 C1) (r1 : SR X.K α1 (wipe σ vs) H1 ρw) (hD : H1 D = none) (hix : ∀ i ∈ ix, i ∈ vs) (dw : DWalk X.K α1 H1 J s G Y) (hcomp : lcD s t p f ρw s.items [] C1 = .ok (ds, C2))
    (hg : ∀ x σ H Q, gD X ix t x σ H Q → g x σ H Q) (ht : ∀ σ H Q, tDT X W0 p σ H Q → tt σ H Q) (he : ∀ σ H Q, tD X W0 f σ H Q → te σ H Q)
    (hd : ∀ α H acc, LcSt X.K α1 H1 D α H C2 acc ds → acc.length ≤ sizeLine → Qd H) :
    ∃ W : Nat → Nat → Hp → Prop, (∃ m, W 0 m (upd H1 D (.lst []))) ∧ ∀ i m H, W i m H →
      (J.stop i H ∧ Qd H) ∨ (J.go i H ∧ ∃ Nx : Hp → Prop, (∀ H', Nx H' → ∃ m', m' < m ∧ W (i + 1) m' H') ∧ ∀ x H', J.yld i H x H' → g x (wipe σ vs) H' fun σ2 H2 => wipe σ2 vs = wipe σ vs ∧ tt σ2 H2 fun b H3 =>
        if b = true then te σ2 H3 fun y H4 => ∃ acc, H4 D = some (.lst acc) ∧ acc.length < sizeLine ∧ Nx (upd H4 D (.lst (acc ++ [y]))) else Nx H3) := by
  have hlen := dw.len
  refine lc_it dw.walk (fun i H => ∃ α C acc dacc, LcSt X.K α1 H1 D α H C acc dacc ∧ acc.length ≤ i ∧ lcD s t p f ρw (s.items.drop i) dacc C = .ok (ds, C2)) ?_ ?_ ?_ ?_
  · exact ⟨_, _, [], [], LcSt.start c1 hD, Nat.le_refl _, by rw [List.drop_zero]; exact hcomp⟩
  · rintro i H hi ⟨α, C, acc, dacc, l, _, w⟩
    refine dw.good α H C l.ex l.cr ?_
    cases hd : s.items.drop i with
    | nil => rw [hd] at w; exact (chk_eq w (by simp)).1
    | cons x xs => rw [hd] at w; exact (chk_eq w (by simp)).1
  · rintro i x H H' hi ⟨α, C, acc, dacc, l, hl, w⟩ y
    have hdr : s.items.drop i = s.items[i] :: s.items.drop (i + 1) := List.drop_eq_getElem_cons hi
    rw [hdr] at w
    obtain ⟨ok2, w⟩ := chk_eq w (by simp)
    obtain ⟨ρ1, C3, w1, w⟩ := bnd_ok w
    obtain ⟨b, C4, w2, w⟩ := bnd_ok w
    obtain ⟨e2, c2, rx⟩ := dw.gives i x H H' α C s.items[i] l.ex l.cr ok2 y (by simp [hi])
    have l2 := l.go c1 e2 c2
    have r2 : SR X.K α (wipe σ vs) H' ρw := ⟨r1.len, fun j z h => by
      obtain ⟨v, h1, h2⟩ := r1.at_ j z h
      exact ⟨v, h1, h2.extW c1 l2.ex⟩⟩
    refine hg _ _ _ _ ⟨α, C, ρw, _, c2, r2, rx, wpO_of w1 fun α3 H3 e3 c3 σ3 r3 a3 => ⟨?_, ?_⟩⟩
    · rw [agr_wipe a3 hix, wipe_wipe]
    · refine ht _ _ _ ⟨α3, C3, ρ1, c3, r3, wpO_of w2 fun α4 H4 e4 c4 => ?_⟩
      have l4 := (l2.go c1 e3 c3).go c1 e4 c4
      cases b with
      | false =>
        rw [if_neg Bool.false_ne_true] at w
        dsimp only
        rw [if_neg Bool.false_ne_true]
        exact ⟨α4, C4, acc, dacc, l4, Nat.le_succ_of_le hl, w⟩
      | true =>
        rw [if_pos rfl] at w
        dsimp only
        rw [if_pos rfl]
        obtain ⟨yd, C5, w3, w⟩ := bnd_ok w
        refine he _ _ _ ⟨α4, C4, ρ1, c4, r3.ext c3 e4, wpO_of w3 fun α5 H5 e5 c5 v rv => ?_⟩
        have l5 := l4.go c1 e5 c5
        exact ⟨acc, l5.at_, Nat.lt_of_le_of_lt hl (Nat.lt_of_lt_of_le hi hlen), α5, C5, _, _, l5.grow c1 hD rv, by rw [List.length_append]; exact Nat.succ_le_succ hl, w⟩
  · rintro H ⟨α, C, acc, dacc, l, hl, w⟩
    rw [List.drop_length] at w
    obtain ⟨_, w⟩ := chk_eq w (by simp)
    cases w
    exact hd α H acc l (Nat.le_trans hl hlen)
/-- what a block's parts are shown in -/
abbrev Blk (X : Cx) (scope : Scope) (P : Cx → Prop) : Prop := ∀ (s : Shared) (H : Hp) (C : Addr) (cl : List (Str × Addr)) (fp : List Addr), P (X.blk s H scope (compEnvC scope cl C X.env) fp)
theorem tLc_of {fi : IX} {t : TX} {p : BX} {f : EX} {vs ix : List Nat} {g : TG} {tt : TT} {te : TE} {σ : St} {H : Hp} {Q : VK} (hix : ∀ i ∈ ix, i ∈ vs) (h : tD X W (xLc fi vs t p f) σ H Q) : tLc (iD X W fi) (gD X ix t) (tDT X W0 p) (tD X W0 f) vs σ H Q := by
  obtain ⟨α, C, ρ, c, r, h⟩ := h
  refine ⟨α, C, ρ, c, r, (WpO.bnd c h).mono fun α1 H1 C1 s e1 c1 h1 J G Y dw D hD => ?_⟩
  obtain ⟨ds, C2, hcomp, h2⟩ := wpNbok h1
  refine lc_main c1 ((r.ext c e1).wipe vs) hD hix dw hcomp (fun _ _ _ _ h => h) (fun _ _ _ h => h) (fun _ _ _ h => h) fun α3 H3 acc l hl => ?_
  obtain ⟨e3, c3, v3⟩ := l.done hl
  exact h2 _ H3 e3 c3 (.ref D) v3
theorem de_lc {elt tg iter : Expr} {ifs : List Expr} {scope : Scope} {pos : Pos} {fi : IX} {t : TX} {p : BX} {f : EX} (own : List (Str × Nat)) {ix : List Nat} (hc : X.calm = true) (hN : X.N.Nodup) (hi : DI X W tg iter fi)
    (hg : Blk X scope fun Y => DG Y tg ix t) (ht : Blk X scope fun Y => DTs Y W0 ifs p) (he : Blk X scope fun Y => DE Y W0 elt f) (ok : blkC X.N X.env.scope scope own = true := by decide +kernel) (hix : ∀ i ∈ ix, i ∈ own.map (·.2) := by decide)
    (hs : ∀ x, foldedSetIterable iter X.env x = pure x := by intro _; rfl) : DE X W (.ListComp elt [⟨tg, iter, ifs, 0⟩] scope pos) (xLc fi (own.map (·.2)) t p f) :=
  peImp (pe_lc (g := gD X ix t) (tt := tDT X W0 p) (te := tD X W0 f) hc hN hi (blkOk_by ok) hg ht he hs) fun σ H Q h => tLc_of (g := gD X ix t) (tt := tDT X W0 p) (te := tD X W0 f) hix h
/-- x = [..] on one line -/
theorem ds_setLc {i : Nat} {y : Str} {py : Pos} {elt tg iter : Expr} {ifs : List Expr} {scope : Scope} {pos spos : Pos} {fi : IX} {t : TX} {p : BX} {f : EX} (own : List (Str × Nat)) {ix : List Nat} (hc : X.calm = true) (hN : X.N.Nodup) (hi : DI X W tg iter fi)
    (hg : Blk X scope fun Y => DG Y tg ix t) (ht : Blk X scope fun Y => DTs Y W0 ifs p) (he : Blk X scope fun Y => DE Y W0 elt f) (hy : X.N[i]? = some y := by rfl) (hyl : X.env.scope.names.lookup y = some .local := by rfl)
    (hsw : swapsWith (.ListComp elt [⟨tg, iter, ifs, 0⟩] scope pos) (some (.Name y py)) spos.line X.env = pure true := by exact sw_true rfl rfl rfl (by decide +kernel)) (ok : blkC X.N X.env.scope scope own = true := by decide +kernel) (hix : ∀ i ∈ ix, i ∈ own.map (·.2) := by decide)
    (hs : ∀ x, foldedSetIterable iter X.env x = pure x := by intro _; rfl) : DS X W (.Assign [.Name y py] (.ListComp elt [⟨tg, iter, ifs, 0⟩] scope pos) spos) (sSet i (xLc fi (own.map (·.2)) t p f)) :=
  psImp (ps_setLc (g := gD X ix t) (tt := tDT X W0 p) (te := tD X W0 f) hc hN hy hyl hsw hi (blkOk_by ok) hg ht he hs) fun E σ H ⟨α, C, ρ, c, r, h⟩ =>
    tLc_of (g := gD X ix t) (tt := tDT X W0 p) (te := tD X W0 f) hix ⟨α, C, ρ, c, r, (WpS.sE c r h).mono fun α1 H1 C1 x e1 c1 h1 v rv => h1.nx c1 ((r.ext c e1).set rv)⟩
end
end DL

/-! DL8: defs as they stand behind the top, calls of them by place and by name, the law's end. -/
namespace DL
open PySem L2
open PyProof.Rows (envOfC)
/-- how its arguments bind: n by place, ks by name; perm tells for each parameter which of all these it is -/
def KB (K : PySem.W.Frag) (fd : FuncData) (ps : List Str) (n : Nat) (ks : List Str) (perm : List Nat) : Prop :=
  ∀ (s : Shared) (us ws : List Value), us.length = n → ws.length = ks.length → BindsTo s fd ⟨us, ks.zip ws⟩ (ps.zip (perm.map fun i => (us ++ ws).getD i .none))
theorem kb_of {K : PySem.W.Frag} {x qual : Str} {st : Stmt} {f : Addr} {fd : FuncData} {ps ks : List Str} {n : Nat} {perm : List Nat} (F : Fun K x qual st f fd)
    (h : ∀ (kV doc pm : Value) (an : Option Addr) (cdv ct : Value) (us ws : List Value), us.length = n → ws.length = ks.length →
      bindArgs (PySem.W.fnOf x qual (defArgs st) (defBody st) (defScope st) .none kV doc pm an cdv ct) ⟨us, ks.zip ws⟩ = pure (ps.zip (perm.map fun i => (us ++ ws).getD i .none))) : KB K fd ps n ks perm := by
  obtain ⟨oc, od, kV, doc, pm, an, cdv, ct, osl, rfl, lk, hcd⟩ := F.ex
  exact fun s us ws h1 h2 => .of_eq (h kV doc pm an cdv ct us ws h1 h2)
section
variable {X : Cx} {W : WX} {k n m : Nat} {f : Addr} {fd : FuncData} {ps ks : List Str} {g : List D → Mo D} {x : Str} {p pos : Pos} {e : Expr} {es : List Expr} {fa fk : AX} {σ : St} {H : Hp} {Q : VK} {kws : List Keyword} {perm : List Nat} {nm : Option Str} {kpos : Pos} {fe : EX}
abbrev DK (X : Cx) (W : WX) (kws : List Keyword) (f : AX) : Prop := PK X kws (tDA X W f)
theorem pkImp {kws : List Keyword} {t t' : TA} (h : PK X kws t) (i : ∀ σ H Q, t' σ H Q → t σ H Q) : PK X kws t' := ⟨fun pos pins s σ H Q I q => h.run pos pins s σ H Q I (i σ H Q q)⟩
theorem dk_nil : DK X W [] aNil := pkImp pk_nil fun σ H Q ⟨α, C, ρ, c, r, h⟩ => WpO.ret c h [] .nil
theorem dk_cons (ha : DE X W e fe) (hr : DK X W kws fk) : DK X W (⟨nm, e, kpos⟩ :: kws) (aCons fe fk) := pkImp (pk_cons ha hr) fun σ H Q ⟨α, C, ρ, c, r, h⟩ => by
  refine ⟨α, C, ρ, c, r, (WpO.bnd c h).mono fun α1 H1 C1 x e1 c1 h1 v rv => ?_⟩
  refine ⟨α1, C1, ρ, c1, r.ext c e1, (WpO.bnd c1 h1).mono fun α2 H2 C2 xs e2 c2 h2 vs rvs => ?_⟩
  exact WpO.ret c2 h2 (v :: vs) (.cons (rv.ext c1 e2) rvs)
def xCallK (n nu nk : Nat) (perm : List Nat) (g : List D → Mo D) (fa fk : AX) : EX := fun ρ => bnd (fa ρ) fun us => if us.length = nu then bnd (fk ρ) fun ws => if ws.length = nk ∧ perm.length = n then g (perm.map fun i => (us ++ ws).getD i .non) else bad else bad
theorem VRs.pmu {K : PySem.W.Frag} {α : Al} {H : Hp} {xs : List V} {ds : List D} (r : VRs K α H xs ds) : ∀ perm : List Nat, VRs K α H (perm.map fun i => xs.getD i .non) (perm.map fun i => ds.getD i .non)
  | [] => .nil
  | i :: is => by
    refine .cons ?_ (VRs.pmu r is)
    dsimp only
    rw [List.getD_eq_getElem?_getD, List.getD_eq_getElem?_getD]
    cases h : xs[i]? with
    | none =>
      have hl : ds[i]? = none := by
        rw [List.getElem?_eq_none_iff] at h ⊢
        rw [← r.length]; exact h
      rw [hl]
      exact .non
    | some v =>
      obtain ⟨d, h1, h2⟩ := r.get h
      rw [h1]
      exact h2
theorem vals_pmu {xs : List V} {us : List Value} (r : Vals xs us) : ∀ perm : List Nat, Vals (perm.map fun i => xs.getD i .non) (perm.map fun i => us.getD i .none)
  | [] => .nil
  | i :: is => by
    refine .cons ?_ (vals_pmu r is)
    dsimp only
    rw [List.getD_eq_getElem?_getD, List.getD_eq_getElem?_getD]
    cases h : xs[i]? with
    | none =>
      rw [r.none_of h]
      rfl
    | some v =>
      obtain ⟨d, h1, h2⟩ := r.get h
      rw [h1]
      exact h2
theorem run_fnkS {pins : List (Addr × Obj)} {s : Shared} {us ws : List Value} {vs zs : List V} {nu : Nat} (F : FnOk X.prog X.w X.K X.mg X.base (L2.CX X.prog X.w) k f fd ps (spD X.K X.mg n g)) (hr : Room k X.A) (hb : KB X.K fd ps nu ks perm) (tk : Tk X W)
    (I : Inv X pins σ H s) (r : Vals vs us) (rz : Vals zs ws) (h1 : us.length = nu) (h2 : ws.length = ks.length) (h : spD X.K X.mg n g (perm.map fun i => (vs ++ zs).getD i .non) H Q (WE W σ)) : wpAny (model X.prog X.w) X.A (call (.ref f) us (ks.zip ws)) (EP X pins σ Q) X.xe s := by
  have r2 := vals_pmu (r.append rz) perm
  refine wpAny_call (codeAny_mono (F.run X.A X.stack s H ⟨us, ks.zip ws⟩ _ _ Q _ hr I.env0 (hb s us ws h1 h2) r2 h) fun r s' hq => ?_)
  cases r with
  | error e => exact tk σ pins H s e s' I hq
  | ok fl =>
    cases fl with
    | ret u => exact I.after hq
    | next => exact False.elim hq
    | brk => exact False.elim hq
    | cont => exact False.elim hq
theorem wl_len {K : PySem.W.Frag} {vs : List V} {us : List Value} (r : Vals vs us) : us.length = vs.length := r.length.symm
/-- f(k = v, ..) -/
theorem de_callK0 (F : FnOk X.prog X.w X.K X.mg X.base (L2.CX X.prog X.w) k f fd ps (spD X.K X.mg n g)) (hr : Room k X.A) (hm : X.mg x = some (.ref f)) (hk : PySem.W.keepIn X.K (.ref f) = true) (hb : KB X.K fd ps 0 ks perm) (tk : Tk X W)
    (hkw : DK X W kws fk) (hg : Gl X x := by rfl) (hall : (backToKw pos (keywordEach kws X.env)).all (·.1.isSome) = true := by rfl) (hks : (backToKw pos (keywordEach kws X.env)).filterMap (·.1) = ks := by rfl)
    (hdb : (x == ("__debug__" : Str)) = false := by decide) (hpl : ((backTo pos (starEach [] X.env)).any (·.1) || (backToKw pos (keywordEach kws X.env)).any (·.1.isNone)) = false := by rfl) :
    DE X W (.Call (.Name x p) [] kws pos) (xCallK n 0 ks.length perm g aNil fk) := by
  refine ⟨fun pins s σ H Q I ⟨α, C, ρ, c, r, h⟩ => ?_⟩
  refine wpAny_Call_Name_kw (ld_glob I hg hm ?_ hdb)
  refine PySem.W.callWith_KW0 (h₀ := X.base) I.ok.mod.kin hk hall ?_ hpl
  have h1 := WpO.bnd c h
  have h1 := WpO.ret c h1
  rw [if_pos (show ([] : List D).length = 0 from rfl)] at h1
  refine thn (hkw.run pos pins s σ H (fun zs H2 => zs.length = ks.length ∧ spD X.K X.mg n g (perm.map fun i => (([] : List V) ++ zs).getD i .non) H2 Q (WE W σ)) I ⟨α, C, ρ, c, r, (WpO.bnd c h1).mono fun α2 H2 C2 ws e2 c2 h2 zs rz => ?_⟩) fun ws s2 ⟨zs, H2, I2, rz, l2, q2⟩ => ⟨I2.kIn, ?_⟩
  · split at h2
    · rename_i hc
      exact ⟨by rw [rz.length]; exact hc.1, α2, C2, _, c2, VRs.pmu (VRs.append .nil rz) perm, by rw [List.length_map]; exact hc.2, h2⟩
    · exact h2.elim
  · rw [hks]
    exact run_fnkS (vs := []) (us := []) F hr hb tk I2 .nil rz rfl (by rw [← rz.length]; exact l2) q2
/-- f(e, .., k = v, ..) -/
theorem de_callK {nu : Nat} (F : FnOk X.prog X.w X.K X.mg X.base (L2.CX X.prog X.w) k f fd ps (spD X.K X.mg n g)) (hr : Room k X.A) (hm : X.mg x = some (.ref f)) (hk : PySem.W.keepIn X.K (.ref f) = true) (hb : KB X.K fd ps nu ks perm) (tk : Tk X W)
    (ha : DA X W (e :: es) fa) (hkw : DK X W kws fk) (hg : Gl X x := by rfl) (hall : (backToKw pos (keywordEach kws X.env)).all (·.1.isSome) = true := by rfl) (hks : (backToKw pos (keywordEach kws X.env)).filterMap (·.1) = ks := by rfl)
    (hdb : (x == ("__debug__" : Str)) = false := by decide) (he : starEach (e :: es) X.env = (false, eval e X.env) :: starEach es X.env := by rfl)
    (hpl : ((backTo pos (starEach (e :: es) X.env)).any (·.1) || (backToKw pos (keywordEach kws X.env)).any (·.1.isNone)) = false := by rfl) :
    DE X W (.Call (.Name x p) (e :: es) kws pos) (xCallK n nu ks.length perm g fa fk) := by
  refine ⟨fun pins s σ H Q I ⟨α, C, ρ, c, r, h⟩ => ?_⟩
  refine wpAny_Call_Name_kw (ld_glob I hg hm ?_ hdb)
  refine PySem.W.callWith_KW (h₀ := X.base) I.ok.mod.kin hk hall (thn (ha.run pos pins s σ H (fun vs H1 => vs.length = nu ∧ tDA X W fk σ H1 fun zs H2 => zs.length = ks.length ∧ spD X.K X.mg n g (perm.map fun i => (vs ++ zs).getD i .non) H2 Q (WE W σ)) I ⟨α, C, ρ, c, r, (WpO.bnd c h).mono fun α1 H1 C1 us e1 c1 h1 vs rv => ?_⟩) fun us s1 ⟨vs, H1, I1, r1, l1, q⟩ => ?_) hpl he
  · by_cases hc : us.length = nu
    · rw [if_pos hc] at h1
      refine ⟨rv.length.trans hc, α1, C1, ρ, c1, r.ext c e1, (WpO.bnd c1 h1).mono fun α2 H2 C2 ws e2 c2 h2 zs rz => ?_⟩
      split at h2
      · rename_i hc2
        exact ⟨by rw [rz.length]; exact hc2.1, α2, C2, _, c2, VRs.pmu (VRs.append (rv.ext c1 e2) rz) perm, by rw [List.length_map]; exact hc2.2, h2⟩
      · exact h2.elim
    · rw [if_neg hc] at h1
      exact h1.elim
  · refine thn (hkw.run pos pins s1 σ H1 _ I1 q) fun ws s2 ⟨zs, H2, I2, rz, l2, q2⟩ => ⟨I2.kIn, ?_⟩
    rw [hks]
    exact run_fnkS (us := us) F hr hb tk I2 r1 rz (by rw [← r1.length]; exact l1) (by rw [← rz.length]; exact l2) q2
end

/-! ### defs as they stand behind the top -/
/-- the def st stands under the name x -/
def Def (K : PySem.W.Frag) (mg : Str → Option Value) (x : Str) (st : Stmt) (ps : List Str) (f : Addr) (fd : FuncData) : Prop := Fun K x x st f fd ∧ mg x = some (.ref f) ∧ Binds K fd ps []
structure Cal (P : Program) (w : World) (K : PySem.W.Frag) (mg : Str → Option Value) (base : Heap) (x : Str) (st : Stmt) (ps : List Str) (k n : Nat) (g : List D → Mo D) : Prop where
  ex : ∃ f fd, FnOk P w K mg base (L2.CX P w) k f fd ps (spD K mg n g) ∧ Def K mg x st ps f fd
section
variable {P : Program} {w : World} {K : PySem.W.Frag} {mg : Str → Option Value} {base : Heap}
theorem cal_of {x : Str} {st : Stmt} {f : Addr} {fd : FuncData} {N ps : List Str} {k n m : Nat} {b : SX} (d : Def K mg x st ps f fd) (S : FnScope N ps (defScope st)) (hn : ps.length = n) (hm : N.length = m)
    (hb : ∀ (cdv : Value) (A : Around) (outer : List Env) (s : Shared) (H : Hp) (E : XK), Room k (A.deeper (envOfC x (defScope st) s.heap.objs.size f cdv)) →
      DSs (cxOf (L2.CX P w) P w K mg base N x (defScope st) f cdv A outer s H E) (fun c d _ H => E c d H) (defBody st) b) : Cal P w K mg base x st ps (k + 1) n (fnD m b) := by
  subst hm
  exact ⟨f, fd, fn_ok b d.1 S hn hb, d⟩
theorem Cal.imp {x : Str} {st : Stmt} {ps : List Str} {k n : Nat} {g g' : List D → Mo D} (c : Cal P w K mg base x st ps k n g) (h : ∀ ds C, ds.length = n → g' ds C ≠ .bad → g ds C = g' ds C) : Cal P w K mg base x st ps k n g' := by
  obtain ⟨f, fd, F, d⟩ := c.ex
  exact ⟨f, fd, fn_imp F h, d⟩
end
/-- in a def's body: what leaves a callee leaves it too -/
theorem tk_fn {X : Cx} {E₁ : XK} (hs : X.stack = X.env :: X.outer) (hf : X.env.frame = some X.env.locals) (hex : X.ex = []) (hx : X.xe = fun e s' => wpAny (model X.prog X.w) X.A (leaving X.env e) (fun _ s'' => L2.CX X.prog X.w X.outer X.H_0 X.s_0 E₁ e s'') (fun _ _ => False) s') :
    Tk X (fun c d _ H => E₁ c d H) := tk_of (takes_of hs hf hex hx)
section
variable {X : Cx} {W : WX} {k j n : Nat} {ps ks : List Str} {g : List D → Mo D} {x : Str} {st : Stmt} {p pos : Pos} {e : Expr} {es : List Expr} {fa fk : AX} {kws : List Keyword}
theorem cc (c : Cal X.prog X.w X.K X.mg X.base x st ps k n g) (hr : Room j X.A) (tk : Tk X W) (ha : DA X W (e :: es) fa) (hj : k ≤ j := by decide) (hg : Gl X x := by rfl) (hdb : (x == ("__debug__" : Str)) = false := by decide)
    (he : starEach (e :: es) X.env = (false, eval e X.env) :: starEach es X.env := by rfl) (hpl : (backTo pos (starEach es X.env)).any (·.1) = false := by rfl) : DE X W (.Call (.Name x p) (e :: es) [] pos) (xCall n g fa) := by
  obtain ⟨f, fd, F, d⟩ := c.ex
  exact de_call F (hr.mono hj) d.2.1 d.1.kp d.2.2 tk ha hg hdb he hpl
theorem cc0 (perm : List Nat) (c : Cal X.prog X.w X.K X.mg X.base x st ps k n g) (hr : Room j X.A) (tk : Tk X W) (hkw : DK X W kws fk)
    (h : ∀ (kV doc pm : Value) (an : Option Addr) (cdv ct : Value) (us ws : List Value), us.length = 0 → ws.length = ks.length →
      bindArgs (PySem.W.fnOf x x (defArgs st) (defBody st) (defScope st) .none kV doc pm an cdv ct) ⟨us, ks.zip ws⟩ = pure (ps.zip (perm.map fun i => (us ++ ws).getD i .none)))
    (hj : k ≤ j := by decide) (hg : Gl X x := by rfl) (hall : (backToKw pos (keywordEach kws X.env)).all (·.1.isSome) = true := by rfl) (hks : (backToKw pos (keywordEach kws X.env)).filterMap (·.1) = ks := by rfl)
    (hdb : (x == ("__debug__" : Str)) = false := by decide) (hpl : ((backTo pos (starEach [] X.env)).any (·.1) || (backToKw pos (keywordEach kws X.env)).any (·.1.isNone)) = false := by rfl) : DE X W (.Call (.Name x p) [] kws pos) (xCallK n 0 ks.length perm g aNil fk) := by
  obtain ⟨f, fd, F, d⟩ := c.ex
  exact de_callK0 F (hr.mono hj) d.2.1 d.1.kp (kb_of d.1 h) tk hkw hg hall hks hdb hpl
theorem cck (perm : List Nat) {nu : Nat} (c : Cal X.prog X.w X.K X.mg X.base x st ps k n g) (hr : Room j X.A) (tk : Tk X W) (ha : DA X W (e :: es) fa) (hkw : DK X W kws fk)
    (h : ∀ (kV doc pm : Value) (an : Option Addr) (cdv ct : Value) (us ws : List Value), us.length = nu → ws.length = ks.length →
      bindArgs (PySem.W.fnOf x x (defArgs st) (defBody st) (defScope st) .none kV doc pm an cdv ct) ⟨us, ks.zip ws⟩ = pure (ps.zip (perm.map fun i => (us ++ ws).getD i .none)))
    (hj : k ≤ j := by decide) (hg : Gl X x := by rfl) (hall : (backToKw pos (keywordEach kws X.env)).all (·.1.isSome) = true := by rfl) (hks : (backToKw pos (keywordEach kws X.env)).filterMap (·.1) = ks := by rfl)
    (hdb : (x == ("__debug__" : Str)) = false := by decide) (he : starEach (e :: es) X.env = (false, eval e X.env) :: starEach es X.env := by rfl)
    (hpl : ((backTo pos (starEach (e :: es) X.env)).any (·.1) || (backToKw pos (keywordEach kws X.env)).any (·.1.isNone)) = false := by rfl) : DE X W (.Call (.Name x p) (e :: es) kws pos) (xCallK n nu ks.length perm g fa fk) := by
  obtain ⟨f, fd, F, d⟩ := c.ex
  exact de_callK F (hr.mono hj) d.2.1 d.1.kp (kb_of d.1 h) tk ha hkw hg hall hks hdb he hpl
end

/-! ### the law -/
def spLaw (K : PySem.W.Frag) : Sp := fun vs H Q _ => ∃ (a : Addr) (ns : List Int), vs = [.ref a] ∧ SqF K H a (ns.map V.int) ∧ ns.length ≤ 63 ∧ ∀ H', Q (.bl true) H'
theorem law_ok {P : Program} {w : World} {K : PySem.W.Frag} {mg : Str → Option Value} {base : Heap} {x : Str} {st : Stmt} {ps : List Str} {k : Nat} {g : List D → Mo D} (c : Cal P w K mg base x st ps k 1 g)
    (h : ∀ ns : List Int, ns.length ≤ 63 → ∃ C, g [.scr (ns.map D.int)] [] = .ok (.bl true, C)) : ∃ f fd, FnOk P w K mg base (L2.CX P w) k f fd ps (spLaw K) ∧ Def K mg x st ps f fd := by
  obtain ⟨f, fd, F, d⟩ := c.ex
  refine ⟨f, fd, F.imp fun vs H Q E ⟨a, ns, e, hs, hl, q⟩ => ?_, d⟩
  subst e
  obtain ⟨C, hC⟩ := h ns hl
  refine ⟨⟨[], []⟩, [], [.scr (ns.map D.int)], ⟨rfl, List.nodup_nil, fun k a cl h => by simp at h, fun _ h => nomatch h⟩, .cons (.scr hs (by rw [List.length_map]; exact Nat.le_trans hl (by decide)) (VRs.ints ns)) .nil, rfl, ?_⟩
  rw [hC]
  intro α' H' _ _ v rv
  rw [rv.blInv]
  exact q H'
end DL

/-! DL9: t[::-1], {}. -/
namespace DLR
open PySem PySem.Spec PyProof.Rows HT
section
variable {prog : Program} {w : World} {A : Around} {E : Value → Shared → Prop} {s : Shared}
theorem adjust_rev (n : Nat) : Builtin.Slice.sliceAdjust none none (-1) (n : Int) = ((n : Int) - 1, -1) := by
  have h1 : ((-1 : Int) < 0) := by omega
  unfold Builtin.Slice.sliceAdjust
  simp only [h1, if_true]
theorem places_rev (n : Nat) : Builtin.Slice.slicePlaces ((n : Int) - 1) (-1) (-1) = n := by
  unfold Builtin.Slice.slicePlaces
  have h1 : ¬ ((-1 : Int) > 0) := by omega
  simp only [h1, if_false, Int.neg_neg, Int.ediv_one]
  split <;> omega
theorem filterMap_all {β γ : Type} {f : β → Option γ} {g : β → γ} : ∀ {l : List β}, (∀ m ∈ l, f m = some (g m)) → l.filterMap f = l.map g
  | [], _ => rfl
  | a :: l, h => by
    rw [List.filterMap_cons, h a List.mem_cons_self, List.map_cons]
    dsimp only
    rw [filterMap_all fun m hm => h m (List.mem_cons_of_mem _ hm)]
theorem pick_rev (xs : Array Value) : ((List.range xs.size).filterMap fun (m : Nat) => xs[(((xs.size : Int) - 1) + (m : Int) * (-1)).toNat]?).toArray = xs.toList.reverse.toArray := by
  congr 1
  have e : ∀ m ∈ List.range xs.size, xs[(((xs.size : Int) - 1) + (m : Int) * (-1)).toNat]? = some (xs.toList.reverse.getD m .none) := fun m hm => by
    have hm' := List.mem_range.mp hm
    have e1 : (((xs.size : Int) - 1) + (m : Int) * (-1)).toNat = xs.size - 1 - m := by omega
    rw [e1, List.getD_eq_getElem?_getD, List.getElem?_reverse (by simpa using hm')]
    rw [Array.getElem?_toList] 
    simp only [Array.length_toList]
    rw [Array.getElem?_eq_getElem (by omega)]
    rfl
  have e2 : (List.range xs.size).filterMap (fun (m : Nat) => xs[(((xs.size : Int) - 1) + (m : Int) * (-1)).toNat]?) = (List.range xs.size).map fun m => xs.toList.reverse.getD m .none := filterMap_all e
  rw [e2]
  refine List.ext_getElem (by simp) fun i h1 h2 => ?_
  simp only [List.getElem_map, List.getElem_range]
  rw [List.getD_eq_getElem?_getD, List.getElem?_eq_getElem h2]
  rfl
theorem sliceApplied_rev {sl : Addr} {vs : Value} {n : Nat} {Q : Int × Int × Nat → Shared → Prop} (hs : s.heap.IsSliceOf sl .none .none vs) (ps : IsPart vs (some (-1)))
    (h : Q ((n : Int) - 1, -1, n) s) : wpAny (model prog w) A (Builtin.Slice.sliceApplied (.ref sl) (pure (n : Int))) Q E s := by
  obtain ⟨os, hos, hcs, hds⟩ := id hs
  unfold Builtin.Slice.sliceApplied Builtin.Slice.sliceFields
  refine wpAny_bind (wpAny_bind (wpAny_field hos hds (x := .none) rfl (wpAny_bind (wpAny_field hos hds (x := .none) rfl (wpAny_bind (wpAny_field hos hds (x := vs) rfl (wpAny_pure ?_)))))))
  refine wpAny_bind (slicePart_ ps ?_)
  show wpAny _ _ (if ((-1 : Int) == 0) = true then _ else _) _ _ s
  rw [if_neg (by decide)]
  refine wpAny_bind (slicePart_ .none (wpAny_bind (slicePart_ .none (wpAny_bind (wpAny_pure ?_)))))
  show wpAny _ _ (match Builtin.Slice.sliceAdjust none none (-1) (n : Int) with | (lo, hi) => pure (lo, (-1 : Int), Builtin.Slice.slicePlaces lo hi (-1))) _ _ s
  rw [adjust_rev n]
  show wpAny _ _ (pure ((n : Int) - 1, (-1 : Int), Builtin.Slice.slicePlaces ((n : Int) - 1) (-1) (-1))) _ _ s
  rw [places_rev]
  exact wpAny_pure h
theorem getItem_tuple_rev {t sl : Addr} {items : Array Value} {vs : Value} {Q : Value → Shared → Prop} (ht : IsTup s.heap t items) (hs : s.heap.IsSliceOf sl .none .none vs) (ps : IsPart vs (some (-1)))
    (h : Q (.ref s.heap.objs.size) { s with heap := s.heap.push { cls := .type "tuple", data := .seq items.toList.reverse.toArray } })
    (hsz : items.size ≤ sizeLine) : wpAny (model prog w) A (getItem (.ref t) (.ref sl)) Q E s := by
  have htake : sizeOk (.seq items.toList.reverse.toArray) := by
    show items.toList.reverse.toArray.size ≤ sizeLine
    rw [List.size_toArray, List.length_reverse, Array.length_toList]
    exact hsz
  obtain ⟨os, hos, hcs, hds⟩ := id hs
  have hTs : s.TypeIs (.ref sl) "slice" := ⟨os, hos, hcs⟩
  unfold getItem
  try with_reducible refine wpAny_holding ?_
  first | refine wpAny_bind (wpAny_pure ?_) | skip
  refine wpAny_bind (wpAny_sequenceKey ht.typeIs (by decide) ?_)
  refine wpAny_bind (wpAny_callSpecial?_slot (name := Str.ofString "__getitem__") ht.typeIs PyProof.Rows.slot_tuple_getitem
    (wpAny_call_entry PyProof.Rows.slot_tuple_getitem ht.typeIs entry_tuple_getitem ?_ (args_tuple_getitem _ _)))
  show wpAny _ _ (Builtin.Tuple.tupleItemsOf (.ref t) >>= _) _ _ s
  refine wpAny_bind (tupleItemsOf_ ht ?_)
  refine wpAny_bind (wpAny_typeOf hTs ?_)
  rw [if_pos (by decide)]
  refine wpAny_bind (sliceApplied_rev (n := items.size) hs ps ?_)
  have hno : ¬ (((((items.size : Int) - 1) == 0 && (-1 : Int) == 1) && items.size == items.size) = true) := by
    intro q
    rw [Bool.and_eq_true, Bool.and_eq_true] at q
    exact absurd q.1.2 (by decide)
  show wpAny _ _ (if (((((items.size : Int) - 1) == 0 && (-1 : Int) == 1) && items.size == items.size) = true) then _ else _) _ _ s
  rw [if_neg hno, pick_rev]
  first
    | exact wpAny_bind (m := Builtin.Tuple.tupleExact _) (wpAny_newObj_type (wpAny_pure ⟨_, rfl, wpAny_pure h⟩) htake)
    | exact wpAny_bind (m := Builtin.Tuple.tupleExact _) (wpAny_newObj_type (wpAny_bind (wpAny_pure (wpAny_pure ⟨_, rfl, wpAny_pure h⟩))) htake)
    | exact wpAny_bind (wpAny_bind (m := Builtin.Tuple.tupleExact _) (wpAny_newObj_type (wpAny_pure (wpAny_pure ⟨_, rfl, wpAny_pure h⟩)) htake))
    | exact wpAny_bind (wpAny_bind (m := Builtin.Tuple.tupleExact _) (wpAny_newObj_type (wpAny_pure ⟨_, rfl, wpAny_pure h⟩) htake))
end
end DLR
namespace DL
open PySem L2
section
variable {X : Cx} {W : WX} {e : Expr} {f : EX} {pos : Pos}
def tRevT (K : PySem.W.Frag) (te : TE) : TE := fun σ H Q => te σ H fun x H1 => ∃ a xs, x = .ref a ∧ xs.length ≤ sizeLine ∧ SqT K H1 a xs ∧ ∀ p, H1 p = none → Q (.ref p) (upd H1 p (.tup xs.reverse))
theorem pe_revT {e : Expr} {te : TE} {k : Nat} {p1 p2 p3 pos : Pos} (he : PE X e te) : PE X (.Subscript e (.Slice none none (some (.UnaryOp .USub (.Constant (.int 1) k p1) p2)) p3) pos) (tRevT X.K te) := by
  refine ⟨fun pins s σ H Q I h => ?_⟩
  refine PyProof.Rows.Subscript_ (thn (he.run pins s σ H _ I h) fun v s1 ⟨x, H1, I1, r1, q1⟩ => ?_)
  obtain ⟨a, xs, ex, hz0, hx, q⟩ := q1
  subst ex
  cases r1
  have hst : PO X (some (.UnaryOp .USub (.Constant (.int 1) k p1) p2)) (tPart (tUn (rU fun i => .int (-i)) (tC (.int 1)))) := po_some (pe_un un_neg pe_int)
  refine wpAny_Slice (thn (po_none.run pins s1 σ H1 (fun o H2 => o = none ∧ H2 = H1) I1 ⟨rfl, rfl⟩) fun vl s2 ⟨l, H2, I2, pl, el, e2⟩ => ?_)
  subst el e2
  refine thn (po_none.run pins s2 σ H2 (fun o H3 => o = none ∧ H3 = H2) I2 ⟨rfl, rfl⟩) fun vu s3 ⟨u, H3, I3, pu, eu, e3⟩ => ?_
  subst eu e3
  refine thn (hst.run pins s3 σ H3 (fun o H4 => o = some (-1) ∧ H4 = H3) I3 ⟨1, rfl, -1, rfl, rfl, rfl⟩) fun vs s4 ⟨o, H4, I4, ps, eo, e4⟩ => ?_
  subst eo e4
  have I5 : Inv X pins σ H4 { s4 with heap := s4.heap.push { cls := .type "slice", data := .fields #[vl, vu, vs] } } := I4.kept (t' := s4.toks) fun b ob q => Heap.get?_push_of_some _ q
  obtain ⟨its, r, ht, hz⟩ := I5.tuple hx
  have hlen := r.length
  show wpAny (model X.prog X.w) X.A (PyProof.Rows.subscriptTail e (.Slice none none (some (.UnaryOp .USub (.Constant (.int 1) k p1) p2)) p3) (.ref a) (.ref s4.heap.objs.size)) (EP X pins σ Q) X.xe { s4 with heap := s4.heap.push { cls := .type "slice", data := .fields #[vl, vu, vs] } }
  refine PyProof.Rows.tail_any (ops := [.ref a, .ref s4.heap.objs.size]) ht.typeIs (PyProof.Rows.slot_tuple_getitem.lookup) ?_ (by with_unfolding_all rfl)
  cases pl
  cases pu
  refine DLR.getItem_tuple_rev ht (Heap.IsSliceOf.new _ _ _ vs) ps ?_ (by rw [List.size_toArray]; omega)
  refine ⟨.ref _, _, I5.laid (t' := s4.toks) (o := .tup xs.reverse) (fun b ob q => Heap.get?_push_of_some _ q) (Nat.le_refl _) ?_, rfl, q _ (I5.hok.fresh (Nat.le_refl _))⟩
  exact ⟨by rw [List.length_reverse]; exact hz, _, r.reverse, ⟨_, Heap.get?_push_size _ rfl, rfl, _, rfl⟩⟩
/-- o[::-1], o a tuple -/
def xRevT (f : EX) : EX := x1 (fun C x => match look C x with
  | .tup ds => some (.tup ds.reverse)
  | _ => none) f
theorem de_revT {k : Nat} {p1 p2 p3 : Pos} (he : DE X W e f) : DE X W (.Subscript e (.Slice none none (some (.UnaryOp .USub (.Constant (.int 1) k p1) p2)) p3) pos) (xRevT f) := peImp (pe_revT he) fun σ H Q h => by
  obtain ⟨α, C, ρ, c, r, h⟩ := tD_x1 h
  refine ⟨α, C, ρ, c, r, h.mono fun α1 H1 C1 x e1 c1 h1 v rv => ?_⟩
  obtain ⟨α2, C2, dx, dz, c2, rx, hz, ans⟩ := h1 v rv
  dsimp only at hz
  split at hz
  · rename_i ds hl
    cases hz
    obtain ⟨a, xs, rfl, ha, za, ra⟩ := rx.asT c2 hl
    exact ⟨a, xs, rfl, za, SqT.of ha, fun p hp => ans.new c2 hp (vrNewT c2 hp (by rw [List.length_reverse]; exact za) ra.reverse)⟩
  · cases hz
/-- {} -/
theorem de_dnew : DE X W (.Dict [] [] pos) (xC (.dct [] [])) := peImp pe_dnewK fun σ H Q ⟨α, C, ρ, c, r, h⟩ p hp =>
  h α (upd H p (.dK [])) (Ext.new c hp) (c.new hp) (.ref p) (.dctK upd_same (c.notin_of_none hp) rfl .nil)
/-! ### and, or, not as values -/
variable {a b : Expr} {rest : List Expr} {g : EX}
def xOr (f g : EX) : EX := fun ρ => bnd (f ρ) fun x => bnd (lft fun C => truth C x) fun t => if t = true then ret x else g ρ
def xAnd (f g : EX) : EX := fun ρ => bnd (f ρ) fun x => bnd (lft fun C => truth C x) fun t => if t = true then g ρ else ret x
def xNot (f : EX) : EX := fun ρ => bnd (f ρ) fun x => bnd (lft fun C => truth C x) fun t => ret (.bl (!t))
theorem de_one {op : BoolOp} (h : DE X W a f) : DE X W (.BoolOp op [a] pos) f := pe_one h
theorem de_or (ha : DE X W a f) (hb : DE X W (.BoolOp .Or (b :: rest) pos) g) : DE X W (.BoolOp .Or (a :: b :: rest) pos) (xOr f g) := peImp (pe_orT ha hb) fun σ H Q ⟨α, C, ρ, c, r, h⟩ => by
  refine ⟨α, C, ρ, c, r, (WpO.bnd c h).mono fun α1 H1 C1 x e1 c1 h1 v rv => ?_⟩
  obtain ⟨t, ht, q⟩ := (WpO.bnd c1 h1).lft
  have q := q α1 H1 (Ext.refl _ _) c1
  refine ⟨t, truth_ok c1 rv ht, ?_⟩
  cases t with
  | true =>
    rw [if_pos rfl] at q ⊢
    exact WpO.ret c1 q v rv
  | false =>
    rw [if_neg Bool.false_ne_true] at q ⊢
    exact ⟨α1, C1, ρ, c1, r.ext c e1, q⟩
theorem de_and (ha : DE X W a f) (hb : DE X W (.BoolOp .And (b :: rest) pos) g) : DE X W (.BoolOp .And (a :: b :: rest) pos) (xAnd f g) := peImp (pe_andT ha hb) fun σ H Q ⟨α, C, ρ, c, r, h⟩ => by
  refine ⟨α, C, ρ, c, r, (WpO.bnd c h).mono fun α1 H1 C1 x e1 c1 h1 v rv => ?_⟩
  obtain ⟨t, ht, q⟩ := (WpO.bnd c1 h1).lft
  have q := q α1 H1 (Ext.refl _ _) c1
  refine ⟨t, truth_ok c1 rv ht, ?_⟩
  cases t with
  | true =>
    rw [if_pos rfl] at q ⊢
    exact ⟨α1, C1, ρ, c1, r.ext c e1, q⟩
  | false =>
    rw [if_neg Bool.false_ne_true] at q ⊢
    exact WpO.ret c1 q v rv
theorem de_not (ha : DE X W a f) : DE X W (.UnaryOp .Not a pos) (xNot f) := peImp (pe_notT ha) fun σ H Q ⟨α, C, ρ, c, r, h⟩ => by
  refine ⟨α, C, ρ, c, r, (WpO.bnd c h).mono fun α1 H1 C1 x e1 c1 h1 v rv => ?_⟩
  obtain ⟨t, ht, q⟩ := (WpO.bnd c1 h1).lft
  exact ⟨t, truth_ok c1 rv ht, WpO.ret c1 (q α1 H1 (Ext.refl _ _) c1) _ (.bl _)⟩
/-! ### displays, by their length -/
def LenA (fa : AX) (n : Nat) : Prop := ∀ ρ C xs C', fa ρ C = .ok (xs, C') → xs.length = n
theorem lenNil : LenA aNil 0 := fun _ _ _ _ h => aNil_len h
theorem lenCons {f : EX} {fa : AX} {n : Nat} (h : LenA fa n) : LenA (aCons f fa) (n + 1) := fun _ _ _ _ e => aCons_len h e
variable {es : List Expr} {fa : AX} {n : Nat}
def xTup (fa : AX) : EX := xN (fun _ xs => some (.tup xs)) fa
def xLst (fa : AX) : EX := xN (fun _ xs => some (.lst xs)) fa
theorem de_tupN {x1 : Nat} (h : DA X W es fa) (l : LenA fa n) (hn : n ≤ sizeLine := by decide) : DE X W (.Tuple es x1 pos) (xTup fa) := de_tup h fun ρ C xs C' e => by rw [l ρ C xs C' e]; exact hn
theorem de_lstN (h : DA X W es fa) (l : LenA fa n) (hn : n ≤ sizeLine := by decide) : DE X W (.List es pos) (xLst fa) := de_lst h fun ρ C xs C' e => by rw [l ρ C xs C' e]; exact hn
theorem de_cellN (h : DA X W es fa) (l : LenA fa n) (hn : n ≤ sizeLine := by decide) : DE X W (.List es pos) (xCell fa) := de_cell h fun ρ C xs C' e => by rw [l ρ C xs C' e]; exact hn
theorem room65 {k : Nat} {A : Around} (hr : Room k A) : A.units + 65 < cLine := by have := hr.un; omega
end
theorem law_fn {P : Program} {w : World} {K : PySem.W.Frag} {mg : Str → Option Value} {base : Heap} {f : Addr} {fd : FuncData} {ps : List Str} {k : Nat} {g : List D → Mo D} (F : FnOk P w K mg base (L2.CX P w) k f fd ps (spD K mg 1 g))
    (h : ∀ ns : List Int, ns.length ≤ 63 → ∃ C, g [.scr (ns.map D.int)] [] = .ok (.bl true, C)) : FnOk P w K mg base (L2.CX P w) k f fd ps (spLaw K) := by
  refine F.imp fun vs H Q E ⟨a, ns, e, hs, hl, q⟩ => ?_
  subst e
  obtain ⟨C, hC⟩ := h ns hl
  refine ⟨⟨[], []⟩, [], [.scr (ns.map D.int)], ⟨rfl, List.nodup_nil, fun k a cl h => by simp at h, fun _ h => nomatch h⟩, .cons (.scr hs (by rw [List.length_map]; exact Nat.le_trans hl (by decide)) (VRs.ints ns)) .nil, rfl, ?_⟩
  rw [hC]
  intro α' H' _ _ v rv
  rw [rv.blInv]
  exact q H'
theorem sqF_of {K : PySem.W.Frag} {H : Hp} {a : Addr} {xs : List V} (o : Only H) (h : SqL K H a xs) : SqF K H a xs := by
  rcases h with (h | ⟨ob, h⟩) | h
  · rcases o a with z | ⟨ob, ys, z⟩
    · rw [h] at z; cases z
    · rw [h] at z; cases z
  · exact .inl ⟨ob, h⟩
  · exact .inr h
/-- the walk that the head leaves -/
theorem walkD {l : PySem.W.OpenLaw} {k : Nat} {q : Program} {loose : List Str} {XP : (Str → Option Value) → Heap → Prop} {YP : World → Heap → Prop} {d : DefRec} {K : Params → PySem.W.Frag} (hn : l.most = some 63) (hdf : d.params.defaults = []) (hr : Room k callerA)
    (hY : ∀ (w : World) (h : Heap), YP w h → (K w.params).In h)
    (F : ∀ (w : World) (mg : Str → Option Value) (fa : Addr) (h : Heap), (K w.params).In h → h.Ns mainGlobals mg → mg d.name = some (.ref fa) →
      ∃ fd : FuncData, (∀ (s : Shared) (u : Value), BindsTo s fd ⟨[u], []⟩ [("script", u)]) ∧ ∀ base : Heap, (K w.params).In base → base.Ns mainGlobals mg → FnOk l.prog w (K w.params) mg base (L2.CX l.prog w) k fa fd ["script"] (spLaw (K w.params))) :
    PySem.W.WalkO q loose XP YP l.row.toRowW d [] (fun f vs => PySem.call f vs) :=
  L2.walk_of (n := 63) (k := k) (x := "script") (CX := fun w => L2.CX l.prog w) (sp := fun w => spLaw (K w.params)) hn (by decide) hdf hr hY F (fun _ _ a ns hl o hS => ⟨a, ns, rfl, sqF_of o hS, hl, fun _ => rfl⟩) fun w H s e s' z => by
    obtain ⟨_, _, _, _, _, _, _, _, _, _, _, _, z⟩ := z
    exact z.elim
end DL

/-! DL10: new lists as cells. -/
namespace DL
open PySem L2
section
variable {X : Cx} {W : WX} {a b e : Expr} {f g : EX} {pos : Pos} {σ : St} {H : Hp} {Q : VK}
/-- a new list's data becomes a cell -/
def mkC (ds : List D) : Mo D := fun C => .ok (.hnd C.length, C ++ [.lst ds])
theorem mkC_ok {α : Al} {C : Cells} {ds : List D} {xs : List V} {E : XK} (c : CR X.K α H C) (h : WpO X.K X.mg α H (fun α' H' _ x => ∀ v, VR X.K α' H' v x → Q v H') E (mkC ds C)) (hl : xs.length ≤ sizeLine) (r : VRs X.K α H xs ds) {p : Addr} (hp : H p = none) : Q (.ref p) (upd H p (.lst xs)) := by
  have ex := Ext.newCell (o := .lst xs) c hp
  have cn : CR X.K (α.push p) (upd H p (.lst xs)) (C ++ [.lst ds]) := c.newCell hp ⟨xs, upd_same, hl, r.ext c ex⟩
  exact h (α.push p) _ ex cn (.ref p) (.hnd (by rw [← c.len]; simp))
def catL (x y : D) : Mo D := fun C => match look C x, look C y with
  | .lst a, .lst b => if a.length + b.length ≤ sizeLine then mkC (a ++ b) C else .bad
  | _, _ => .bad
def xCat (f g : EX) : EX := fun ρ => bnd (f ρ) fun x => bnd (g ρ) fun y => catL x y
theorem de_catC (ha : DE X W a f) (hb : DE X W b g) : DE X W (.BinOp a .Add b pos) (xCat f g) := peImp (pe_op op_cat ha hb) fun σ H Q ⟨α, C, ρ, c, r, h⟩ => by
  refine ⟨α, C, ρ, c, r, (WpO.bnd c h).mono fun α1 H1 C1 x e1 c1 h1 v rv => ?_⟩
  refine ⟨α1, C1, ρ, c1, r.ext c e1, (WpO.bnd c1 h1).mono fun α2 H2 C2 y e2 c2 h2 w rw => ?_⟩
  unfold catL at h2
  split at h2
  · rename_i as bs l1 l2
    split at h2
    · rename_i hl
      obtain ⟨a, xs, rfl, ha, za, ra⟩ := (rv.ext c1 e2).asL c2 l1
      obtain ⟨b, ys, rfl, hb, zb, rb⟩ := rw.asL c2 l2
      have q1 := ra.length
      have q2 := rb.length
      exact ⟨_, _, xs, ys, rfl, rfl, ha, hb, by omega, fun p hp => mkC_ok c2 h2 (by rw [List.length_append]; omega) (ra.append rb) hp⟩
    · exact h2.elim
  · exact h2.elim
end
end DL

/-! DL11: list(range(..)), gcd, sum, max, min, any, all, sorted. -/
namespace DL
open PySem L2
section
variable {X : Cx} {W : WX} {a b e : Expr} {es : List Expr} {f g : EX} {fa : AX} {pos : Pos} {σ : St} {H : Hp} {Q : VK}
def rgO1 : D → Option (List D)
  | .int j => if -1000000 ≤ j ∧ j ≤ 1000000 then some (rgD 0 j) else none
  | _ => none
def rgO2 (x y : D) : Option (List D) := match x, y with
  | .int i, .int j => if -1000000 ≤ i ∧ i ≤ 1000000 ∧ -1000000 ≤ j ∧ j ≤ 1000000 then some (rgD i j) else none
  | _, _ => none
theorem rgV_ok {K : PySem.W.Frag} {α : Al} {H : Hp} {i j : Int} : VRs K α H (rgV i j) (rgD i j) := by
  have e : rgV i j = (List.range (j - i).toNat).map fun (k : Nat) => V.int (i + (k : Int)) := by
    unfold rgV
    try rfl
    try (refine List.map_congr_left fun k _ => ?_; congr 1; omega)
  rw [e]
  unfold rgD
  generalize List.range (j - i).toNat = l
  induction l with
  | nil => exact .nil
  | cons k l ih => exact .cons (.int _) ih
theorem rgV_len {i j : Int} : (rgV i j).length = (j - i).toNat := by simp [rgV]
/-- list(range(n)) -/
def xLr1 (f : EX) : EX := x1 (fun _ x => (rgO1 x).map .lst) f
def xLr2 (f g : EX) : EX := x2 (fun _ x y => (rgO2 x y).map .lst) f g
theorem de_lr1 {p p2 pos2 : Pos} (hc : X.calm = true) (hm : X.mg "list" = none) (hm2 : X.mg "range" = none) (ha : DE X W e f) (hg : Gl X "list" := by rfl) (hg2 : Gl X "range" := by rfl) (na : starEach [.Call (.Name "range" p2) [e] [] pos2] X.env = (false, eval (.Call (.Name "range" p2) [e] [] pos2) X.env) :: starEach [] X.env := by rfl)
    (nb : starEach [e] X.env = (false, eval e X.env) :: starEach [] X.env := by rfl) : DE X W (.Call (.Name "list" p) [.Call (.Name "range" p2) [e] [] pos2] [] pos) (xLr1 f) :=
  peImp (pe_listRg hc hg hm (prg_1 hg2 hm2 ha nb) na) fun σ H Q h => by
  obtain ⟨α, C, ρ, c, r, h⟩ := tD_x1 h
  refine ⟨α, C, ρ, c, r, h.mono fun α1 H1 C1 x e1 c1 h1 v rv => ?_⟩
  obtain ⟨α2, C2, dx, dz, c2, rx, hz, ans⟩ := h1 v rv
  obtain ⟨ds, h1, h2⟩ := Option.map_eq_some_iff.mp hz
  subst h2
  cases dx with
  | int j =>
    unfold rgO1 at h1
    dsimp only at h1
    split at h1
    · rename_i hj
      cases h1
      refine ⟨j, rx.intInv, ⟨by omega, by omega, by omega, by omega, by omega⟩, fun q hq => ans.new c2 hq (vrNew c2 hq ?_ rgV_ok)⟩
      rw [rgV_len]
      exact Nat.le_trans (show (j - 0).toNat ≤ 1000000 by omega) (by decide)
    · cases h1
  | _ => cases h1
theorem de_lr2 {p p2 pos2 : Pos} (hc : X.calm = true) (hm : X.mg "list" = none) (hm2 : X.mg "range" = none) (ha : DE X W e f) (hb : DE X W b g) (hg : Gl X "list" := by rfl) (hg2 : Gl X "range" := by rfl) (na : starEach [.Call (.Name "range" p2) [e, b] [] pos2] X.env = (false, eval (.Call (.Name "range" p2) [e, b] [] pos2) X.env) :: starEach [] X.env := by rfl)
    (nb : starEach [e, b] X.env = (false, eval e X.env) :: starEach [b] X.env := by rfl) (nc : starEach [b] X.env = (false, eval b X.env) :: starEach [] X.env := by rfl) (hp : (backTo pos2 (starEach [b] X.env)).any (·.1) = false := by rfl) : DE X W (.Call (.Name "list" p) [.Call (.Name "range" p2) [e, b] [] pos2] [] pos) (xLr2 f g) :=
  peImp (pe_listRg hc hg hm (prg_2 hg2 hm2 ha hb nb nc hp) na) fun σ H Q h => by
  obtain ⟨α, C, ρ, c, r, h⟩ := tD_x2 h
  refine ⟨α, C, ρ, c, r, h.mono fun α1 H1 C1 x e1 c1 h1 v rv => ?_⟩
  obtain ⟨α2, C2, ρ2, c2, r2, h2⟩ := h1 v rv
  refine ⟨α2, C2, ρ2, c2, r2, h2.mono fun α3 H3 C3 y e3 c3 h3 w rw => ?_⟩
  obtain ⟨α4, C4, dx, dy, dz, c4, rx, ry, hz, ans⟩ := h3 w rw
  obtain ⟨ds, h1, h2⟩ := Option.map_eq_some_iff.mp hz
  subst h2
  cases dx with
  | int i =>
    cases dy with
    | int j =>
      unfold rgO2 at h1
      dsimp only at h1
      split at h1
      · rename_i hj
        cases h1
        refine ⟨i, j, rx.intInv, ry.intInv, ⟨by omega, by omega, by omega, by omega, by omega⟩, fun q hq => ans.new c4 hq (vrNew c4 hq ?_ rgV_ok)⟩
        rw [rgV_len]
        exact Nat.le_trans (show (j - i).toNat ≤ 2000000 by omega) (by decide)
      · cases h1
    | _ => cases h1
  | _ => cases h1
/-- gcd -/
def oGcd : OpN := fun _ xs => match xs with
  | [.int i, .int j] => some (.int ((Nat.gcd i.natAbs j.natAbs : Nat) : Int))
  | _ => none
theorem c_gcd : CallR X (.builtin "math.gcd") (rDN X.K oGcd) := callImp cr_gcd fun xs H Q ⟨α, C, ds, dz, c, r, h, ans⟩ => by
  unfold oGcd at h
  split at h
  · rename_i i j
    cases h
    obtain ⟨v, v', rfl, rv, rv'⟩ := vrs2 r
    exact ⟨i, j, by rw [rv.intInv, rv'.intInv], ans.here c (.int _)⟩
  · cases h
theorem de_bfun {x : Str} {id : String} {o : OpN} {p : Pos} (hc : CallR X (.builtin id) (rDN X.K o)) (hg : Gl X x) (hm : X.mg x = some (.builtin id)) (ha : DA X W (e :: es) fa)
    (hdb : (x == ("__debug__" : Str)) = false := by decide) (he : starEach (e :: es) X.env = (false, eval e X.env) :: starEach es X.env := by rfl) (hpl : (backTo pos (starEach es X.env)).any (·.1) = false := by rfl) : DE X W (.Call (.Name x p) (e :: es) [] pos) (xN o fa) :=
  peImp (pe_callBfun hc hg hm ha hdb he hpl) fun σ H Q h => tD_xN h

/-! ### lists of ints, of truths -/
def intsO : List D → Option (List Int)
  | [] => some []
  | .int i :: r => (intsO r).map (i :: ·)
  | _ :: _ => none
def blsO : List D → Option (List Bool)
  | [] => some []
  | .bl i :: r => (blsO r).map (i :: ·)
  | _ :: _ => none
theorem intsO_eq : ∀ {ds : List D} {ns : List Int}, intsO ds = some ns → ds = ns.map D.int
  | [], ns, h => by cases h; rfl
  | .int i :: r, ns, h => by
    obtain ⟨m, h1, h2⟩ := Option.map_eq_some_iff.mp (show (intsO r).map (i :: ·) = some ns from h)
    subst h2
    rw [intsO_eq h1]
    rfl
  | .non :: _, _, h => nomatch h
  | .bl _ :: _, _, h => nomatch h
  | .str _ :: _, _, h => nomatch h
  | .tup _ :: _, _, h => nomatch h
  | .lst _ :: _, _, h => nomatch h
  | .dct _ _ :: _, _, h => nomatch h
  | .hnd _ :: _, _, h => nomatch h
  | .ref _ :: _, _, h => nomatch h
  | .ty _ :: _, _, h => nomatch h
  | .scr _ :: _, _, h => nomatch h
theorem blsO_eq : ∀ {ds : List D} {ns : List Bool}, blsO ds = some ns → ds = ns.map D.bl
  | [], ns, h => by cases h; rfl
  | .bl i :: r, ns, h => by
    obtain ⟨m, h1, h2⟩ := Option.map_eq_some_iff.mp (show (blsO r).map (i :: ·) = some ns from h)
    subst h2
    rw [blsO_eq h1]
    rfl
  | .non :: _, _, h => nomatch h
  | .int _ :: _, _, h => nomatch h
  | .str _ :: _, _, h => nomatch h
  | .tup _ :: _, _, h => nomatch h
  | .lst _ :: _, _, h => nomatch h
  | .dct _ _ :: _, _, h => nomatch h
  | .hnd _ :: _, _, h => nomatch h
  | .ref _ :: _, _, h => nomatch h
  | .ty _ :: _, _, h => nomatch h
  | .scr _ :: _, _, h => nomatch h
theorem vrs_ints {K : PySem.W.Frag} {α : Al} {H : Hp} : ∀ {xs : List V} {ns : List Int}, VRs K α H xs (ns.map D.int) → xs = ns.map V.int
  | _, [], .nil => rfl
  | _, n :: ns, .cons h t => by rw [h.intInv, vrs_ints t]; rfl
theorem vrs_bls {K : PySem.W.Frag} {α : Al} {H : Hp} : ∀ {xs : List V} {ns : List Bool}, VRs K α H xs (ns.map D.bl) → xs = ns.map V.bl
  | _, [], .nil => rfl
  | _, n :: ns, .cons h t => by rw [h.blInv, vrs_bls t]; rfl
/-- the items of a list, no tuple -/
def lstOf : D → Option (List D)
  | .lst ds => some ds
  | .scr ds => some ds
  | _ => none
theorem VR.asLst {K : PySem.W.Frag} {α : Al} {C : Cells} {v : V} {d : D} {ds : List D} (c : CR K α H C) (r : VR K α H v d) (h : lstOf (look C d) = some ds) : ∃ a xs, v = .ref a ∧ SqL K H a xs ∧ xs.length ≤ sizeLine ∧ VRs K α H xs ds := by
  cases hl : look C d with
  | lst es =>
    rw [hl] at h
    cases h
    obtain ⟨a, xs, e, ha, z, ra⟩ := r.asL c hl
    exact ⟨a, xs, e, SqL.of ha, z, ra⟩
  | scr es =>
    rw [hl] at h
    cases h
    obtain ⟨a, xs, e, ha, z, ra⟩ := r.asScr hl
    exact ⟨a, xs, e, ha, z, ra⟩
  | _ => rw [hl] at h; cases h
def oInts (p : List Int → Option D) : OpN := fun C xs => match xs with
  | [x] => ((lstOf (look C x)).bind intsO).bind p
  | _ => none
def oBls (p : List Bool → Option D) : OpN := fun C xs => match xs with
  | [x] => ((lstOf (look C x)).bind blsO).bind p
  | _ => none
theorem oInts_some {K : PySem.W.Frag} {α : Al} {C : Cells} {p : List Int → Option D} {xs : List V} {ds : List D} {dz : D} (c : CR K α H C) (r : VRs K α H xs ds) (h : oInts p C ds = some dz) : ∃ a ns, xs = [.ref a] ∧ SqL K H a (ns.map V.int) ∧ (ns.map V.int).length ≤ sizeLine ∧ p ns = some dz := by
  unfold oInts at h
  split at h
  · rename_i x
    obtain ⟨v, rfl, rv⟩ := vrs1 r
    obtain ⟨ns, h1, h2⟩ := Option.bind_eq_some_iff.mp h
    obtain ⟨es, h3, h4⟩ := Option.bind_eq_some_iff.mp h1
    obtain ⟨a, xs, rfl, ha, z, ra⟩ := rv.asLst c h3
    rw [intsO_eq h4] at ra
    rw [vrs_ints ra] at ha z
    exact ⟨a, ns, rfl, ha, z, h2⟩
  · cases h
theorem oBls_some {K : PySem.W.Frag} {α : Al} {C : Cells} {p : List Bool → Option D} {xs : List V} {ds : List D} {dz : D} (c : CR K α H C) (r : VRs K α H xs ds) (h : oBls p C ds = some dz) : ∃ a ns, xs = [.ref a] ∧ SqL K H a (ns.map V.bl) ∧ p ns = some dz := by
  unfold oBls at h
  split at h
  · rename_i x
    obtain ⟨v, rfl, rv⟩ := vrs1 r
    obtain ⟨ns, h1, h2⟩ := Option.bind_eq_some_iff.mp h
    obtain ⟨es, h3, h4⟩ := Option.bind_eq_some_iff.mp h1
    obtain ⟨a, xs, rfl, ha, z, ra⟩ := rv.asLst c h3
    rw [blsO_eq h4] at ra
    rw [vrs_bls ra] at ha
    exact ⟨a, ns, rfl, ha, h2⟩
  · cases h
def oSum : OpN := oInts fun ns => some (.int ns.sum)
theorem c_sum (hc : X.calm = true) : CallR X (.builtin "sum") (rDN X.K oSum) := callImp (cr_sum hc) fun xs H Q ⟨α, C, ds, dz, c, r, h, ans⟩ => by
  obtain ⟨a, ns, rfl, ha, _, hp⟩ := oInts_some c r h
  cases hp
  exact ⟨a, ns, rfl, ha, ans.here c (.int _)⟩
def maxI (ns : List Int) : Option Int := ns.max?
def minI (ns : List Int) : Option Int := ns.min?
def oMax : OpN := oInts fun ns => ns.max?.map .int
def oMin : OpN := oInts fun ns => ns.min?.map .int
theorem c_max (hc : X.calm = true) : CallR X (.builtin "max") (rDN X.K oMax) := callImp (cr_max hc) fun xs H Q ⟨α, C, ds, dz, c, r, h, ans⟩ => by
  obtain ⟨a, ns, rfl, ha, _, hp⟩ := oInts_some c r h
  obtain ⟨m, h1, h2⟩ := Option.map_eq_some_iff.mp hp
  subst h2
  refine ⟨a, ns, rfl, ha, ?_, fun k hk hl => ?_⟩
  · cases ns with
    | nil => cases h1
    | cons _ _ => simp
  · obtain ⟨h3, h4⟩ := List.max?_eq_some_iff.mp h1
    have e : k = m := Int.le_antisymm (h4 k hk) (hl m h3)
    subst e
    exact ans.here c (.int _)
theorem c_min (hc : X.calm = true) : CallR X (.builtin "min") (rDN X.K oMin) := callImp (cr_min hc) fun xs H Q ⟨α, C, ds, dz, c, r, h, ans⟩ => by
  obtain ⟨a, ns, rfl, ha, _, hp⟩ := oInts_some c r h
  obtain ⟨m, h1, h2⟩ := Option.map_eq_some_iff.mp hp
  subst h2
  refine ⟨a, ns, rfl, ha, ?_, fun k hk hl => ?_⟩
  · cases ns with
    | nil => cases h1
    | cons _ _ => simp
  · obtain ⟨h3, h4⟩ := List.min?_eq_some_iff.mp h1
    have e : k = m := Int.le_antisymm (hl m h3) (h4 k hk)
    subst e
    exact ans.here c (.int _)
def oAny : OpN := oBls fun ns => some (.bl (ns.any id))
theorem c_any (hc : X.calm = true) : CallR X (.builtin "any") (rDN X.K oAny) := callImp (cr_any hc) fun xs H Q ⟨α, C, ds, dz, c, r, h, ans⟩ => by
  obtain ⟨a, ns, rfl, ha, hp⟩ := oBls_some c r h
  cases hp
  exact ⟨a, ns, rfl, ha, ans.here c (.bl _)⟩
def oAll : OpN := oBls fun ns => some (.bl (ns.all id))
theorem c_all (hc : X.calm = true) : CallR X (.builtin "all") (rDN X.K oAll) := callImp (cr_all hc) fun xs H Q ⟨α, C, ds, dz, c, r, h, ans⟩ => by
  obtain ⟨a, ns, rfl, ha, hp⟩ := oBls_some c r h
  cases hp
  exact ⟨a, ns, rfl, ha, ans.here c (.bl _)⟩
def sortI (ns : List Int) : List Int := ns.mergeSort (· ≤ ·)
theorem sortI_eq {ns ms : List Int} (hp : ms.Perm ns) (hs : ms.Pairwise (· ≤ ·)) : ms = sortI ns := by
  refine List.Perm.eq_of_pairwise (le := (· ≤ ·)) (fun a b _ _ h1 h2 => Int.le_antisymm h1 h2) hs ?_ (hp.trans (List.mergeSort_perm ns _).symm)
  have := List.pairwise_mergeSort (le := fun a b : Int => decide (a ≤ b)) (fun a b c h1 h2 => by simp at *; omega) (fun a b => by simp; omega) ns
  exact this.imp fun h => by simpa using h
def oSorted : OpN := oInts fun ns => some (.lst ((sortI ns).map D.int))
theorem c_sorted : CallR X (.builtin "sorted") (rDN X.K oSorted) := callImp cr_sortedI fun xs H Q ⟨α, C, ds, dz, c, r, h, ans⟩ => by
  obtain ⟨a, ns, rfl, ha, z, hp⟩ := oInts_some c r h
  cases hp
  refine ⟨a, ns, rfl, ha, fun ms p h1 h2 hp => ?_⟩
  rw [sortI_eq h1 h2]
  refine ans.new c hp (vrNew c hp ?_ (VRs.ints _))
  rw [List.length_map] at z ⊢
  unfold sortI
  rw [List.length_mergeSort]
  exact z
end
end DL

/-! DL12: sets of ints made of a list or a tuple: sorted(set(xs)). -/
namespace DLS
open PySem PySem.Spec PyProof.Rows L2
abbrev ob0 (w : World) : Obj := { cls := .type "set", dict := none, data := .set #[] 0 (.fresh 0 0 (!w.params.followText "set-order")) }
section
variable {P : Program} {w : World} {A : Around} {E : Value → Shared → Prop} {s : Shared}
def Fit (w : World) (s : Shared) (ns : List Int) (h' : Heap) (c : Nat) : Prop := SetR w h' s.heap.objs.size (fun j => decide (j ∈ ns)) c ∧ c ≤ ns.length ∧ ∀ b o, s.heap.get? b = some o → h'.get? b = some o
set_option maxRecDepth 100000 in
set_option maxHeartbeats 3200000 in
theorem call_setL {l : Addr} {its : Array Value} (ns : List Int) {Q : Value → Shared → Prop} (hh : A.handled = none) (hl : s.heap.IsList l its) (hit : IntsAre its.toList ns) (hb : ns.length + 1 < scanBound)
    (h : ∀ (h' : Heap) (tk c : Nat), Fit w s ns h' c → Q (.ref s.heap.objs.size) { s with heap := h', toks := tk }) : wpAny (model P w) A (call (.type "set") [.ref l]) Q E s := by
  have isz : its.size = ns.length := (Array.length_toList (xs := its)).symm.trans (IntsAre.length hit)
  have ⟨c, tl, mro⟩ := F.called_set.mro; have mk := F.called_set.made; have sb := F.called_set.sub
  refine wpAny_call (codeAny_of_tree (show wpAny _ _ (callAny (.type "set") _) _ _ _ from wpAny_pure ⟨Code.quiet_builtin _ (by decide +kernel), codeAny_builtin F.entry_type_call ?_⟩))
  rw [Around.under_plain (weight_type_call_type "set" [.ref l] []) rfl]
  have q1 := F.called_set.notType; have q2 := F.called_set.canCreate; have q3 := F.typeCall_set_1 (.ref l)
  repeat (any_goals (first | assumption | wp_step))
  let s0 : Shared := { s with heap := s.heap.push (ob0 w) }
  refine codeAny_mono (code_set_led1 (.ref l) (E := E) (Q₁ := fun ob s₁ => ob = .ref s.heap.objs.size ∧ s₁ = { s with heap := s.heap.push (ob0 w) }) ⟨rfl, rfl⟩) fun r s₁ hr => ?_
  match r, hr with
  | .ok (.ret ob), ⟨e1, e2⟩ =>
    subst e1 e2
    have hS : (s.heap.push (ob0 w)).get? s.heap.objs.size = some (ob0 w) := Heap.get?_push_size _ rfl
    have hT : Shared.TypeIs { s with heap := s.heap.push (ob0 w) } (.ref s.heap.objs.size) "set" := ⟨_, hS, rfl⟩
    have i1 := F.called_set.init.lookup; have i2 := F.called_set.init.bind (.ref s.heap.objs.size)
    repeat (any_goals (first | assumption | wp_step))
    refine codeAny_mono (codeAny_call_builtin (R := wants (fun r s₂ => r = .none ∧ ∃ h' tk c, s₂ = { s with heap := h', toks := tk } ∧ Fit w s ns h' c) E) F.called_set.init.plain F.entry_set_init (check_set_init_1 hT ?_)) fun r₂ s₂ z => ?_
    · have ⟨ol, hol, hcl, nl, hdl⟩ := hl
      obtain ⟨ocls, odict, odata, oslots⟩ := ol
      simp only at hcl hdl
      subst hcl hdl
      have hol' : (s.heap.push (ob0 w)).get? l = some { cls := .type "list", dict := odict, data := .seq its nl, slots := oslots } := Heap.get?_push_of_some _ hol
      have n1 := F.sub_list_set; have n2 := F.sub_list_frozenset; have n3 : (Value.type "list" == Value.type "dict") = false := by decide
      have l1 : (s.heap.push (ob0 w)).IsList l its := ⟨_, hol', rfl, nl, rfl⟩
      unfold Builtin.«set.__init__» noKeywords Builtin.Frozenset.updateFrom
      generalize hPI : pyIter = PI
      wp_walk
      subst hPI
      refine wpAny_pyIter_list l1 (wpAny_bind (wpAny_runValue ?_))
      have lS : l < s.heap.objs.size := Heap.lt_size hol
      have hh3 : A.in1.in1.in1.handled = none := by simp [hh]
      have sz : (s.heap.push (ob0 w)).objs.size = s.heap.objs.size + 1 := Heap.size_push ..
      have lI : l ≠ (s.heap.push (ob0 w)).objs.size := Nat.ne_of_lt (by rw [sz]; exact Nat.lt_succ_of_lt lS)
      have sI : s.heap.objs.size ∉ [(s.heap.push (ob0 w)).objs.size, l] := fun z => by
        rcases List.mem_cons.mp z with z | z
        · exact absurd z (Nat.ne_of_lt (by rw [sz]; exact Nat.lt_succ_self _))
        · exact absurd (List.mem_singleton.mp z) (Nat.ne_of_gt lS)
      have val : ∀ (i : Nat) (v : Value), its[i]? = some v → ∃ k t, ns[i]? = some k ∧ v = .int k t := fun i v hv => by
        have hi : i < ns.length := isz ▸ (Array.getElem?_eq_some_iff.mp hv).1
        obtain ⟨t, e⟩ := hit.int_at i v (by rw [Array.getElem?_toList]; exact hv)
        exact ⟨ns[i], t, List.getElem?_eq_getElem hi, by rw [e, List.getD_eq_getElem?_getD, List.getElem?_eq_getElem hi]; rfl⟩
      refine set_update_ints ((Walks.list hh3 _ l lI its).toS) s.heap.objs.size sI ns isz hb val (its.size - 0) 0 _ (by omega) (Nat.zero_le _) ⟨⟨_, Heap.get?_push_size _ rfl, rfl, rfl⟩, l1.push _⟩ ⟨0, Nat.le_refl 0, setR_new_at (Heap.get?_push_of_some _ hS)⟩ fun s' c' hm hc' hS' => ?_
      obtain ⟨h', g2, d', tk', os'⟩ := s'
      have eg : g2 = s.gens := hm.gens; have ed : d' = s.drawn := hm.drawn; have eo : os' = s.os := hm.os
      subst eg ed eo
      refine wpAny_pure (show wpAny _ _ (ret Value.none) _ _ _ from wpAny_pure ⟨rfl, h', tk', c', rfl, hS', isz ▸ hc', fun b o e => ?_⟩)
      have lt := Heap.lt_size e
      refine hm.heap b o (fun z => ?_) (Heap.get?_push_of_some _ (Heap.get?_push_of_some _ e))
      rcases List.mem_cons.mp z with z | z
      · exact absurd z (Nat.ne_of_lt lt)
      · exact absurd (List.mem_singleton.mp z) (Nat.ne_of_lt (by rw [sz]; exact Nat.lt_succ_of_lt lt))
    · match r₂, z with
      | .ok (.ret _), ⟨e1, h', tk, c', e2, ft⟩ =>
        subst e1 e2
        repeat (any_goals (first | assumption | wp_step))
        exact h _ _ _ ft
      | .ok .next, z => exact z.elim
      | .ok .brk, z => exact z.elim
      | .ok .cont, z => exact z.elim
      | .error _, z => exact z
  | .ok .next, z => exact z.elim
  | .ok .brk, z => exact z.elim
  | .ok .cont, z => exact z.elim
  | .error _, z => exact z
end
end DLS
namespace DL
open PySem L2
section
variable {X : Cx} {W : WX} {a b e : Expr} {es : List Expr} {f g : EX} {fa : AX} {pos : Pos} {σ : St} {H : Hp} {Q : VK}
/-- set(xs) of ints: a set -/
def rSetI (K : PySem.W.Frag) (w : World) : List V → Hp → VK → Prop := fun xs H Q => ∃ (l : Addr) (ns : List Int), xs = [V.ref l] ∧ (SqL K H l (ns.map V.int) ∨ SqT K H l (ns.map V.int)) ∧ ns.length ≤ 1000 ∧
  ∀ p c, H p = none → c ≤ ns.length → Q (.ref p) (upd H p (SetO w p (fun j => decide (j ∈ ns)) c))
theorem cr_setI (hc : X.calm = true) : CallR X (.type "set") (rSetI X.K X.w) := by
  intro pins s σ H xs us Q I r h
  obtain ⟨l, ns, rfl, hq, hl, q⟩ := h
  rw [Vals.ref1 r]
  have fin : ∀ (h' : Heap) (tk c : Nat), SetR X.w h' s.heap.objs.size (fun j => decide (j ∈ ns)) c → c ≤ ns.length → (∀ b o, s.heap.get? b = some o → h'.get? b = some o) → EP X pins σ Q (.ref s.heap.objs.size) { s with heap := h', toks := tk } := fun h' tk c R hcl k => by
    have np : H s.heap.objs.size = none := I.hok.fresh (Nat.le_refl _)
    refine ⟨.ref s.heap.objs.size, _, I.call (ch := []) (Un.laid k (Nat.le_refl _) np) (I.hok.laid k (Nat.le_refl _) (setO_new R)) (by exact I.bare) (fun _ z => nomatch z), rfl, q _ _ np hcl⟩
  rcases hq with hq | hq
  · obtain ⟨its, rv, pl, hz⟩ := I.list hq
    exact DLS.call_setL ns (I.ok.hd hc) pl.isList (by simpa using rv.ints) (by unfold scanBound; omega) fun h' tk c ft => fin h' tk c ft.1 ft.2.1 ft.2.2
  · obtain ⟨its, rv, pl, hz⟩ := I.tuple hq
    exact call_set_tupI ns (I.ok.hd hc) pl (by simpa using rv.ints) (by unfold scanBound; omega) fun h' tk c R hcl k => fin h' tk c R hcl k
end
end DL

/-! DL13: sorted(set(xs)), zip, enumerate, tuple(range(..)), a module's tuples. -/
namespace DL
open PySem L2
/-! ### the sorted set -/
def insI (a : Int) : List Int → List Int
  | [] => [a]
  | b :: r => if a < b then a :: b :: r else if a = b then b :: r else b :: insI a r
def dsort (ns : List Int) : List Int := ns.foldr insI []
theorem mem_insI {a k : Int} : ∀ {l : List Int}, k ∈ insI a l ↔ k = a ∨ k ∈ l
  | [] => by simp [insI]
  | b :: r => by
    unfold insI
    split
    · simp
    · split
      · rename_i h1 h2
        subst h2
        simp only [List.mem_cons]
        constructor
        · exact .inr
        · rintro (h | h)
          · exact .inl h
          · exact h
      · rw [List.mem_cons, mem_insI, List.mem_cons]
        constructor
        · rintro (h | h | h)
          · exact .inr (.inl h)
          · exact .inl h
          · exact .inr (.inr h)
        · rintro (h | h | h)
          · exact .inr (.inl h)
          · exact .inl h
          · exact .inr (.inr h)
theorem mem_dsort {k : Int} : ∀ {ns : List Int}, k ∈ dsort ns ↔ k ∈ ns
  | [] => by simp [dsort]
  | a :: r => by
    show k ∈ insI a (dsort r) ↔ _
    rw [mem_insI, mem_dsort, List.mem_cons]
theorem pw_insI {a : Int} : ∀ {l : List Int}, l.Pairwise (· < ·) → (insI a l).Pairwise (· < ·)
  | [], _ => by simp [insI]
  | b :: r, h => by
    obtain ⟨h1, h2⟩ := List.pairwise_cons.mp h
    unfold insI
    split
    · rename_i q
      refine List.pairwise_cons.mpr ⟨fun k hk => ?_, h⟩
      rcases List.mem_cons.mp hk with rfl | hk
      · exact q
      · exact Int.lt_trans q (h1 k hk)
    · split
      · exact h
      · rename_i q1 q2
        refine List.pairwise_cons.mpr ⟨fun k hk => ?_, pw_insI h2⟩
        rcases mem_insI.mp hk with rfl | hk
        · omega
        · exact h1 k hk
theorem pw_dsort : ∀ ns : List Int, (dsort ns).Pairwise (· < ·)
  | [] => List.Pairwise.nil
  | a :: r => pw_insI (pw_dsort r)
/-- rows that rise, with the same numbers, are one row -/
theorem rise_eq : ∀ {l m : List Int}, l.Pairwise (· < ·) → m.Pairwise (· < ·) → (∀ k, k ∈ l ↔ k ∈ m) → l = m
  | [], [], _, _, _ => rfl
  | [], b :: m, _, _, h => by have := (h b).mpr List.mem_cons_self; simp at this
  | a :: l, [], _, _, h => by have := (h a).mp List.mem_cons_self; simp at this
  | a :: l, b :: m, p, q, h => by
    obtain ⟨p1, p2⟩ := List.pairwise_cons.mp p
    obtain ⟨q1, q2⟩ := List.pairwise_cons.mp q
    have e : a = b := by
      rcases List.mem_cons.mp ((h a).mp List.mem_cons_self) with z | z
      · exact z
      · rcases List.mem_cons.mp ((h b).mpr List.mem_cons_self) with y | y
        · exact y.symm
        · have := q1 a z
          have := p1 b y
          omega
    subst e
    rw [rise_eq p2 q2 fun k => ?_]
    constructor
    · intro hk
      rcases List.mem_cons.mp ((h k).mp (List.mem_cons_of_mem _ hk)) with z | z
      · have := p1 k hk; omega
      · exact z
    · intro hk
      rcases List.mem_cons.mp ((h k).mpr (List.mem_cons_of_mem _ hk)) with z | z
      · have := q1 k hk; omega
      · exact z
theorem dsort_le (ns : List Int) : (dsort ns).length ≤ ns.length := by
  have h : ∀ (a : Int) (l : List Int), (insI a l).length ≤ l.length + 1 := fun a l => by
    induction l with
    | nil => exact Nat.le_refl _
    | cons b r ih =>
      unfold insI
      split
      · simp
      · split
        · simp
        · simp; exact ih
  induction ns with
  | nil => exact Nat.le_refl _
  | cons a r ih => exact Nat.le_trans (h a _) (by simp; exact ih)
section
variable {X : Cx} {W : WX} {a b e : Expr} {es : List Expr} {f g : EX} {fa : AX} {pos : Pos} {σ : St} {H : Hp} {Q : VK}
def seqInts (C : Cells) (x : D) : Option (List Int) := (seqOf (look C x)).bind intsO
theorem VR.asInts {K : PySem.W.Frag} {α : Al} {C : Cells} {v : V} {d : D} {ns : List Int} (c : CR K α H C) (r : VR K α H v d) (h : seqInts C d = some ns) : ∃ l, v = .ref l ∧ (SqL K H l (ns.map V.int) ∨ SqT K H l (ns.map V.int)) := by
  obtain ⟨ds, h1, h2⟩ := Option.bind_eq_some_iff.mp h
  obtain ⟨l, xs, e, ha, z, ra⟩ := r.asSeq c h1
  rw [intsO_eq h2] at ra
  rw [vrs_ints ra] at ha
  refine ⟨l, e, ?_⟩
  rcases ha with ha | ha
  · exact .inl ha.1
  · exact .inr (SqT.of ha.1)
/-- sorted(set(xs)) -/
def oSset : Op1 := fun C x => (seqInts C x).bind fun ns => if ns.length < 64 then some (.lst ((dsort ns).map D.int)) else none
theorem de_sset {p p2 pos2 : Pos} (hc : X.calm = true) (hm : X.mg "sorted" = none) (hm2 : X.mg "set" = none) (ha : DE X W e f) (hg : Gl X "sorted" := by rfl) (hg2 : Gl X "set" := by rfl)
    (n1 : starEach [.Call (.Name "set" p2) [e] [] pos2] X.env = (false, eval (.Call (.Name "set" p2) [e] [] pos2) X.env) :: starEach [] X.env := by rfl) (n2 : starEach [e] X.env = (false, eval e X.env) :: starEach [] X.env := by rfl) : DE X W (.Call (.Name "sorted" p) [.Call (.Name "set" p2) [e] [] pos2] [] pos) (x1 oSset f) :=
  peImp (pe_callB (cr_sortedSet hc) hg hm (by rfl) (pa_cons (pe_callTy (cr_setI hc) hg2 hm2 (by rfl) (pa_cons ha pa_nil n2) (by decide) (by decide) n2 (by rfl)) pa_nil n1) (by decide) (by decide) n1 (by rfl)) fun σ H Q h => by
  obtain ⟨α, C, ρ, c, r, h⟩ := tD_x1 h
  refine ⟨α, C, ρ, c, r, h.mono fun α1 H1 C1 x e1 c1 h1 v rv => ?_⟩
  obtain ⟨α2, C2, dx, dz, c2, rx, hz, ans⟩ := h1 v rv
  obtain ⟨ns, hn, hz⟩ := Option.bind_eq_some_iff.mp hz
  split at hz
  · rename_i hl
    cases hz
    obtain ⟨l, rfl, hq⟩ := rx.asInts c2 hn
    refine ⟨l, ns, rfl, hq, by omega, fun p c' hp hcl => ?_⟩
    refine ⟨p, _, c', rfl, upd_same, by omega, fun ms q h1 h2 _ hq => ?_⟩
    have e : ms = dsort ns := rise_eq h1 (pw_dsort ns) fun k => (h2 k).trans (by rw [decide_eq_true_eq]; exact mem_dsort.symm)
    subst e
    have c3 := c2.new (o := SetO X.w p (fun j => decide (j ∈ ns)) c') hp
    have e3 := Ext.new (o := SetO X.w p (fun j => decide (j ∈ ns)) c') c2 hp
    have ans3 : Ans X.K α2 (upd H1 p (SetO X.w p (fun j => decide (j ∈ ns)) c')) C2 Q (.lst ((dsort ns).map D.int)) := fun α4 H4 e4 c4 v rv => ans α4 H4 (e3.trans' c2 c3 e4) c4 v rv
    refine ans3.new c3 hq (vrNew c3 hq ?_ (VRs.ints _))
    rw [List.length_map]
    exact Nat.le_trans (dsort_le ns) (Nat.le_trans (Nat.le_of_lt hl) (by decide))
  · cases hz

/-! ### zip, enumerate -/
/-- a list that stands, no cell -/
theorem stL {K : PySem.W.Frag} {α : Al} {C : Cells} {v : V} {d : D} {ds : List D} (c : CR K α H C) (r : VR K α H v d) (h : lstOf d = some ds) : ∃ l xs, v = .ref l ∧ SqL K H l xs ∧ (∀ α' H', ExtW α H α' H' → SqL K H' l xs) ∧ xs.length ≤ sizeLine ∧ VRs K α H xs ds := by
  cases r with
  | lst h1 n z r => cases h; exact ⟨_, _, rfl, SqL.of h1, fun α' H' e => sqL_ext c e h1 n, z, r⟩
  | scr h1 z r => cases h; exact ⟨_, _, rfl, h1.sq, fun α' H' e => (sqF_ext c e h1).sq, z, r⟩
  | _ => cases h
theorem stT {K : PySem.W.Frag} {α : Al} {C : Cells} {v : V} {ds : List D} (c : CR K α H C) (r : VR K α H v (.tup ds)) : ∃ l xs, v = .ref l ∧ SqT K H l xs ∧ (∀ α' H', ExtW α H α' H' → SqT K H' l xs) ∧ xs.length ≤ sizeLine ∧ VRs K α H xs ds := by
  cases r with
  | tup h1 z r => exact ⟨_, _, rfl, SqT.of h1, fun α' H' e => sqT_ext c e (SqT.of h1), z, r⟩
def zpD (ds es : List D) : List D := List.zipWith (fun x y => .tup [x, y]) ds es
theorem zpD_get {ds es : List D} {i : Nat} {d : D} (h : (zpD ds es)[i]? = some d) : ∃ x y, ds[i]? = some x ∧ es[i]? = some y ∧ d = .tup [x, y] := by
  unfold zpD at h
  rw [List.getElem?_zipWith] at h
  cases h1 : ds[i]? with
  | none => rw [h1] at h; cases h
  | some x =>
    cases h2 : es[i]? with
    | none => rw [h1, h2] at h; cases h
    | some y => rw [h1, h2] at h; exact ⟨x, y, rfl, rfl, (Option.some.inj h).symm⟩
theorem dw_pair {K : PySem.W.Frag} {α : Al} {J : It} {n : Nat} {G : Hp → Prop} {xs ys : Nat → Option V} {ds es : List D} (w : Walk J n G (YPair xs ys)) (hn : n = (zpD ds es).length) (z : n ≤ sizeLine)
    (hg : ∀ α' H', ExtW α H α' H' → G H') (hx : ∀ i x d α' H' C', xs i = some x → ds[i]? = some d → ExtW α H α' H' → CR K α' H' C' → VR K α' H' x d) (hy : ∀ i x d α' H' C', ys i = some x → es[i]? = some d → ExtW α H α' H' → CR K α' H' C' → VR K α' H' x d) : DWalk K α H J ⟨zpD ds es, none⟩ G (YPair xs ys) where
  walk := hn ▸ w
  len := hn ▸ z
  good := fun α' H' C' e _ _ => hg α' H' e
  gives := fun i x H1 H2 α' C' d e c' _ y hd => by
    obtain ⟨T, u, v, rfl, hT, rfl, h1, h2⟩ := y
    obtain ⟨dx, dy, e1, e2, rfl⟩ := zpD_get hd
    exact ⟨Ext.new c' hT, c'.new hT, vrNewT c' hT (by show 2 ≤ sizeLine; decide) (.cons (hx i u dx α' H1 C' h1 e1 e c') (.cons (hy i v dy α' H1 C' h2 e2 e c') .nil))⟩
theorem walk_zT {K : PySem.W.Frag} {a b : Addr} {xs ys : List V} {n : Nat} (hn : n = min xs.length ys.length) : Walk (RZ.ItzT K a b) n (fun H => SqT K H a xs ∧ SqT K H b ys) (YPair (fun i => xs[i]?) (fun i => ys[i]?)) := by
  subst hn
  refine ⟨fun i _ hi q => ⟨xs, ys, xs[i]'(by omega), ys[i]'(by omega), q.1, q.2, List.getElem?_eq_getElem _, List.getElem?_eq_getElem _⟩, fun _ q => ⟨xs, ys, q.1, q.2, by omega⟩, fun i H v H' _ q y => ?_⟩
  obtain ⟨T, x, z, h1, h2, h3, h4, h5⟩ := y
  exact ⟨T, x, z, h1, h2, h3, h4 xs q.1, h5 ys q.2⟩
def zipO (x y : D) : Option Src := match x, y with
  | .tup ds, .tup es => some ⟨zpD ds es, none⟩
  | x, y => match lstOf x, lstOf y with
    | some ds, some es => some ⟨zpD ds es, none⟩
    | _, _ => none
def iZp (fa : AX) : IX := fun ρ => bnd (fa ρ) fun xs => lft fun _ => match xs with
  | [x, y] => zipO x y
  | _ => none
theorem di_zip {elts : List Expr} {kk : Nat} {tpos p : Pos} (hm : X.mg "zip" = none) (ha : DA X W [a, b] fa) (hg : Gl X "zip" := by rfl) (hs : starEach [a, b] X.env = (false, eval a X.env) :: starEach [b] X.env := by rfl) (hpl : (backTo pos (starEach [b] X.env)).any (·.1) = false := by rfl) :
    DI X W (.Tuple elts kk tpos) (.Call (.Name "zip" p) [a, b] [] pos) (iZp fa) := piImp (RZ.pi_zipA hg hm ha hs hpl) fun σ H R ⟨α, C, ρ, c, r, h⟩ => by
  refine ⟨α, C, ρ, c, r, (WpO.bnd c h).mono fun α1 H1 C1 xs e1 c1 h1 vs rvs => ?_⟩
  obtain ⟨s, hs, q⟩ := h1.lft
  have q := q α1 H1 (Ext.refl _ _) c1
  split at hs
  · rename_i x y
    obtain ⟨v, v', rfl, rv, rv'⟩ := vrs2 rvs
    unfold zipO at hs
    split at hs
    · rename_i ds es
      cases hs
      obtain ⟨l, xs, rfl, s1, k1, z1, r1⟩ := stT c1 rv
      obtain ⟨m, ys, rfl, s2, k2, z2, r2⟩ := stT c1 rv'
      refine ⟨l, m, xs, ys, rfl, .inr ⟨s1, s2, q _ _ _ (dw_pair (K := X.K) (n := min xs.length ys.length) (walk_zT rfl) ?_ ?_ (fun α' H' e => ⟨k1 α' H' e, k2 α' H' e⟩) ?_ ?_)⟩⟩
      · unfold zpD; rw [List.length_zipWith, r1.length, r2.length]
      · omega
      · intro i x d α' H' C' h1 h2 e c'
        obtain ⟨d', h3, h4⟩ := r1.get h1
        rw [h2] at h3; cases h3
        exact h4.extW c1 e
      · intro i x d α' H' C' h1 h2 e c'
        obtain ⟨d', h3, h4⟩ := r2.get h1
        rw [h2] at h3; cases h3
        exact h4.extW c1 e
    · split at hs
      · rename_i ds es hx hy
        cases hs
        obtain ⟨l, xs, rfl, s1, k1, z1, r1⟩ := stL c1 rv hx
        obtain ⟨m, ys, rfl, s2, k2, z2, r2⟩ := stL c1 rv' hy
        refine ⟨l, m, xs, ys, rfl, .inl ⟨s1, s2, q _ _ _ (dw_pair (K := X.K) (n := min xs.length ys.length) (walk_zip rfl) ?_ ?_ (fun α' H' e => ⟨k1 α' H' e, k2 α' H' e⟩) ?_ ?_)⟩⟩
        · unfold zpD; rw [List.length_zipWith, r1.length, r2.length]
        · omega
        · intro i x d α' H' C' h1 h2 e c'
          obtain ⟨d', h3, h4⟩ := r1.get h1
          rw [h2] at h3; cases h3
          exact h4.extW c1 e
        · intro i x d α' H' C' h1 h2 e c'
          obtain ⟨d', h3, h4⟩ := r2.get h1
          rw [h2] at h3; cases h3
          exact h4.extW c1 e
      · cases hs
  · cases hs
def idD (ds : List D) : List D := (List.range ds.length).map fun (i : Nat) => .int i
def iEn (fa : AX) : IX := fun ρ => bnd (fa ρ) fun xs => lft fun _ => match xs with
  | [x] => (lstOf x).map fun ds => ⟨zpD (idD ds) ds, none⟩
  | _ => none
theorem di_enum {elts : List Expr} {kk : Nat} {tpos p : Pos} (hm : X.mg "enumerate" = none) (ha : DA X W [e] fa) (hg : Gl X "enumerate" := by rfl) (hs : starEach [e] X.env = (false, eval e X.env) :: starEach [] X.env := by rfl) :
    DI X W (.Tuple elts kk tpos) (.Call (.Name "enumerate" p) [e] [] pos) (iEn fa) := piImp (pi_enum hg hm ha hs) fun σ H R ⟨α, C, ρ, c, r, h⟩ => by
  refine ⟨α, C, ρ, c, r, (WpO.bnd c h).mono fun α1 H1 C1 xs e1 c1 h1 vs rvs => ?_⟩
  obtain ⟨s, hs, q⟩ := h1.lft
  have q := q α1 H1 (Ext.refl _ _) c1
  split at hs
  · rename_i x
    obtain ⟨ds, hd, hs⟩ := Option.map_eq_some_iff.mp hs
    subst hs
    obtain ⟨v, rfl, rv⟩ := vrs1 rvs
    obtain ⟨l, xs, rfl, s1, k1, z1, r1⟩ := stL c1 rv hd
    refine ⟨l, xs, rfl, s1, q _ _ _ (dw_pair (K := X.K) (n := xs.length) walk_enum ?_ z1 (fun α' H' e => k1 α' H' e) ?_ ?_)⟩
    · unfold zpD idD; rw [List.length_zipWith, r1.length]; simp
    · intro i x d α' H' C' h1 h2 e c'
      cases h1
      unfold idD at h2
      rw [List.getElem?_map] at h2
      obtain ⟨j, h3, h4⟩ := Option.map_eq_some_iff.mp h2
      obtain ⟨h5, h6⟩ := List.getElem?_eq_some_iff.mp h3
      rw [List.getElem_range] at h6
      subst h6 h4
      exact .int _
    · intro i x d α' H' C' h1 h2 e c'
      obtain ⟨d', h3, h4⟩ := r1.get h1
      rw [h2] at h3; cases h3
      exact h4.extW c1 e
  · cases hs
/-- tuple(range(a, b)) -/
def xTr1 (f : EX) : EX := x1 (fun _ x => (rgO1 x).map .tup) f
def xTr2 (f g : EX) : EX := x2 (fun _ x y => (rgO2 x y).map .tup) f g
theorem de_tr1 {p p2 pos2 : Pos} (hc : X.calm = true) (hm : X.mg "tuple" = none) (hm2 : X.mg "range" = none) (ha : DE X W e f) (hg : Gl X "tuple" := by rfl) (hg2 : Gl X "range" := by rfl) (na : starEach [.Call (.Name "range" p2) [e] [] pos2] X.env = (false, eval (.Call (.Name "range" p2) [e] [] pos2) X.env) :: starEach [] X.env := by rfl)
    (nb : starEach [e] X.env = (false, eval e X.env) :: starEach [] X.env := by rfl) : DE X W (.Call (.Name "tuple" p) [.Call (.Name "range" p2) [e] [] pos2] [] pos) (xTr1 f) :=
  peImp (pe_tupRg hc hg hm (prg_1 hg2 hm2 ha nb) na) fun σ H Q h => by
  obtain ⟨α, C, ρ, c, r, h⟩ := tD_x1 h
  refine ⟨α, C, ρ, c, r, h.mono fun α1 H1 C1 x e1 c1 h1 v rv => ?_⟩
  obtain ⟨α2, C2, dx, dz, c2, rx, hz, ans⟩ := h1 v rv
  obtain ⟨ds, h1, h2⟩ := Option.map_eq_some_iff.mp hz
  subst h2
  cases dx with
  | int j =>
    unfold rgO1 at h1
    dsimp only at h1
    split at h1
    · rename_i hj
      cases h1
      refine ⟨j, rx.intInv, ⟨by omega, by omega, by omega, by omega, by omega⟩, fun q hq => ans.new c2 hq (vrNewT c2 hq ?_ rgV_ok)⟩
      rw [DL.rgV_len]
      exact Nat.le_trans (show (j - 0).toNat ≤ 1000000 by omega) (by decide)
    · cases h1
  | _ => cases h1
theorem de_tr2 {p p2 pos2 : Pos} (hc : X.calm = true) (hm : X.mg "tuple" = none) (hm2 : X.mg "range" = none) (ha : DE X W e f) (hb : DE X W b g) (hg : Gl X "tuple" := by rfl) (hg2 : Gl X "range" := by rfl) (na : starEach [.Call (.Name "range" p2) [e, b] [] pos2] X.env = (false, eval (.Call (.Name "range" p2) [e, b] [] pos2) X.env) :: starEach [] X.env := by rfl)
    (nb : starEach [e, b] X.env = (false, eval e X.env) :: starEach [b] X.env := by rfl) (nc : starEach [b] X.env = (false, eval b X.env) :: starEach [] X.env := by rfl) (hp : (backTo pos2 (starEach [b] X.env)).any (·.1) = false := by rfl) : DE X W (.Call (.Name "tuple" p) [.Call (.Name "range" p2) [e, b] [] pos2] [] pos) (xTr2 f g) :=
  peImp (pe_tupRg hc hg hm (prg_2 hg2 hm2 ha hb nb nc hp) na) fun σ H Q h => by
  obtain ⟨α, C, ρ, c, r, h⟩ := tD_x2 h
  refine ⟨α, C, ρ, c, r, h.mono fun α1 H1 C1 x e1 c1 h1 v rv => ?_⟩
  obtain ⟨α2, C2, ρ2, c2, r2, h2⟩ := h1 v rv
  refine ⟨α2, C2, ρ2, c2, r2, h2.mono fun α3 H3 C3 y e3 c3 h3 w rw => ?_⟩
  obtain ⟨α4, C4, dx, dy, dz, c4, rx, ry, hz, ans⟩ := h3 w rw
  obtain ⟨ds, h1, h2⟩ := Option.map_eq_some_iff.mp hz
  subst h2
  cases dx with
  | int i =>
    cases dy with
    | int j =>
      unfold rgO2 at h1
      dsimp only at h1
      split at h1
      · rename_i hj
        cases h1
        refine ⟨i, j, rx.intInv, ry.intInv, ⟨by omega, by omega, by omega, by omega, by omega⟩, fun q hq => ans.new c4 hq (vrNewT c4 hq ?_ rgV_ok)⟩
        rw [DL.rgV_len]
        exact Nat.le_trans (show (j - i).toNat ≤ 2000000 by omega) (by decide)
      · cases h1
    | _ => cases h1
  | _ => cases h1
/-! ### a module's tuples -/
mutual
inductive KV (K : PySem.W.Frag) : Value → D → Prop where
  | non : KV K .none .non
  | bl (b : Bool) : KV K (.bool b) (.bl b)
  | int (i : Int) (t : Tok) : KV K (.int i t) (.int i)
  | str (x : Str) (t : Tok) : KV K (.str x t) (.str x)
  | tup {a : Addr} {dd : Option Addr} {vs : List Value} {n : Nat} {sl : Array (Option Value)} {ds : List D} : K.lookup a = some ⟨.type "tuple", dd, .seq vs.toArray n, sl⟩ → vs.length ≤ 100000 → KVs K vs ds → KV K (.ref a) (.ktp ds)
inductive KVs (K : PySem.W.Frag) : List Value → List D → Prop where
  | nil : KVs K [] []
  | cons {v : Value} {vs : List Value} {d : D} {ds : List D} : KV K v d → KVs K vs ds → KVs K (v :: vs) (d :: ds)
end
theorem KVs.length {K : PySem.W.Frag} : ∀ {vs : List Value} {ds : List D}, KVs K vs ds → vs.length = ds.length
  | _, _, .nil => rfl
  | _, _, .cons _ t => by simp [KVs.length t]
mutual
theorem KV.vr {K : PySem.W.Frag} : ∀ {u : Value} {d : D}, KV K u d → ∃ v, RelV v u ∧ ∀ α H, VR K α H v d
  | _, _, .non => ⟨.non, rfl, fun _ _ => .non⟩
  | _, _, .bl b => ⟨.bl b, rfl, fun _ _ => .bl b⟩
  | _, _, .int i t => ⟨.int i, ⟨t, rfl⟩, fun _ _ => .int i⟩
  | _, _, .str x t => ⟨.str x, ⟨t, rfl⟩, fun _ _ => .str x⟩
  | _, _, @KV.tup _ a dd vs n sl ds h z r => by
    obtain ⟨ws, h1, h2⟩ := KVs.vrs r
    have hl : vs.length = ds.length := r.length
    have hw : ws.length ≤ 100000 := by rw [h1.length]; exact z
    refine ⟨.ref a, rfl, fun α H => .ktp (.inr ⟨_, vs.toArray, n, h, rfl, rfl, by simp; exact Nat.le_trans z (by decide), by simpa using h1⟩) (Nat.le_trans hw (by decide)) (h2 α H)⟩
theorem KVs.vrs {K : PySem.W.Frag} : ∀ {us : List Value} {ds : List D}, KVs K us ds → ∃ vs, Vals vs us ∧ ∀ α H, VRs K α H vs ds
  | _, _, .nil => ⟨[], .nil, fun _ _ => .nil⟩
  | _, _, .cons h t => by
    obtain ⟨v, h1, h2⟩ := KV.vr h
    obtain ⟨vs, h3, h4⟩ := KVs.vrs t
    exact ⟨v :: vs, .cons h1 h3, fun α H => .cons (h2 α H) (h4 α H)⟩
end
theorem de_globK {x : Str} {d : D} (hm : ∃ u, X.mg x = some u ∧ KV X.K u d) (hg : Gl X x := by rfl) (hd : (x == ("__debug__" : Str)) = false := by decide) : DE X W (.Name x pos) (xC d) := by
  obtain ⟨u, h0, hk⟩ := hm
  obtain ⟨v, h1, h2⟩ := hk.vr
  exact de_glob h0 h1 h2 hg hd
end
end DL

/-! DL14: comprehensions whose new list is a cell. -/
namespace DL
open PySem L2
section
variable {K : PySem.W.Frag} {α β : Al} {H : Hp} {C : Cells}
mutual
theorem VR.move (hc : ∀ (k : Nat) (a : Addr), α.cs[k]? = some a → β.cs[k]? = some a) (hh : ∀ a, a ∈ β.all → a ∈ α.all) : ∀ {v : V} {d : D}, VR K α H v d → VR K β H v d
  | _, _, .non => .non
  | _, _, .bl b => .bl b
  | _, _, .int i => .int i
  | _, _, .str x => .str x
  | _, _, .tup h z r => .tup h z (VRs.move hc hh r)
  | _, _, .ktp h z r => .ktp h z (VRs.move hc hh r)
  | _, _, .lst h n z r => .lst h (fun m => n (hh _ m)) z (VRs.move hc hh r)
  | _, _, .dctK h n z r => .dctK h (fun m => n (hh _ m)) z (VRs.move hc hh r)
  | _, _, .dctT h n z r => .dctT h (fun m => n (hh _ m)) z (VRs.move hc hh r)
  | _, _, .hnd h => .hnd (hc _ _ h)
  | _, _, .ref a => .ref a
  | _, _, .ty n => .ty n
  | _, _, .scr h z r => .scr h z (VRs.move hc hh r)
theorem VRs.move (hc : ∀ (k : Nat) (a : Addr), α.cs[k]? = some a → β.cs[k]? = some a) (hh : ∀ a, a ∈ β.all → a ∈ α.all) : ∀ {vs : List V} {ds : List D}, VRs K α H vs ds → VRs K β H vs ds
  | _, _, .nil => .nil
  | _, _, .cons h t => .cons (VR.move hc hh h) (VRs.move hc hh t)
end
theorem CellR.move (hc : ∀ (k : Nat) (a : Addr), α.cs[k]? = some a → β.cs[k]? = some a) (hh : ∀ a, a ∈ β.all → a ∈ α.all) {a : Addr} {cl : Cell} (r : CellR K α H a cl) : CellR K β H a cl := by
  cases cl with
  | lst ds =>
    obtain ⟨xs, h1, z, r⟩ := r
    exact ⟨xs, h1, z, r.move hc hh⟩
  | dct ks vs =>
    rcases r with ⟨kvs, h1, z, r⟩ | ⟨kvs, h1, z, r⟩
    · exact .inl ⟨kvs, h1, z, r.move hc hh⟩
    · exact .inr ⟨kvs, h1, z, r.move hc hh⟩
theorem LcSt.doneC {α1 : Al} {H1 : Hp} {D : Addr} {acc : List V} {dacc : List DL.D} (h0 : H1 D = none) (l : LcSt K α1 H1 D α H C acc dacc) (hl : acc.length ≤ sizeLine) :
    Ext α1 H1 ⟨α.cs ++ [D], α1.hs⟩ H ∧ CR K ⟨α.cs ++ [D], α1.hs⟩ H (C ++ [.lst dacc]) ∧ VR K ⟨α.cs ++ [D], α1.hs⟩ H (.ref D) (.hnd C.length) := by
  obtain ⟨hs, cr, ex, hk, at_, rs⟩ := l
  obtain ⟨cs, hs'⟩ := α
  simp only at hs
  subst hs
  have hc : ∀ (k : Nat) (a : Addr), cs[k]? = some a → (cs ++ [D])[k]? = some a := fun k a h => by
    rw [List.getElem?_append_left (List.getElem?_eq_some_iff.mp h).1]; exact h
  have hh : ∀ a, a ∈ (⟨cs ++ [D], α1.hs⟩ : Al).all → a ∈ (⟨cs, D :: α1.hs⟩ : Al).all := fun a m => by
    simp only [Al.all, List.mem_append, List.mem_cons, List.mem_singleton, List.not_mem_nil, or_false] at m ⊢
    rcases m with (m | m) | m
    · exact .inl m
    · exact .inr (.inl m)
    · exact .inr (.inr m)
  have len : cs.length = C.length := cr.len
  have nd := List.nodup_append.mp cr.nd
  refine ⟨⟨⟨?_, noMore, ex.keep⟩, rfl, hk⟩, ⟨by simp [len], ?_, ?_, ?_⟩, .hnd (by show (cs ++ [D])[C.length]? = _; rw [← len]; simp)⟩
  · obtain ⟨γ, e, hn⟩ := ex.pre
    refine ⟨γ ++ [D], by show cs ++ [D] = _; rw [show cs = α1.cs ++ γ from e, List.append_assoc], fun a ha => ?_⟩
    rcases List.mem_append.mp ha with q | q
    · exact hn a q
    · rw [List.mem_singleton.mp q]; exact h0
  · have q : (⟨cs ++ [D], α1.hs⟩ : Al).all = cs ++ (D :: α1.hs) := List.append_assoc cs [D] α1.hs
    rw [q]
    exact cr.nd
  · intro k a cl ha hcl
    by_cases hk2 : k < cs.length
    · have ha' : cs[k]? = Option.some a := by rw [← ha]; exact (List.getElem?_append_left hk2).symm
      rw [List.getElem?_append_left (by rw [← len]; exact hk2)] at hcl
      exact CellR.move (α := ⟨cs, D :: α1.hs⟩) hc hh (cr.at_ k a cl ha' hcl)
    · have hk3 : k < (cs ++ [D]).length := (List.getElem?_eq_some_iff.mp ha).1
      have e : k = cs.length := by simp at hk3; omega
      subst e
      have e1 : a = D := by simpa using ha.symm
      have e2 : cl = .lst dacc := by
        have z : (C ++ [Cell.lst dacc])[C.length]? = Option.some (.lst dacc) := by simp
        rw [len] at hcl
        rw [hcl] at z
        exact Option.some.inj z
      subst e1 e2
      exact ⟨acc, at_, hl, VRs.move (α := ⟨cs, a :: α1.hs⟩) hc hh rs⟩
  · exact fun a ha => cr.hid a (List.mem_cons_of_mem _ ha)
end
section
variable {X : Cx} {W : WX}
noncomputable def xLcC (fi : IX) (vs : List Nat) (t : TX) (p : BX) (f : EX) : EX := fun ρ => bnd (fi ρ) fun s => bnd (nb (lcD s t p f (wipeD ρ vs) s.items [])) mkC
theorem tLc_ofC {fi : IX} {t : TX} {p : BX} {f : EX} {vs ix : List Nat} {g : TG} {tt : TT} {te : TE} {σ : St} {H : Hp} {Q : VK} (hix : ∀ i ∈ ix, i ∈ vs) (h : tD X W (xLcC fi vs t p f) σ H Q) : tLc (iD X W fi) (gD X ix t) (tDT X W0 p) (tD X W0 f) vs σ H Q := by
  obtain ⟨α, C, ρ, c, r, h⟩ := h
  refine ⟨α, C, ρ, c, r, (WpO.bnd c h).mono fun α1 H1 C1 s e1 c1 h1 J G Y dw D hD => ?_⟩
  obtain ⟨ds, C2, hcomp, h2⟩ := wpNbok h1
  refine lc_main c1 ((r.ext c e1).wipe vs) hD hix dw hcomp (fun _ _ _ _ h => h) (fun _ _ _ h => h) (fun _ _ _ h => h) fun α3 H3 acc l hl => ?_
  obtain ⟨e3, c3, v3⟩ := l.doneC hD hl
  exact h2 _ H3 e3 c3 (.ref D) v3
theorem de_lcC {elt tg iter : Expr} {ifs : List Expr} {scope : Scope} {pos : Pos} {fi : IX} {t : TX} {p : BX} {f : EX} (own : List (Str × Nat)) {ix : List Nat} (hc : X.calm = true) (hN : X.N.Nodup) (hi : DI X W tg iter fi)
    (hg : Blk X scope fun Y => DG Y tg ix t) (ht : Blk X scope fun Y => DTs Y W0 ifs p) (he : Blk X scope fun Y => DE Y W0 elt f) (ok : blkC X.N X.env.scope scope own = true := by decide +kernel) (hix : ∀ i ∈ ix, i ∈ own.map (·.2) := by decide)
    (hs : ∀ x, foldedSetIterable iter X.env x = pure x := by intro _; rfl) : DE X W (.ListComp elt [⟨tg, iter, ifs, 0⟩] scope pos) (xLcC fi (own.map (·.2)) t p f) :=
  peImp (pe_lc (g := gD X ix t) (tt := tDT X W0 p) (te := tD X W0 f) hc hN hi (blkOk_by ok) hg ht he hs) fun σ H Q h => tLc_ofC (g := gD X ix t) (tt := tDT X W0 p) (te := tD X W0 f) hix h
theorem ds_setLcC {i : Nat} {y : Str} {py : Pos} {elt tg iter : Expr} {ifs : List Expr} {scope : Scope} {pos spos : Pos} {fi : IX} {t : TX} {p : BX} {f : EX} (own : List (Str × Nat)) {ix : List Nat} (hc : X.calm = true) (hN : X.N.Nodup) (hi : DI X W tg iter fi)
    (hg : Blk X scope fun Y => DG Y tg ix t) (ht : Blk X scope fun Y => DTs Y W0 ifs p) (he : Blk X scope fun Y => DE Y W0 elt f) (hy : X.N[i]? = some y := by rfl) (hyl : X.env.scope.names.lookup y = some .local := by rfl)
    (hsw : swapsWith (.ListComp elt [⟨tg, iter, ifs, 0⟩] scope pos) (some (.Name y py)) spos.line X.env = pure true := by exact sw_true rfl rfl rfl (by decide +kernel)) (ok : blkC X.N X.env.scope scope own = true := by decide +kernel) (hix : ∀ i ∈ ix, i ∈ own.map (·.2) := by decide)
    (hs : ∀ x, foldedSetIterable iter X.env x = pure x := by intro _; rfl) : DS X W (.Assign [.Name y py] (.ListComp elt [⟨tg, iter, ifs, 0⟩] scope pos) spos) (sSet i (xLcC fi (own.map (·.2)) t p f)) :=
  psImp (ps_setLc (g := gD X ix t) (tt := tDT X W0 p) (te := tD X W0 f) hc hN hy hyl hsw hi (blkOk_by ok) hg ht he hs) fun E σ H ⟨α, C, ρ, c, r, h⟩ =>
    tLc_ofC (g := gD X ix t) (tt := tDT X W0 p) (te := tD X W0 f) hix ⟨α, C, ρ, c, r, (WpS.sE c r h).mono fun α1 H1 C1 x e1 c1 h1 v rv => h1.nx c1 ((r.ext c e1).set rv)⟩
end
end DL

/-! DLP: what the data's functions answer: a calculus for the plain laws. -/
namespace DL
open PySem L2
def Ok {β : Type} (m : Mo β) (C : Cells) (P : β → Cells → Prop) : Prop := match m C with
  | .ok (x, C') => P x C'
  | _ => False
def OkS (o : SO) (P : Fl → Ro → Cells → Prop) : Prop := match o with
  | .ok f ρ C => P f ρ C
  | _ => False
def opt {β : Type} (o : Option β) (P : β → Prop) : Prop := match o with
  | some z => P z
  | none => False
/-- one way or the other -/
def iff2 (t : Bool) (A B : Prop) : Prop := match t with
  | true => A
  | false => B
section
variable {β γ : Type} {m : Mo β} {k : β → Mo γ} {C : Cells} {f g : EX} {fa : AX} {p q : BX} {ρ : Ro} {a b : SX}
@[simp] theorem opt_some (z : β) (P : β → Prop) : opt (some z) P = P z := rfl
@[simp] theorem opt_none (P : β → Prop) : opt (none : Option β) P = False := rfl
@[simp] theorem iff2_t (A B : Prop) : iff2 true A B = A := rfl
@[simp] theorem iff2_f (A B : Prop) : iff2 false A B = B := rfl
@[simp] theorem iff2_same (t : Bool) (A : Prop) : iff2 t A A = A := by cases t <;> rfl
@[simp] theorem iff2_not (t : Bool) (A B : Prop) : iff2 (!t) A B = iff2 t B A := by cases t <;> rfl
theorem iff2_of {t : Bool} {A B : Prop} (h : t = true → A) (h' : t = false → B) : iff2 t A B := by
  cases t
  · exact h' rfl
  · exact h rfl
theorem iff2_dec {A B : Prop} {c : Prop} [Decidable c] (h : c → A) (h' : ¬ c → B) : iff2 (decide c) A B := by
  by_cases hc : c
  · rw [decide_eq_true hc]; exact h hc
  · rw [decide_eq_false hc]; exact h' hc
theorem ite_2 (t : Bool) (m m' : Mo β) (P : β → Cells → Prop) : Ok (if t = true then m else m') C P = iff2 t (Ok m C P) (Ok m' C P) := by cases t <;> rfl
theorem ite_S (t : Bool) (m m' : SO) (P : Fl → Ro → Cells → Prop) : OkS (if t = true then m else m') P = iff2 t (OkS m P) (OkS m' P) := by cases t <;> rfl
theorem Ok.ex {m : Mo β} {P : β → Cells → Prop} (h : Ok m C P) : ∃ x C', m C = .ok (x, C') ∧ P x C' := by
  unfold Ok at h
  cases hm : m C with
  | ok p => rw [hm] at h; exact ⟨p.1, p.2, rfl, h⟩
  | err _ _ => rw [hm] at h; exact h.elim
  | bad => rw [hm] at h; exact h.elim
theorem Ok.of {m : Mo β} {P : β → Cells → Prop} {x : β} {C' : Cells} (e : m C = .ok (x, C')) (h : P x C') : Ok m C P := by unfold Ok; rw [e]; exact h
theorem Ok.mono {m : Mo β} {P P' : β → Cells → Prop} (h : Ok m C P) (i : ∀ x C', P x C' → P' x C') : Ok m C P' := by
  obtain ⟨x, C', e, h⟩ := h.ex
  exact .of e (i _ _ h)
theorem OkS.mono {o : SO} {P P' : Fl → Ro → Cells → Prop} (h : OkS o P) (i : ∀ f ρ C, P f ρ C → P' f ρ C) : OkS o P' := by
  unfold OkS at h ⊢
  cases o with
  | ok f ρ C => exact i _ _ _ h
  | err _ _ _ => exact h.elim
  | bad => exact h.elim
@[simp] theorem Ok_bnd (P : γ → Cells → Prop) : Ok (bnd m k) C P = Ok m C fun x C' => Ok (k x) C' P := by
  unfold Ok bnd
  cases m C with
  | ok p => rfl
  | err _ _ => rfl
  | bad => rfl
@[simp] theorem Ok_ret (x : β) (P : β → Cells → Prop) : Ok (ret x) C P = P x C := rfl
@[simp] theorem Ok_bad (P : β → Cells → Prop) : Ok (bad : Mo β) C P = False := rfl
@[simp] theorem Ok_lft (o : Cells → Option β) (P : β → Cells → Prop) : Ok (lft o) C P = opt (o C) fun z => P z C := by
  unfold Ok lft
  cases o C <;> rfl
@[simp] theorem Ok_nb (P : β → Cells → Prop) : Ok (nb m) C P = Ok m C P := by
  unfold Ok nb
  cases m C <;> rfl
/-! expressions -/
@[simp] theorem Ok_x1 (op : Op1) (P : D → Cells → Prop) : Ok (x1 op f ρ) C P = Ok (f ρ) C fun x C => opt (op C x) fun z => P z C := by simp [x1]
@[simp] theorem Ok_x2 (op : Op2) (P : D → Cells → Prop) : Ok (x2 op f g ρ) C P = Ok (f ρ) C fun x C => Ok (g ρ) C fun y C => opt (op C x y) fun z => P z C := by simp [x2]
@[simp] theorem Ok_xN (op : OpN) (P : D → Cells → Prop) : Ok (xN op fa ρ) C P = Ok (fa ρ) C fun x C => opt (op C x) fun z => P z C := by simp [xN]
@[simp] theorem Ok_xV (i : Nat) (P : D → Cells → Prop) : Ok (xV i ρ) C P = opt (ρ.getD i none) fun z => P z C := by simp [xV]
@[simp] theorem Ok_xC (d : D) (P : D → Cells → Prop) : Ok (xC d ρ) C P = P d C := rfl
@[simp] theorem Ok_aNil (P : List D → Cells → Prop) : Ok (aNil ρ) C P = P [] C := rfl
@[simp] theorem Ok_aCons (P : List D → Cells → Prop) : Ok (aCons f fa ρ) C P = Ok (f ρ) C fun x C => Ok (fa ρ) C fun xs C => P (x :: xs) C := by simp [aCons]
@[simp] theorem Ok_bV (P : Bool → Cells → Prop) : Ok (bV f ρ) C P = Ok (f ρ) C fun x C => opt (truth C x) fun z => P z C := by simp [bV]
@[simp] theorem Ok_bO (o : Op2) (P : Bool → Cells → Prop) : Ok (bO o f g ρ) C P = Ok (f ρ) C fun x C => Ok (g ρ) C fun y C => opt ((o C x y).bind boolOf) fun z => P z C := by simp [bO]
@[simp] theorem Ok_bAnd (P : Bool → Cells → Prop) : Ok (bAnd p q ρ) C P = Ok (p ρ) C fun t C => iff2 t (Ok (q ρ) C P) (P false C) := by simp [bAnd, ite_2]
@[simp] theorem Ok_bOr (P : Bool → Cells → Prop) : Ok (bOr p q ρ) C P = Ok (p ρ) C fun t C => iff2 t (P true C) (Ok (q ρ) C P) := by simp [bOr, ite_2]
@[simp] theorem Ok_bNot (P : Bool → Cells → Prop) : Ok (bNot p ρ) C P = Ok (p ρ) C fun t C => P (!t) C := by simp [bNot]
@[simp] theorem Ok_bYes (P : Bool → Cells → Prop) : Ok (bYes ρ) C P = P true C := rfl
@[simp] theorem Ok_xIf (P : D → Cells → Prop) : Ok (xIf p f g ρ) C P = Ok (p ρ) C fun t C => iff2 t (Ok (f ρ) C P) (Ok (g ρ) C P) := by simp [xIf, ite_2]
@[simp] theorem Ok_xAnd (P : D → Cells → Prop) : Ok (xAnd f g ρ) C P = Ok (f ρ) C fun x C => opt (truth C x) fun t => iff2 t (Ok (g ρ) C P) (P x C) := by simp [xAnd, ite_2]
@[simp] theorem Ok_xOr (P : D → Cells → Prop) : Ok (xOr f g ρ) C P = Ok (f ρ) C fun x C => opt (truth C x) fun t => iff2 t (P x C) (Ok (g ρ) C P) := by simp [xOr, ite_2]
@[simp] theorem Ok_xNot (P : D → Cells → Prop) : Ok (xNot f ρ) C P = Ok (f ρ) C fun x C => opt (truth C x) fun t => P (.bl (!t)) C := by simp [xNot]
@[simp] theorem Ok_xTup (P : D → Cells → Prop) : Ok (xTup fa ρ) C P = Ok (fa ρ) C fun xs C => P (.tup xs) C := by simp [xTup]
@[simp] theorem Ok_xLst (P : D → Cells → Prop) : Ok (xLst fa ρ) C P = Ok (fa ρ) C fun xs C => P (.lst xs) C := by simp [xLst]
@[simp] theorem Ok_xCell (P : D → Cells → Prop) : Ok (xCell fa ρ) C P = Ok (fa ρ) C fun xs C => P (.hnd C.length) (C ++ [.lst xs]) := by simp [xCell] <;> rfl
@[simp] theorem Ok_xSl (lo hi : OX) (P : D → Cells → Prop) : Ok (xSl f lo hi ρ) C P = Ok (f ρ) C fun x C => Ok (lo ρ) C fun l C => Ok (hi ρ) C fun u C => opt (sl C x l u) fun z => P z C := by simp [xSl]
def toI : D → Option Int
  | .int i => some i
  | _ => none
@[simp] theorem toI_int (i : Int) : toI (.int i) = some i := rfl
@[simp] theorem Ok_oN (P : Option Int → Cells → Prop) : Ok (oN ρ) C P = P none C := rfl
@[simp] theorem Ok_oS (P : Option Int → Cells → Prop) : Ok (oS f ρ) C P = Ok (f ρ) C fun x C => opt (toI x) fun z => P (some z) C := by
  simp only [oS, Ok_bnd, Ok_lft]
  congr 1
  funext x C
  cases x <;> rfl
@[simp] theorem Ok_xCall (n : Nat) (g : List D → Mo D) (P : D → Cells → Prop) : Ok (xCall n g fa ρ) C P = Ok (fa ρ) C fun ds C => ds.length = n ∧ Ok (g ds) C P := by
  simp only [xCall, Ok_bnd]
  congr 1
  funext ds C'
  by_cases h : ds.length = n
  · simp [h]
  · simp [h]
@[simp] theorem Ok_xCallK (n nu nk : Nat) (perm : List Nat) (g : List D → Mo D) {fk : AX} (P : D → Cells → Prop) : Ok (xCallK n nu nk perm g fa fk ρ) C P = Ok (fa ρ) C fun us C => us.length = nu ∧ Ok (fk ρ) C fun ws C => (ws.length = nk ∧ perm.length = n) ∧ Ok (g (perm.map fun i => (us ++ ws).getD i .non)) C P := by
  simp only [xCallK, Ok_bnd]
  congr 1
  funext us C'
  by_cases h : us.length = nu
  · simp only [h, if_true, Ok_bnd, true_and]
    congr 1
    funext ws C2
    by_cases h2 : ws.length = nk ∧ perm.length = n
    · simp [h2]
    · simp [h2]
  · simp [h]
@[simp] theorem Ok_xCh (o o' : Op2) {h : EX} (P : Bool → Cells → Prop) : Ok (xCh o o' f g h ρ) C P = Ok (f ρ) C fun x C => Ok (g ρ) C fun y C => opt ((o C x y).bind boolOf) fun b => iff2 b (Ok (h ρ) C fun z C => opt ((o' C y z).bind boolOf) fun b => P b C) (P false C) := by
  simp only [xCh, Ok_bnd]
  congr 1
  funext x C
  congr 1
  funext y C
  rw [Ok_lft]
  congr 1
  funext b
  cases b <;> simp
@[simp] theorem Ok_xB (P : D → Cells → Prop) : Ok (xB p ρ) C P = Ok (p ρ) C fun t C => P (.bl t) C := by simp [xB]
@[simp] theorem Ok_fnD (n : Nat) (b : SX) (ds : List D) (P : D → Cells → Prop) : Ok (fnD n b ds) C P = OkS (b (ds.map some ++ List.replicate (n - ds.length) none) C) fun f _ C' => match f with
    | .rt d => P d C'
    | .nx => P .non C'
    | _ => False := by
  unfold Ok OkS fnD
  cases b (ds.map some ++ List.replicate (n - ds.length) none) C with
  | ok f ρ C => cases f <;> rfl
  | err _ _ _ => rfl
  | bad => rfl
/-! statements -/
@[simp] theorem OkS_sE (k : β → Cells → SO) (P : Fl → Ro → Cells → Prop) : OkS (sE m ρ k C) P = Ok m C fun x C' => OkS (k x C') P := by
  unfold OkS sE Ok
  cases m C <;> rfl
@[simp] theorem OkS_ok (f : Fl) (P : Fl → Ro → Cells → Prop) : OkS (.ok f ρ C) P = P f ρ C := rfl
@[simp] theorem OkS_bad (P : Fl → Ro → Cells → Prop) : OkS .bad P = False := rfl
@[simp] theorem OkS_nil (P : Fl → Ro → Cells → Prop) : OkS (sNil ρ C) P = P .nx ρ C := rfl
@[simp] theorem OkS_seq (P : Fl → Ro → Cells → Prop) : OkS (sSeq a b ρ C) P = OkS (a ρ C) fun f ρ' C' => match f with
    | .nx => OkS (b ρ' C') P
    | f => P f ρ' C' := by
  unfold OkS sSeq
  cases a ρ C with
  | ok f ρ C => cases f <;> rfl
  | err _ _ _ => rfl
  | bad => rfl
@[simp] theorem OkS_expr (P : Fl → Ro → Cells → Prop) : OkS (sExpr f ρ C) P = Ok (f ρ) C fun _ C' => P .nx ρ C' := by simp [sExpr]
@[simp] theorem OkS_ret (P : Fl → Ro → Cells → Prop) : OkS (sRet f ρ C) P = Ok (f ρ) C fun x C' => P (.rt x) ρ C' := by simp [sRet]
@[simp] theorem OkS_retN (P : Fl → Ro → Cells → Prop) : OkS (sRetN ρ C) P = P (.rt .non) ρ C := rfl
@[simp] theorem OkS_brk (P : Fl → Ro → Cells → Prop) : OkS (sBrk ρ C) P = P .bk ρ C := rfl
@[simp] theorem OkS_cnt (P : Fl → Ro → Cells → Prop) : OkS (sCnt ρ C) P = P .ct ρ C := rfl
@[simp] theorem OkS_if (P : Fl → Ro → Cells → Prop) : OkS (sIf p a b ρ C) P = Ok (p ρ) C fun t C' => iff2 t (OkS (a ρ C') P) (OkS (b ρ C') P) := by simp [sIf, ite_S]
@[simp] theorem OkS_set (i : Nat) (P : Fl → Ro → Cells → Prop) : OkS (sSet i f ρ C) P = Ok (f ρ) C fun x C' => P .nx (ρ.set i (some x)) C' := by simp [sSet]
@[simp] theorem OkS_asg (t : TX) (P : Fl → Ro → Cells → Prop) : OkS (sAsg f t ρ C) P = Ok (f ρ) C fun x C' => Ok (t x ρ) C' fun ρ' C'' => P .nx ρ' C'' := by simp [sAsg]
@[simp] theorem OkS_par (i j : Nat) (P : Fl → Ro → Cells → Prop) : OkS (sPar i j fa ρ C) P = Ok (fa ρ) C fun xs C' => OkS (match xs with
  | [x, y] => .ok .nx ((ρ.set i (some x)).set j (some y)) C'
  | _ => .bad) P := by simp [sPar] <;> rfl
@[simp] theorem Ok_gN (i : Nat) (d : D) (P : Ro → Cells → Prop) : Ok (gN i d ρ) C P = P (ρ.set i (some d)) C := rfl
@[simp] theorem Ok_gTup (n : Nat) (t : List D → Ro → Mo Ro) (ds : List D) (P : Ro → Cells → Prop) : Ok (gTupD n t (.tup ds) ρ) C P = (ds.length = n ∧ Ok (t ds ρ) C P) := by
  unfold gTupD
  by_cases h : ds.length = n
  · simp [h]
  · simp [h]
@[simp] theorem Ok_gNil (P : Ro → Cells → Prop) : Ok (gNilD [] ρ) C P = P ρ C := rfl
@[simp] theorem Ok_gCons (t : TX) (u : List D → Ro → Mo Ro) (d : D) (ds : List D) (P : Ro → Cells → Prop) : Ok (gConsD t u (d :: ds) ρ) C P = Ok (t d ρ) C fun ρ' C' => Ok (u ds ρ') C' P := by simp [gConsD]
@[simp] theorem Ok_gSub (d : D) (P : Ro → Cells → Prop) : Ok (gSubD f g d ρ) C P = Ok (f ρ) C fun o C => Ok (g ρ) C fun i C => Ok (setD o i d) C fun _ C => P ρ C := by simp [gSubD]
@[simp] theorem OkS_for (fi : IX) (t : TX) (b : SX) (P : Fl → Ro → Cells → Prop) : OkS (sFor fi t b ρ C) P = Ok (fi ρ) C fun s C' => OkS (forD s t b s.items ρ C') P := by simp [sFor]
@[simp] theorem Ok_iSeq (P : Src → Cells → Prop) : Ok (iSeq f ρ) C P = Ok (f ρ) C fun x C => Ok (srcSeq x) C P := by simp [iSeq]
@[simp] theorem Ok_iR1 (P : Src → Cells → Prop) : Ok (iR1 fa ρ) C P = Ok (fa ρ) C fun xs C => opt (match xs with
  | [.int j] => if -1000000 ≤ j ∧ j ≤ 1000000 then some ⟨rgD 0 j, none⟩ else none
  | _ => none) fun s => P s C := by simp [iR1] <;> rfl
@[simp] theorem Ok_iR2 (P : Src → Cells → Prop) : Ok (iR2 fa ρ) C P = Ok (fa ρ) C fun xs C => opt (match xs with
  | [.int i, .int j] => if -1000000000 ≤ i ∧ j ≤ 1000000000 ∧ -1000000000 ≤ j ∧ i ≤ 1000000000 ∧ j - i ≤ 1000000 then some ⟨rgD i j, none⟩ else none
  | _ => none) fun s => P s C := by simp [iR2] <;> rfl
@[simp] theorem src_tup (ds : List D) (P : Src → Cells → Prop) : Ok (srcSeq (.tup ds)) C P = P ⟨ds, none⟩ C := by simp [srcSeq]
@[simp] theorem src_lst (ds : List D) (P : Src → Cells → Prop) : Ok (srcSeq (.lst ds)) C P = P ⟨ds, none⟩ C := by simp [srcSeq]
@[simp] theorem src_scr (ds : List D) (P : Src → Cells → Prop) : Ok (srcSeq (.scr ds)) C P = P ⟨ds, none⟩ C := by simp [srcSeq]
@[simp] theorem src_ktp (ds : List D) (P : Src → Cells → Prop) : Ok (srcSeq (.ktp ds)) C P = P ⟨ds, none⟩ C := by simp [srcSeq]
/-! loops -/
def FlP (I P : Fl → Ro → Cells → Prop) : Fl → Ro → Cells → Prop
  | .nx, ρ, C => I .nx ρ C
  | .ct, ρ, C => I .nx ρ C
  | .bk, ρ, C => P .nx ρ C
  | .rt d, ρ, C => P (.rt d) ρ C
@[simp] theorem FlP_nx (I P : Fl → Ro → Cells → Prop) (ρ : Ro) (C : Cells) : FlP I P .nx ρ C = I .nx ρ C := rfl
@[simp] theorem FlP_ct (I P : Fl → Ro → Cells → Prop) (ρ : Ro) (C : Cells) : FlP I P .ct ρ C = I .nx ρ C := rfl
@[simp] theorem FlP_bk (I P : Fl → Ro → Cells → Prop) (ρ : Ro) (C : Cells) : FlP I P .bk ρ C = P .nx ρ C := rfl
@[simp] theorem FlP_rt (I P : Fl → Ro → Cells → Prop) (d : D) (ρ : Ro) (C : Cells) : FlP I P (.rt d) ρ C = P (.rt d) ρ C := rfl
theorem for_cons {ds xs : List D} {x : D} {t : TX} (P : Fl → Ro → Cells → Prop) : OkS (forD ⟨ds, none⟩ t b (x :: xs) ρ C) P = Ok (t x ρ) C fun ρ1 C1 => OkS (b ρ1 C1) (FlP (fun _ ρ C => OkS (forD ⟨ds, none⟩ t b xs ρ C) P) P) := by
  conv => lhs; unfold forD
  simp only [Src.chk, OkS_sE]
  congr 1
  funext ρ1 C1
  unfold OkS
  cases b ρ1 C1 with
  | ok f ρ C => cases f <;> rfl
  | err _ _ _ => rfl
  | bad => rfl
@[simp] theorem for_nil {ds : List D} {t : TX} (P : Fl → Ro → Cells → Prop) : OkS (forD ⟨ds, none⟩ t b [] ρ C) P = P .nx ρ C := by
  conv => lhs; unfold forD
  rfl
/-- THE RULE of a loop over what does not change -/
theorem for_ok {ds : List D} {t : TX} {P : Fl → Ro → Cells → Prop} (I : List D → Ro → Cells → Prop) (hi : ∀ x xs ρ C, x ∈ ds → I (x :: xs) ρ C → ∀ J : Ro → Cells → Prop, (∀ ρ C, I xs ρ C → J ρ C) → Ok (t x ρ) C fun ρ1 C1 => OkS (b ρ1 C1) (FlP (fun _ => J) P)) (hd : ∀ ρ C, I [] ρ C → P .nx ρ C) :
    ∀ (xs : List D) (ρ : Ro) (C : Cells), (∀ x ∈ xs, x ∈ ds) → I xs ρ C → OkS (forD ⟨ds, none⟩ t b xs ρ C) P
  | [], ρ, C, _, h => by rw [for_nil]; exact hd ρ C h
  | x :: xs, ρ, C, hx, h => by
    rw [for_cons]
    refine (hi x xs ρ C (hx x List.mem_cons_self) h _ fun _ _ h => h).mono fun ρ1 C1 h1 => h1.mono fun f ρ2 C2 h2 => ?_
    cases f with
    | nx => exact for_ok I hi hd xs ρ2 C2 (fun y hy => hx y (List.mem_cons_of_mem _ hy)) h2
    | ct => exact for_ok I hi hd xs ρ2 C2 (fun y hy => hx y (List.mem_cons_of_mem _ hy)) h2
    | bk => exact h2
    | rt d => exact h2
/-- .. with one invariant -/
theorem for_inv {ds : List D} {t : TX} {P : Fl → Ro → Cells → Prop} (I : Ro → Cells → Prop) (h0 : I ρ C) (hi : ∀ x ρ C, x ∈ ds → I ρ C → ∀ J : Ro → Cells → Prop, (∀ ρ C, I ρ C → J ρ C) → Ok (t x ρ) C fun ρ1 C1 => OkS (b ρ1 C1) (FlP (fun _ => J) P)) (hd : ∀ ρ C, I ρ C → P .nx ρ C) : OkS (forD ⟨ds, none⟩ t b ds ρ C) P :=
  for_ok (fun _ => I) (fun x _ ρ C hx h => hi x ρ C hx h) hd ds ρ C (fun _ h => h) h0
/-- .. over a list that stands in a cell -/
theorem forC_inv {k : Nat} {ds : List D} {t : TX} {P : Fl → Ro → Cells → Prop} (I : Ro → Cells → Prop) (hc : ∀ ρ C, I ρ C → C[k]? = some (.lst ds)) (hi : ∀ x ρ C, x ∈ ds → I ρ C → ∀ J : Ro → Cells → Prop, (∀ ρ C, I ρ C → J ρ C) → Ok (t x ρ) C fun ρ1 C1 => OkS (b ρ1 C1) (FlP (fun _ => J) P)) (hd : ∀ ρ C, I ρ C → P .nx ρ C) :
    ∀ (xs : List D) (ρ : Ro) (C : Cells), (∀ x ∈ xs, x ∈ ds) → I ρ C → OkS (forD ⟨ds, some (k, ds)⟩ t b xs ρ C) P
  | [], ρ, C, _, h => by
    unfold forD
    simp only [Src.chk, hc ρ C h, if_true, OkS_ok]
    exact hd ρ C h
  | x :: xs, ρ, C, hx, h => by
    unfold forD
    simp only [Src.chk, hc ρ C h, if_true, OkS_sE]
    refine (hi x ρ C (hx x List.mem_cons_self) h _ fun _ _ h => h).mono fun ρ1 C1 h1 => ?_
    unfold OkS at h1 ⊢
    cases hb : b ρ1 C1 with
    | ok f ρ2 C2 =>
      rw [hb] at h1
      cases f with
      | nx => exact forC_inv I hc hi hd xs ρ2 C2 (fun y hy => hx y (List.mem_cons_of_mem _ hy)) h1
      | ct => exact forC_inv I hc hi hd xs ρ2 C2 (fun y hy => hx y (List.mem_cons_of_mem _ hy)) h1
      | bk => exact h1
      | rt d => exact h1
    | err _ _ _ => rw [hb] at h1; exact h1.elim
    | bad => rw [hb] at h1; exact h1.elim
theorem mem_rg {i j : Int} {d : D} (h : d ∈ rgD i j) : ∃ n : Int, d = .int n ∧ i ≤ n ∧ n < j := by
  unfold rgD at h
  obtain ⟨k, hk, rfl⟩ := List.mem_map.mp h
  have := List.mem_range.mp hk
  exact ⟨i + k, rfl, by omega, by omega⟩
/-! comprehensions -/
@[simp] theorem wipeD_nil (ρ : Ro) : wipeD ρ [] = ρ := rfl
@[simp] theorem wipeD_cons (ρ : Ro) (v : Nat) (vs : List Nat) : wipeD ρ (v :: vs) = (wipeD ρ vs).set v none := rfl
@[simp] theorem Ok_xLc (fi : IX) (vs : List Nat) (t : TX) (P : D → Cells → Prop) : Ok (xLc fi vs t p f ρ) C P = Ok (fi ρ) C fun s C => Ok (lcD s t p f (wipeD ρ vs) s.items []) C fun ds C => P (.lst ds) C := by simp [xLc]
@[simp] theorem lc_nil {ds acc : List D} {t : TX} {ρw : Ro} (P : List D → Cells → Prop) : Ok (lcD ⟨ds, none⟩ t p f ρw [] acc) C P = P acc C := by
  unfold Ok lcD
  rfl
theorem lc_cons {ds xs acc : List D} {x : D} {t : TX} {ρw : Ro} (P : List D → Cells → Prop) : Ok (lcD ⟨ds, none⟩ t p f ρw (x :: xs) acc) C P = Ok (t x ρw) C fun ρ1 C => Ok (p ρ1) C fun b C => iff2 b (Ok (f ρ1) C fun y C => Ok (lcD ⟨ds, none⟩ t p f ρw xs (acc ++ [y])) C P) (Ok (lcD ⟨ds, none⟩ t p f ρw xs acc) C P) := by
  have e : Ok (lcD ⟨ds, none⟩ t p f ρw (x :: xs) acc) C P = Ok (bnd (t x ρw) (fun ρ1 => bnd (p ρ1) fun b => if b = true then bnd (f ρ1) fun y => lcD ⟨ds, none⟩ t p f ρw xs (acc ++ [y]) else lcD ⟨ds, none⟩ t p f ρw xs acc)) C P := by
    unfold Ok
    conv => lhs; unfold lcD
    rfl
  rw [e]
  simp only [Ok_bnd, ite_2]
/-- a comprehension by what each item gives (no cell changes) -/
theorem lc_map {ds : List D} {t : TX} {ρw : Ro} {Q : List D → Cells → Prop} (F : D → Option D) (h : ∀ x ∈ ds, Ok (t x ρw) C fun ρ1 C1 => Ok (p ρ1) C1 fun b C2 => iff2 b (Ok (f ρ1) C2 fun y C3 => C3 = C ∧ F x = some y) (C2 = C ∧ F x = none)) :
    ∀ (xs acc : List D), (∀ x ∈ xs, x ∈ ds) → Q (acc ++ xs.filterMap F) C → Ok (lcD ⟨ds, none⟩ t p f ρw xs acc) C Q := by
  intro xs
  induction xs with
  | nil => intro acc _ q; rw [lc_nil]; simpa using q
  | cons x xs ih =>
    intro acc hx q
    rw [lc_cons]
    refine (h x (hx x List.mem_cons_self)).mono fun ρ1 C1 h1 => h1.mono fun b C2 h2 => ?_
    cases b with
    | true =>
      rw [iff2_t] at h2 ⊢
      refine h2.mono fun y C3 ⟨e, hy⟩ => ?_
      subst e
      refine ih (acc ++ [y]) (fun z hz => hx z (List.mem_cons_of_mem _ hz)) ?_
      rw [List.filterMap_cons, hy] at q
      simpa using q
    | false =>
      rw [iff2_f] at h2 ⊢
      obtain ⟨e, hy⟩ := h2
      subst e
      refine ih acc (fun z hz => hx z (List.mem_cons_of_mem _ hz)) ?_
      rw [List.filterMap_cons, hy] at q
      exact q
/-- THE RULE of a comprehension that changes cells -/
theorem lc_ok {ds : List D} {t : TX} {ρw : Ro} {Q : List D → Cells → Prop} (I : List D → List D → Cells → Prop) (hi : ∀ x xs acc C, x ∈ ds → I (x :: xs) acc C → ∀ J : List D → Cells → Prop, (∀ acc C, I xs acc C → J acc C) → Ok (t x ρw) C fun ρ1 C1 => Ok (p ρ1) C1 fun b C2 => iff2 b (Ok (f ρ1) C2 fun y C3 => J (acc ++ [y]) C3) (J acc C2))
    (hd : ∀ acc C, I [] acc C → Q acc C) : ∀ (xs acc : List D) (C : Cells), (∀ x ∈ xs, x ∈ ds) → I xs acc C → Ok (lcD ⟨ds, none⟩ t p f ρw xs acc) C Q := by
  intro xs
  induction xs with
  | nil => intro acc C _ q; rw [lc_nil]; exact hd acc C q
  | cons x xs ih =>
    intro acc C hx q
    rw [lc_cons]
    refine (hi x xs acc C (hx x List.mem_cons_self) q (fun acc C => I xs acc C) fun _ _ h => h).mono fun ρ1 C1 h1 => h1.mono fun b C2 h2 => ?_
    cases b with
    | true =>
      rw [iff2_t] at h2 ⊢
      exact h2.mono fun y C3 h3 => ih _ _ (fun z hz => hx z (List.mem_cons_of_mem _ hz)) h3
    | false =>
      rw [iff2_f] at h2 ⊢
      exact ih _ _ (fun z hz => hx z (List.mem_cons_of_mem _ hz)) h2
/-! operations -/
@[simp] theorem look_int (i : Int) : look C (.int i) = .int i := rfl
@[simp] theorem look_str (i : Str) : look C (.str i) = .str i := rfl
@[simp] theorem look_bl (i : Bool) : look C (.bl i) = .bl i := rfl
@[simp] theorem look_non : look C .non = .non := rfl
@[simp] theorem look_tup (ds : List D) : look C (.tup ds) = .tup ds := rfl
@[simp] theorem look_lst (ds : List D) : look C (.lst ds) = .lst ds := rfl
@[simp] theorem look_scr (ds : List D) : look C (.scr ds) = .scr ds := rfl
@[simp] theorem look_dct (ds es : List D) : look C (.dct ds es) = .dct ds es := rfl
theorem look_hnd {k : Nat} {ds : List D} (h : C[k]? = some (.lst ds)) : look C (.hnd k) = .lst ds := by simp only [look, h]
@[simp] theorem bl_of (b : Bool) : boolOf (.bl b) = some b := rfl
variable (i j : Int)
@[simp] theorem oAdd_int : oAdd C (.int i) (.int j) = some (.int (i + j)) := rfl
@[simp] theorem oSub_int : oSub C (.int i) (.int j) = some (.int (i - j)) := rfl
@[simp] theorem oLt_int : oLt C (.int i) (.int j) = some (.bl (decide (i < j))) := rfl
@[simp] theorem oLe_int : oLe C (.int i) (.int j) = some (.bl (decide (i ≤ j))) := rfl
@[simp] theorem oGt_int : oGt C (.int i) (.int j) = some (.bl (decide (j < i))) := rfl
@[simp] theorem oGe_int : oGe C (.int i) (.int j) = some (.bl (decide (j ≤ i))) := rfl
@[simp] theorem oNeg_int : oNeg C (.int i) = some (.int (-i)) := rfl
@[simp] theorem oEq_int : oEq C (.int i) (.int j) = some (.bl (decide (i = j))) := by
  have e : eqD (.int i) (.int j) = (i == j) := rfl
  show some (D.bl (eqD (.int i) (.int j))) = _
  rw [e]
  rfl
@[simp] theorem oNe_int : oNe C (.int i) (.int j) = some (.bl (!decide (i = j))) := by
  have e : eqD (.int i) (.int j) = (i == j) := rfl
  show some (D.bl (!eqD (.int i) (.int j))) = _
  rw [e]
  rfl
theorem oMul_r (h : -(2 ^ 64) < j ∧ j < 2 ^ 64) : oMul C (.int i) (.int j) = some (.int (i * j)) := by
  show (if CMul i j then some (D.int (i * j)) else none) = _
  rw [if_pos (.inr h)]
theorem oMul_l (h : -(2 ^ 64) < i ∧ i < 2 ^ 64) : oMul C (.int i) (.int j) = some (.int (i * j)) := by
  show (if CMul i j then some (D.int (i * j)) else none) = _
  rw [if_pos (.inl h)]
theorem oMod_pos (h : 0 < j) : oMod C (.int i) (.int j) = some (.int (i % j)) := by
  show (if 0 < j then some (D.int (i % j)) else none) = _
  rw [if_pos h]
theorem oFdv_pos (h : 0 < j ∧ j < 1073741824) : oFdv C (.int i) (.int j) = some (.int (i / j)) := by
  show (if 0 < j ∧ j < 1073741824 then some (D.int (i / j)) else none) = _
  rw [if_pos h]
theorem oDivm_pos (h : 0 < j ∧ j < 1073741824) : oDivm C [.int i, .int j] = some (.tup [.int (i / j), .int (i % j)]) := by
  show (if 0 < j ∧ j < 1073741824 then some (D.tup [.int (i / j), .int (i % j)]) else none) = _
  rw [if_pos h]
@[simp] theorem oInt_int : oInt C [.int i] = some (.int i) := rfl
@[simp] theorem oInt_bl (b : Bool) : oInt C [.bl b] = some (.int (if b then 1 else 0)) := rfl
@[simp] theorem oAbs_int : oAbs C [.int i] = some (.int (if i < 0 then -i else i)) := rfl
@[simp] theorem oMax2_int : oMax2 C [.int i, .int j] = some (.int (max i j)) := by
  show some (D.int (if j > i then j else i)) = _
  congr 2
  split <;> omega
@[simp] theorem oMin2_int : oMin2 C [.int i, .int j] = some (.int (min i j)) := by
  show some (D.int (if j < i then j else i)) = _
  congr 2
  split <;> omega
@[simp] theorem oLen_tup (ds : List D) : oLen C [.tup ds] = some (.int ds.length) := rfl
@[simp] theorem oLen_lst (ds : List D) : oLen C [.lst ds] = some (.int ds.length) := rfl
@[simp] theorem oLen_scr (ds : List D) : oLen C [.scr ds] = some (.int ds.length) := rfl
@[simp] theorem truth_bl (b : Bool) : truth C (.bl b) = some b := rfl
@[simp] theorem truth_int : truth C (.int i) = some (i != 0) := rfl
@[simp] theorem truth_tup (ds : List D) : truth C (.tup ds) = some (!ds.isEmpty) := rfl
@[simp] theorem truth_lst (ds : List D) : truth C (.lst ds) = some (!ds.isEmpty) := rfl
@[simp] theorem truth_non : truth C .non = some false := rfl
@[simp] theorem oIsB_bl (a b : Bool) : oIsB C (.bl a) (.bl b) = some (.bl (decide (a = b))) := rfl
@[simp] theorem oNotB_bl (a b : Bool) : oNotB C (.bl a) (.bl b) = some (.bl (!decide (a = b))) := rfl
theorem oIsi_eq {n t : String} {x : D} (h : tyN C x = some t) : oIsi n C [x, .ty n] = some (.bl (t == n || (t == "bool" && n == "int"))) := by
  show (if n = n then (tyN C x).map _ else none) = _
  rw [if_pos rfl, h]
  rfl
/-- data that has a kind wherever it stands -/
def fine : D → Bool
  | .hnd _ => false
  | .ref _ => false
  | .ty _ => false
  | .ktp _ => false
  | _ => true
def isT : D → Bool
  | .tup _ => true
  | _ => false
def isI : D → Bool
  | .int _ => true
  | _ => false
def isBl : D → Bool
  | .bl _ => true
  | _ => false
def isS : D → Bool
  | .str _ => true
  | _ => false
def isL : D → Bool
  | .lst _ => true
  | .scr _ => true
  | _ => false
theorem isi_tup {x : D} (h : fine x = true) : oIsi "tuple" C [x, .ty "tuple"] = some (.bl (isT x)) := by cases x <;> first | (cases h; done) | exact (oIsi_eq rfl).trans (congrArg (fun b => some (D.bl b)) (by simp [isT, isI, isBl, isS, isL])) | cases h
theorem isi_int {x : D} (h : fine x = true) : oIsi "int" C [x, .ty "int"] = some (.bl (isI x || isBl x)) := by cases x <;> first | (cases h; done) | exact (oIsi_eq rfl).trans (congrArg (fun b => some (D.bl b)) (by simp [isT, isI, isBl, isS, isL])) | cases h
theorem isi_bool {x : D} (h : fine x = true) : oIsi "bool" C [x, .ty "bool"] = some (.bl (isBl x)) := by cases x <;> first | (cases h; done) | exact (oIsi_eq rfl).trans (congrArg (fun b => some (D.bl b)) (by simp [isT, isI, isBl, isS, isL])) | cases h
theorem isi_str {x : D} (h : fine x = true) : oIsi "str" C [x, .ty "str"] = some (.bl (isS x)) := by cases x <;> first | (cases h; done) | exact (oIsi_eq rfl).trans (congrArg (fun b => some (D.bl b)) (by simp [isT, isI, isBl, isS, isL])) | cases h
theorem isi_lst {x : D} (h : fine x = true) : oIsi "list" C [x, .ty "list"] = some (.bl (isL x)) := by cases x <;> first | (cases h; done) | exact (oIsi_eq rfl).trans (congrArg (fun b => some (D.bl b)) (by simp [isT, isI, isBl, isS, isL])) | cases h
end
/-! ### pools -/
def PoolAt (k : Nat) (C : Cells) : Prop := ∃ a b c : Int, C[k]? = some (.lst [.int a, .int b, .int c])
/-- from C to C': the pool at k goes on, all else stands, there may be more -/
structure Gr (k : Nat) (C C' : Cells) : Prop where
  pool : PoolAt k C'
  len : C.length ≤ C'.length
  same : ∀ j, j ≠ k → j < C.length → C'[j]? = C[j]?
theorem Gr.refl {k : Nat} {C : Cells} (h : PoolAt k C) : Gr k C C := ⟨h, Nat.le_refl _, fun _ _ _ => rfl⟩
theorem Gr.trans {k : Nat} {C C1 C2 : Cells} (a : Gr k C C1) (b : Gr k C1 C2) : Gr k C C2 :=
  ⟨b.pool, Nat.le_trans a.len b.len, fun j h1 h2 => (b.same j h1 (Nat.lt_of_lt_of_le h2 a.len)).trans (a.same j h1 h2)⟩
theorem PoolAt.lt {k : Nat} {C : Cells} (h : PoolAt k C) : k < C.length := by
  obtain ⟨a, b, c, h⟩ := h
  exact (List.getElem?_eq_some_iff.mp h).1
theorem Gr.push {k : Nat} {C C1 : Cells} (a : Gr k C C1) (cl : Cell) : Gr k C (C1 ++ [cl]) := by
  obtain ⟨x, y, z, h⟩ := a.pool
  refine ⟨⟨x, y, z, ?_⟩, ?_, fun j h1 h2 => ?_⟩
  · rw [List.getElem?_append_left a.pool.lt]; exact h
  · simp; have := a.len; omega
  · rw [List.getElem?_append_left (Nat.lt_of_lt_of_le h2 a.len)]; exact a.same j h1 h2
theorem Gr.set {k j : Nat} {C C1 : Cells} (a : Gr k C C1) (cl : Cell) (h : C.length ≤ j) (hk : k < C.length) : Gr k C (C1.set j cl) := by
  obtain ⟨x, y, z, hp⟩ := a.pool
  refine ⟨⟨x, y, z, ?_⟩, ?_, fun i h1 h2 => ?_⟩
  · rw [List.getElem?_set_ne (by omega)]; exact hp
  · simp; exact a.len
  · rw [List.getElem?_set_ne (by omega)]; exact a.same i h1 h2
theorem setD_ok {k m : Nat} {j : Int} {C : Cells} {ds : List D} {d : D} {P : Unit → Cells → Prop} (h : C[k]? = some (.lst ds)) (hm : ixN ds.length j = some m) (q : P () (C.set k (.lst (ds.set m d)))) : Ok (setD (.hnd k) (.int j) d) C P := by
  unfold Ok setD
  simp only [h, hm]
  exact q
theorem oIx_hnd {k : Nat} {C : Cells} {ds : List D} {i : Int} (h : C[k]? = some (.lst ds)) : oIx C (.hnd k) (.int i) = atI ds i := by
  show (match look C (.hnd k) with | .tup ds => atI ds i | .lst ds => atI ds i | .scr ds => atI ds i | .ktp ds => atI ds i | .str s => if s.length ≤ sizeLine then (atI s.cps.toList i).map fun c => D.str ⟨#[c]⟩ else none | _ => none) = _
  rw [look_hnd h]
theorem oIx_tup {C : Cells} {ds : List D} {i : Int} : oIx C (.tup ds) (.int i) = atI ds i := rfl
theorem oIx_lst {C : Cells} {ds : List D} {i : Int} : oIx C (.lst ds) (.int i) = atI ds i := rfl
theorem oIx_ktp {C : Cells} {ds : List D} {i : Int} : oIx C (.ktp ds) (.int i) = atI ds i := rfl
theorem oIx_scr {C : Cells} {ds : List D} {i : Int} : oIx C (.scr ds) (.int i) = atI ds i := rfl
theorem PoolAt.put {k : Nat} {C : Cells} {ds : List D} (a b c : Int) (h : C[k]? = some (.lst ds)) : (C.set k (.lst [.int a, .int b, .int c]))[k]? = some (.lst [.int a, .int b, .int c]) := List.getElem?_set_self (List.getElem?_eq_some_iff.mp h).1
theorem Gr.put {k : Nat} {C C1 : Cells} (g : Gr k C C1) (a b c : Int) : Gr k C (C1.set k (.lst [.int a, .int b, .int c])) := by
  obtain ⟨x, y, z, hp⟩ := g.pool
  refine ⟨⟨a, b, c, List.getElem?_set_self g.pool.lt⟩, ?_, fun i h1 h2 => ?_⟩
  · simp; exact g.len
  · rw [List.getElem?_set_ne (by omega)]; exact g.same i h1 h2
/-- one step of an item's place, by what is known -/
theorem atI_ok {ds : List D} {i : Int} (h1 : 0 ≤ i) (h2 : i < ds.length) : ∃ d, atI ds i = some d ∧ d ∈ ds := by
  have e : ixN ds.length i = some i.toNat := by
    unfold ixN
    rw [if_pos h1, if_pos h2]
  unfold atI
  rw [e]
  have hl : i.toNat < ds.length := by omega
  exact ⟨ds[i.toNat], by simp [hl], List.getElem_mem hl⟩
theorem oPow_ok {C : Cells} (i j : Int) (h : 0 ≤ j ∧ j ≤ 1000000 ∧ i.natAbs < 2 ^ 64) : oPow C (.int i) (.int j) = some (.int (i ^ j.toNat)) := by
  show (if CPow i j then some (D.int (i ^ j.toNat)) else none) = _
  rw [if_pos (show CPow i j from h)]
theorem atI_map {ns : List Int} {i : Int} (h1 : 0 ≤ i) (h2 : i < ns.length) : ∃ n, atI (ns.map D.int) i = some (.int n) := by
  obtain ⟨d, h, hm⟩ := atI_ok (ds := ns.map D.int) h1 (by simpa using h2)
  obtain ⟨n, _, rfl⟩ := List.mem_map.mp hm
  exact ⟨n, h⟩
theorem mem_cut {ds : List D} {d : D} {lo hi : Option Int} (h : d ∈ cutL ds lo hi) : d ∈ ds := List.mem_of_mem_drop (List.mem_of_mem_take h)
@[simp] theorem sl_scr {C : Cells} {ds : List D} {lo hi : Option Int} : sl C (.scr ds) lo hi = some (.lst (cutL ds lo hi)) := rfl
@[simp] theorem sl_lst {C : Cells} {ds : List D} {lo hi : Option Int} : sl C (.lst ds) lo hi = some (.lst (cutL ds lo hi)) := rfl
@[simp] theorem sl_tup {C : Cells} {ds : List D} {lo hi : Option Int} : sl C (.tup ds) lo hi = some (.tup (cutL ds lo hi)) := rfl
/-- a whole number, no truth, from i to j -/
def btw (d : D) (i j : Int) : Bool := match d with
  | .int n => decide (i ≤ n) && decide (n ≤ j)
  | _ => false
theorem btw_int {d : D} {i j : Int} (h : btw d i j = true) : ∃ n, d = .int n ∧ i ≤ n ∧ n ≤ j := by
  cases d with
  | int n => exact ⟨n, rfl, by simpa [btw] using h⟩
  | _ => cases h
def num : D → Int
  | .int n => n
  | _ => 0
@[simp] theorem num_int (n : Int) : num (.int n) = n := rfl
theorem okL_all (n : Nat) : ∀ ds : List D, okL n ds = ds.all (okD n)
  | [] => by cases n <;> rfl
  | d :: ds => by
    show (okD n d && okL n ds) = _
    rw [okL_all n ds, List.all_cons]
/-- fine, fit for == -/
def itm (d : D) : Bool := fine d && okD 59 d
/-- fine, its items too -/
def good (d : D) : Bool := fine d && match d with
  | .tup ds => ds.all itm
  | _ => true
theorem itm_fine {d : D} (h : itm d = true) : fine d = true := (Bool.and_eq_true_iff.mp h).1
theorem itm_ok {d : D} (h : itm d = true) : okD 59 d = true := (Bool.and_eq_true_iff.mp h).2
theorem okQ_lst {ds : List D} (h : ∀ d ∈ ds, okD 59 d = true) : okQ (.lst ds) = true := by
  show okL 59 ds = true
  rw [okL_all, List.all_eq_true]
  exact h
theorem eqD_nil (ds : List D) : eqD (.lst ds) (.lst []) = ds.isEmpty := by cases ds <;> rfl
theorem oNe_nil {C : Cells} {ds : List D} (h : ∀ d ∈ ds, okD 59 d = true) : oNe C (.lst ds) (.lst []) = some (.bl (!ds.isEmpty)) := by
  show (if okQ (.lst ds) && okQ (.lst []) then some (D.bl (!eqD (.lst ds) (.lst []))) else none) = _
  rw [okQ_lst h, eqD_nil]
  rfl
theorem oEq_nil {C : Cells} {ds : List D} (h : ∀ d ∈ ds, okD 59 d = true) : oEq C (.lst ds) (.lst []) = some (.bl ds.isEmpty) := by
  show (if okQ (.lst ds) && okQ (.lst []) then some (D.bl (eqD (.lst ds) (.lst []))) else none) = _
  rw [okQ_lst h, eqD_nil]
  rfl
theorem isI_int {d : D} (h : isI d = true) : ∃ n, d = .int n := by
  cases d with
  | int n => exact ⟨n, rfl⟩
  | _ => cases h
theorem btw_not {d : D} (h : isI d = false) (i j : Int) : btw d i j = false := by
  cases d with
  | int n => cases h
  | _ => rfl
theorem leaf {P : D → Cells → Prop} {C : Cells} {b b' : Bool} (h : P (.bl b) C) (e : b = b') : P (.bl b') C := e ▸ h
theorem okD_ofString (n : Nat) (s : String) : okD n (.str (Str.ofString s)) = true := by
  have e : okD n (.str (Str.ofString s)) = PyData.strOk (Str.ofString s) := by cases n <;> rfl
  rw [e, Str.ofString_eq_toList]
  unfold PyData.strOk
  simp only [List.all_toArray, List.all_map, List.all_eq_true, Function.comp, decide_eq_true_eq]
  intro c _
  have h := c.valid
  have e2 : c.toNat = c.val.toNat := rfl
  rw [e2]
  rcases h with h | ⟨_, h⟩
  · exact Nat.lt_trans h (by decide)
  · exact h
theorem oStrI_ok {C : Cells} {i : Int} (h : i.natAbs < 2 ^ 64) : oStrI C [.int i] = some (.str (Str.ofString (toString i))) := by
  show (if i.natAbs.log2 < 1920 then _ else _) = _
  rw [if_pos]
  by_cases h0 : i.natAbs = 0
  · rw [h0]; decide
  · exact Nat.lt_of_lt_of_le ((Nat.log2_lt h0).mpr h) (by decide)
theorem oAdd_tup {C : Cells} {a b : List D} (h : a.length + b.length ≤ 1000000) : oAdd C (.tup a) (.tup b) = some (.tup (a ++ b)) := by
  show (if a.length + b.length ≤ sizeLine then some (D.tup (a ++ b)) else none) = _
  rw [if_pos (Nat.le_trans h (by decide))]
theorem oAdd_lst {C : Cells} {a b : List D} {x y : D} (hx : look C x = .lst a) (hy : look C y = .lst b) (h : a.length + b.length ≤ 1000000) : oAdd C x y = some (.lst (a ++ b)) := by
  unfold oAdd
  rw [hx, hy]
  show (if a.length + b.length ≤ sizeLine then some (D.lst (a ++ b)) else none) = _
  rw [if_pos (Nat.le_trans h (by decide))]
theorem catL_ok {C : Cells} {a b : List D} {x y : D} {P : D → Cells → Prop} (hx : look C x = .lst a) (hy : look C y = .lst b) (h : a.length + b.length ≤ 1000000) : Ok (catL x y) C P = P (.hnd C.length) (C ++ [.lst (a ++ b)]) := by
  unfold Ok catL
  simp only [hx, hy]
  rw [if_pos (Nat.le_trans h (by decide))]
  rfl
@[simp] theorem Ok_xCat {f g : EX} {ρ : Ro} {C : Cells} (P : D → Cells → Prop) : Ok (xCat f g ρ) C P = Ok (f ρ) C fun x C => Ok (g ρ) C fun y C => Ok (catL x y) C P := by simp [xCat]
@[simp] theorem Ok_xApp {f : EX} {fa : AX} {ρ : Ro} {C : Cells} (P : D → Cells → Prop) : Ok (xApp f fa ρ) C P = Ok (f ρ) C fun o C => Ok (chkL o) C fun _ C => Ok (fa ρ) C fun ys C => Ok (app1 o ys) C P := by simp [xApp]
theorem chkL_ok {k : Nat} {C : Cells} {ds : List D} {P : Unit → Cells → Prop} (h : C[k]? = some (.lst ds)) : Ok (chkL (.hnd k)) C P = P () C := by
  unfold Ok chkL
  simp only [h]
theorem app_ok {k : Nat} {C : Cells} {ds : List D} {y : D} {P : D → Cells → Prop} (h : C[k]? = some (.lst ds)) (hl : ds.length < 1000000) : Ok (app1 (.hnd k) [y]) C P = P .non (C.set k (.lst (ds ++ [y]))) := by
  unfold Ok app1 appD
  simp only [h]
  rw [if_pos (Nat.lt_of_lt_of_le hl (by decide))]
theorem cut_len {ds : List D} {lo hi : Option Int} : (cutL ds lo hi).length ≤ ds.length := by
  unfold cutL
  rw [List.length_take, List.length_drop]
  omega
@[simp] theorem Ok_xRevT {f : EX} {ρ : Ro} {C : Cells} (P : D → Cells → Prop) : Ok (xRevT f ρ) C P = Ok (f ρ) C fun x C => opt (match look C x with | .tup ds => some (.tup ds.reverse) | _ => none) fun z => P z C := by
  simp only [xRevT, Ok_x1] <;> rfl
@[simp] theorem oList_tup {C : Cells} {ds : List D} : oList C [.tup ds] = some (.lst ds) := rfl
@[simp] theorem oTuple_lst {C : Cells} {ds : List D} : oTuple C [.lst ds] = some (.tup ds) := rfl
@[simp] theorem oTuple_tup {C : Cells} {ds : List D} : oTuple C [.tup ds] = some (.tup ds) := rfl
@[simp] theorem oList_lst {C : Cells} {ds : List D} : oList C [.lst ds] = some (.lst ds) := rfl
theorem good_tup {ds : List D} (h : ∀ d ∈ ds, itm d = true) : good (.tup ds) = true := by
  show (true && ds.all itm) = true
  simpa using h
/-! rows, ranges, zip -/
section
variable {C : Cells} {f g : EX} {fa : AX} {ρ : Ro}
@[simp] theorem Ok_iZp (P : Src → Cells → Prop) : Ok (iZp fa ρ) C P = Ok (fa ρ) C fun xs C => opt (match xs with
  | [x, y] => zipO x y
  | _ => none) fun s => P s C := by simp [iZp] <;> rfl
@[simp] theorem Ok_iEn (P : Src → Cells → Prop) : Ok (iEn fa ρ) C P = Ok (fa ρ) C fun xs C => opt (match xs with
  | [x] => (lstOf x).map fun ds => ⟨zpD (idD ds) ds, none⟩
  | _ => none) fun s => P s C := by simp [iEn] <;> rfl
@[simp] theorem zip_tt (a b : List D) : zipO (.tup a) (.tup b) = some ⟨zpD a b, none⟩ := rfl
@[simp] theorem zip_ll (a b : List D) : zipO (.lst a) (.lst b) = some ⟨zpD a b, none⟩ := rfl
@[simp] theorem Ok_xLcC {p : BX} (fi : IX) (vs : List Nat) (t : TX) (P : D → Cells → Prop) : Ok (xLcC fi vs t p f ρ) C P = Ok (fi ρ) C fun s C => Ok (lcD s t p f (wipeD ρ vs) s.items []) C fun ds C => P (.hnd C.length) (C ++ [.lst ds]) := by
  simp only [xLcC, Ok_bnd, Ok_nb]
  rfl
theorem intsO_map : ∀ ns : List Int, intsO (ns.map D.int) = some ns
  | [] => rfl
  | n :: ns => by show (intsO (ns.map D.int)).map _ = _; rw [intsO_map ns]; rfl
theorem blsO_map : ∀ ns : List Bool, blsO (ns.map D.bl) = some ns
  | [] => rfl
  | n :: ns => by show (blsO (ns.map D.bl)).map _ = _; rw [blsO_map ns]; rfl
theorem oSset_ok {x : D} {ns : List Int} (h : seqOf (look C x) = some (ns.map D.int)) (hl : ns.length < 64) : oSset C x = some (.lst ((dsort ns).map D.int)) := by
  unfold oSset seqInts
  rw [h, Option.bind_some, intsO_map, Option.bind_some, if_pos hl]
theorem oAll_ok (bs : List Bool) : oAll C [.lst (bs.map D.bl)] = some (.bl (bs.all id)) := by
  show ((blsO (bs.map D.bl)).bind fun ns => some (D.bl (ns.all id))) = _
  rw [blsO_map]; rfl
theorem oAny_ok (bs : List Bool) : oAny C [.lst (bs.map D.bl)] = some (.bl (bs.any id)) := by
  show ((blsO (bs.map D.bl)).bind fun ns => some (D.bl (ns.any id))) = _
  rw [blsO_map]; rfl
theorem cut1 {β : Type} (ds : List β) : cutL ds (some 1) none = ds.drop 1 := by
  show (ds.drop (min 1 ds.length)).take (ds.length - min 1 ds.length) = _
  cases ds with
  | nil => rfl
  | cons x r => simp
theorem cutTo {β : Type} (ds : List β) (n : Nat) : cutL ds none (some (n : Int)) = ds.take n := by
  unfold cutL
  rw [HT.sIx_nat]
  show (ds.drop 0).take (min n ds.length - 0) = _
  simp
theorem eqL_ints : ∀ ns ms : List Int, eqL (ns.map D.int) (ms.map D.int) = decide (ns = ms)
  | [], [] => rfl
  | [], _ :: _ => rfl
  | _ :: _, [] => rfl
  | n :: ns, m :: ms => by
    show ((n == m) && eqL (ns.map D.int) (ms.map D.int)) = _
    rw [eqL_ints ns ms, Bool.eq_iff_iff]
    simp
theorem okL_ints (n : Nat) (ns : List Int) : okL n (ns.map D.int) = true := by
  rw [okL_all, List.all_eq_true]
  intro d hd
  obtain ⟨x, _, rfl⟩ := List.mem_map.mp hd
  cases n <;> rfl
theorem eqD_refl {d : D} {n : Nat} (h : okD n d = true) : eqD d d = true := PySem.SeqAt.eqv_refl _ (okD_lay n d h).1
theorem oNe_ints (ns ms : List Int) : oNe C (.lst (ns.map D.int)) (.lst (ms.map D.int)) = some (.bl (!decide (ns = ms))) := by
  show (if okL 59 (ns.map D.int) && okL 59 (ms.map D.int) then some (D.bl (!eqL (ns.map D.int) (ms.map D.int))) else none) = _
  rw [okL_ints, okL_ints, eqL_ints]
  rfl
theorem oEq_ints (ns ms : List Int) : oEq C (.lst (ns.map D.int)) (.lst (ms.map D.int)) = some (.bl (decide (ns = ms))) := by
  show (if okL 59 (ns.map D.int) && okL 59 (ms.map D.int) then some (D.bl (eqL (ns.map D.int) (ms.map D.int))) else none) = _
  rw [okL_ints, okL_ints, eqL_ints]
  rfl
/-- strictly rising -/
def ris : List D → Bool
  | x :: y :: r => decide (num x < num y) && ris (y :: r)
  | _ => true
theorem ris_pw : ∀ ns : List Int, ris (ns.map D.int) = decide (ns.Pairwise (· < ·))
  | [] => by simp [ris]
  | [x] => by simp [ris]
  | x :: y :: r => by
    have ih := ris_pw (y :: r)
    show (decide (x < y) && ris ((y :: r).map D.int)) = _
    rw [ih, Bool.eq_iff_iff]
    simp only [Bool.and_eq_true, decide_eq_true_eq]
    rw [List.pairwise_cons (a := x)]
    constructor
    · rintro ⟨h1, h2⟩
      refine ⟨fun k hk => ?_, h2⟩
      rcases List.mem_cons.mp hk with rfl | hk
      · exact h1
      · exact Int.lt_trans h1 ((List.pairwise_cons.mp h2).1 k hk)
    · rintro ⟨h1, h2⟩
      exact ⟨h1 y List.mem_cons_self, h2⟩
theorem dsort_id {ns : List Int} (h : ns.Pairwise (· < ·)) : dsort ns = ns := rise_eq (pw_dsort ns) h fun _ => mem_dsort
theorem dsort_iff {ns : List Int} : ns = dsort ns ↔ ns.Pairwise (· < ·) := ⟨fun h => h ▸ pw_dsort ns, fun h => (dsort_id h).symm⟩
theorem btw_all {lo hi : Int} : ∀ {ds : List D}, ds.all (fun d => btw d lo hi) = true → ∃ ns : List Int, ds = ns.map D.int ∧ ∀ n ∈ ns, lo ≤ n ∧ n ≤ hi
  | [], _ => ⟨[], rfl, fun _ h => nomatch h⟩
  | d :: ds, h => by
    simp only [List.all_cons, Bool.and_eq_true] at h
    obtain ⟨n, rfl, h1⟩ := btw_int h.1
    obtain ⟨ns, rfl, h2⟩ := btw_all h.2
    refine ⟨n :: ns, rfl, fun k hk => ?_⟩
    rcases List.mem_cons.mp hk with rfl | hk
    · exact h1
    · exact h2 k hk
theorem all_btw {lo hi : Int} {ns : List Int} (h : ∀ n ∈ ns, lo ≤ n ∧ n ≤ hi) : (ns.map D.int).all (fun d => btw d lo hi) = true := by
  rw [List.all_eq_true]
  intro d hd
  obtain ⟨n, hn, rfl⟩ := List.mem_map.mp hd
  have := h n hn
  simp [btw, this]
/-- what are_rising compares -/
def lesO : D → Option D
  | .tup [.int i, .int j] => some (.bl (decide (i < j)))
  | _ => none
theorem les_ris : ∀ ns : List Int, ∃ bs : List Bool, (zpD (ns.map D.int) ((ns.map D.int).drop 1)).filterMap lesO = bs.map D.bl ∧ bs.all id = ris (ns.map D.int)
  | [] => ⟨[], rfl, rfl⟩
  | [x] => ⟨[], rfl, rfl⟩
  | x :: y :: r => by
    obtain ⟨bs, h1, h2⟩ := les_ris (y :: r)
    refine ⟨decide (x < y) :: bs, ?_, ?_⟩
    · show (D.bl (decide (x < y)) :: (zpD ((y :: r).map D.int) (((y :: r).map D.int).drop 1)).filterMap lesO) = _
      rw [h1]; rfl
    · show (decide (x < y) && bs.all id) = (decide (x < y) && ris ((y :: r).map D.int))
      rw [h2]
theorem mem_zp {ds es : List D} {d : D} (h : d ∈ zpD ds es) : ∃ x y, d = .tup [x, y] ∧ x ∈ ds ∧ y ∈ es := by
  obtain ⟨i, hi⟩ := List.mem_iff_getElem?.mp h
  obtain ⟨x, y, h1, h2, rfl⟩ := zpD_get hi
  exact ⟨x, y, rfl, List.mem_iff_getElem?.mpr ⟨i, h1⟩, List.mem_iff_getElem?.mpr ⟨i, h2⟩⟩
end
end DL

namespace Law
open PySem L2 DL

def top (i : Nat) : Stmt := PySem.Challenge.pw_echofolds_k06_whole_heard_of_anything.main.body.getD i (.Pass ⟨0, 0, 0, 0⟩)
abbrev s_law_draw : Stmt := top 34
abbrev s_law_hears : Stmt := top 41
abbrev s_law_marks : Stmt := top 42
abbrev s_law_made : Stmt := top 43
abbrev s_law_heard : Stmt := top 45
abbrev s_law_put : Stmt := top 38
abbrev s_law_near : Stmt := top 46
abbrev s_law_same : Stmt := top 37
abbrev s_law_pick : Stmt := top 35
abbrev s_law_sounder : Stmt := top 40
abbrev s_is_tuple_up_to : Stmt := top 12
abbrev s_is_tuple_of : Stmt := top 13
abbrev s_is_pair : Stmt := top 14
abbrev s_are_rising : Stmt := top 15
abbrev s_is_whole : Stmt := top 9
abbrev s_is_between : Stmt := top 10
abbrev s_blind_of : Stmt := top 6
abbrev s_period_by : Stmt := top 7
abbrev s_is_rest_of : Stmt := top 24
abbrev s_are_rests_of : Stmt := top 25
abbrev s_is_heard_pair_of : Stmt := top 26
abbrev s_rest_count : Stmt := top 31
abbrev s_is_up_to : Stmt := top 11
abbrev s_is_period : Stmt := top 22
abbrev s_is_sounder_of : Stmt := top 23
abbrev s_check_sounder : Stmt := top 27
abbrev s_is_heard_pair : Stmt := top 30
abbrev s_law_tells : Stmt := top 39
abbrev s_law_is_whole : Stmt := top 36
abbrev s_law_is_heard : Stmt := top 44
abbrev s_law_right : Stmt := top 47
abbrev s_law_pool : Stmt := top 33
abbrev s_law : Stmt := top 48
/-- the names that the defs read -/
structure Nm (K : PySem.W.Frag) (mg : Str → Option Value) (t_LEAST_PERIOD : Tok) (t_MOST_PERIOD : Tok) (t_MOST_RANGE : Tok) (t_MOST_RESTS : Tok) (t_SOUNDER_SIZE : Tok) : Prop where
  n_abs : mg "abs" = none
  n_all : mg "all" = none
  n_bool : mg "bool" = none
  n_divmod : mg "divmod" = none
  n_int : mg "int" = none
  n_isinstance : mg "isinstance" = none
  n_len : mg "len" = none
  n_list : mg "list" = none
  n_max : mg "max" = none
  n_min : mg "min" = none
  n_range : mg "range" = none
  n_set : mg "set" = none
  n_sorted : mg "sorted" = none
  n_str : mg "str" = none
  n_tuple : mg "tuple" = none
  n_zip : mg "zip" = none
  k_LEAST_PERIOD : mg "LEAST_PERIOD" = some (.int 2 t_LEAST_PERIOD)
  k_MOST_PERIOD : mg "MOST_PERIOD" = some (.int 40 t_MOST_PERIOD)
  k_MOST_RANGE : mg "MOST_RANGE" = some (.int 1600 t_MOST_RANGE)
  k_MOST_RESTS : mg "MOST_RESTS" = some (.int 12 t_MOST_RESTS)
  k_SOUNDER_SIZE : mg "SOUNDER_SIZE" = some (.int 4 t_SOUNDER_SIZE)
  k_SIDES : ∃ u, mg "SIDES" = some u ∧ KV K u (.ktp [(.int 0), (.int 1)])
  k_WIDEST : ∃ u, mg "WIDEST" = some u ∧ KV K u (.ktp [(.int 40), (.int 40), (.int 0), (.int 1600)])
/-! ### _law_draw -/
noncomputable def b_law_draw : SX :=
    (sSeq (sIf (bO oGt (x2 oIx (xV 0) (xC (.int 1))) (xC (.int 0))) (sSeq (sAsg (xN oDivm (aCons (x2 oIx (xV 0) (xC (.int 1))) (aCons (xV 1) aNil))) (gTupD 2 (gConsD (gSubD (xV 0) (xC (.int 1))) (gConsD (gN 3) gNilD))))
    (sSeq (sRet (xV 3)) sNil)) sNil)
    (sSeq (sAsg (x2 oAdd (x2 oIx (xV 0) (xC (.int 2))) (xC (.int 1))) (gSubD (xV 0) (xC (.int 2))))
    (sSeq (sSet 2 (xN oInt (aCons (x2 oIx (xV 0) (xC (.int 0))) aNil)))
    (sSeq (sAsg (x2 oMod (xN oInt (aCons (x2 oAdd (x2 oAdd (x2 oMul (xV 2) (x2 oAdd (x2 oMod (xV 2) (xC (.int 20011))) (xC (.int 30011)))) (x2 oMul (xC (.int 70001)) (x2 oIx (xV 0) (xC (.int 2))))) (xC (.int 9))) aNil)) (xC (.int 2147483497))) (gSubD (xV 0) (xC (.int 0))))
    (sSeq (sRet (x2 oMod (xN oInt (aCons (x2 oFdv (x2 oIx (xV 0) (xC (.int 0))) (xC (.int 128))) aNil)) (xV 1))) sNil)))))
noncomputable def m_law_draw : List D → Mo D := fnD 4 b_law_draw
/-! ### _law_hears -/
noncomputable def b_law_hears : SX :=
    (sSeq (sRet (x2 oGe (x2 oMod (xN oInt (aCons (xV 2) aNil)) (x2 oIx (xV 0) (xV 1))) (x2 oIx (xV 0) (xC (.int 2))))) sNil)
noncomputable def m_law_hears : List D → Mo D := fnD 3 b_law_hears
/-! ### _law_marks -/
noncomputable def b_law_marks : SX :=
    (sSeq (sRet (xLc (iSeq (xTup (aCons (xC (.int 0)) (aCons (xC (.int 1)) aNil)))) [2] (gN 2) (bV (xCall 3 m_law_hears (aCons (xV 0) (aCons (xV 2) (aCons (xV 1) aNil))))) (xTup (aCons (xV 2) (aCons (x2 oMod (xN oInt (aCons (xV 1) aNil)) (x2 oIx (xV 0) (xV 2))) aNil))))) sNil)
noncomputable def m_law_marks : List D → Mo D := fnD 3 b_law_marks
/-! ### _law_made -/
noncomputable def b_law_made : SX :=
    (sSeq (sSet 2 (xLst (aCons (xCell aNil) (aCons (xCell aNil) aNil))))
    (sSeq (sFor (iSeq (xV 1)) (gN 3) (sSeq (sFor (iSeq (xCall 2 m_law_marks (aCons (xV 0) (aCons (xV 3) aNil)))) (gTupD 2 (gConsD (gN 4) (gConsD (gN 5) gNilD))) (sSeq (sExpr (xApp (x2 oIx (xV 2) (xV 4)) (aCons (xV 5) aNil))) sNil)) sNil))
    (sSeq (sRet (xTup (aCons (xN oTuple (aCons (x1 oSset (x2 oIx (xV 2) (xC (.int 0)))) aNil)) (aCons (xN oTuple (aCons (x1 oSset (x2 oIx (xV 2) (xC (.int 1)))) aNil)) aNil)))) sNil)))
noncomputable def m_law_made : List D → Mo D := fnD 6 b_law_made
/-! ### _law_heard -/
noncomputable def b_law_heard : SX :=
    (sSeq (sSet 2 (xSl (xLc (iR1 (aCons (x2 oIx (xV 1) (xC (.int 3))) aNil)) [7] (gN 7) (bO oEq (xCall 2 m_law_draw (aCons (xV 0) (aCons (xC (.int 5)) aNil))) (xC (.int 0))) (xV 7)) oN (oS (xC (.int 12)))))
    (sSeq (sSet 3 (xLcC (iSeq (xCall 2 m_law_made (aCons (xV 1) (aCons (xV 2) aNil)))) [6] (gN 6) bYes (xN oList (aCons (xV 6) aNil))))
    (sSeq (sPar 4 5 (aCons (xCall 2 m_law_draw (aCons (xV 0) (aCons (xC (.int 4)) aNil))) (aCons (xCall 2 m_law_draw (aCons (xV 0) (aCons (xC (.int 2)) aNil))) aNil)))
    (sSeq (sIf (bO oEq (xV 4) (xC (.int 0))) (sSeq (sSet 3 (xLcC (iSeq (xTup (aCons (xC (.int 0)) (aCons (xC (.int 1)) aNil)))) [8] (gN 8) bYes (xLc (iR2 (aCons (x2 oIx (xV 1) (xC (.int 2))) (aCons (x2 oIx (xV 1) (xV 8)) aNil))) [9] (gN 9) (bO oEq (xCall 2 m_law_draw (aCons (xV 0) (aCons (xC (.int 2)) aNil))) (xC (.int 0))) (xV 9)))) sNil) sNil)
    (sSeq (sIf (bO oEq (xV 4) (xC (.int 1))) (sSeq (sAsg (x1 oSset (x2 oAdd (x2 oIx (xV 3) (xV 5)) (xLst (aCons (x2 oAdd (x2 oIx (xV 1) (xC (.int 2))) (xCall 2 m_law_draw (aCons (xV 0) (aCons (x2 oSub (x2 oIx (xV 1) (xV 5)) (x2 oIx (xV 1) (xC (.int 2)))) aNil)))) aNil)))) (gSubD (xV 3) (xV 5))) sNil) sNil)
    (sSeq (sIf (bO oEq (xV 4) (xC (.int 2))) (sSeq (sAsg (xSl (x2 oIx (xV 3) (xV 5)) (oS (xC (.int 1))) oN) (gSubD (xV 3) (xV 5))) sNil) sNil)
    (sSeq (sRet (xTup (aCons (xN oTuple (aCons (xSl (x2 oIx (xV 3) (xC (.int 0))) oN (oS (xC (.int 12)))) aNil)) (aCons (xN oTuple (aCons (xSl (x2 oIx (xV 3) (xC (.int 1))) oN (oS (xC (.int 12)))) aNil)) aNil)))) sNil)))))))
noncomputable def m_law_heard : List D → Mo D := fnD 10 b_law_heard
/-! ### _law_put -/
noncomputable def b_law_put : SX :=
    (sSeq (sRet (x2 oAdd (x2 oAdd (xSl (xV 0) oN (oS (xV 1))) (xTup (aCons (xV 2) aNil))) (xSl (xV 0) (oS (x2 oAdd (xV 1) (xC (.int 1)))) oN))) sNil)
noncomputable def m_law_put : List D → Mo D := fnD 3 b_law_put
/-! ### _law_near -/
noncomputable def b_law_near : SX :=
    (sSeq (sAsg (xV 2) (gTupD 2 (gConsD (gN 6) (gConsD (gN 7) gNilD))))
    (sSeq (sSet 3 (xCell (aCons (xV 2) (aCons (xRevT (xV 2)) (aCons (xN oList (aCons (xV 2) aNil)) (aCons (xTup (aCons (xV 6) aNil)) (aCons (xTup (aCons (xV 6) (aCons (xV 7) (aCons (xTup aNil) aNil)))) (aCons (xC .non) (aCons (xTup aNil) (aCons (xC (.int 0)) (aCons (xC (.str "1")) (aCons (xC (.dct [] [])) (aCons (xTup (aCons (xV 2) (aCons (xV 2) aNil))) (aCons (xTup (aCons (xTup aNil) (aCons (xTup aNil) aNil))) (aCons (xV 6) aNil)))))))))))))))
    (sSeq (sFor (iSeq (xLst (aCons (x1 oNeg (xC (.int 1))) (aCons (xC (.int 0)) (aCons (x2 oIx (xV 1) (xC (.int 2))) (aCons (x2 oSub (x2 oIx (xV 1) (xC (.int 2))) (xC (.int 1))) (aCons (x2 oSub (x2 oIx (xV 1) (xC (.int 0))) (xC (.int 1))) (aCons (x2 oIx (xV 1) (xC (.int 0))) (aCons (x2 oSub (x2 oIx (xV 1) (xC (.int 1))) (xC (.int 1))) (aCons (x2 oIx (xV 1) (xC (.int 1))) (aCons (xC .non) (aCons (xC (.bl true)) (aCons (xC (.str "1")) (aCons (xTup (aCons (xC (.int 1)) aNil)) aNil)))))))))))))) (gN 4) (sSeq (sSet 5 (xCall 2 m_law_draw (aCons (xV 0) (aCons (xC (.int 2)) aNil))))
    (sSeq (sSet 8 (xN oList (aCons (x2 oIx (xV 2) (xV 5)) aNil)))
    (sSeq (sExpr (xApp (xV 3) (aCons (xCall 3 m_law_put (aCons (xV 2) (aCons (xV 5) (aCons (xN oTuple (aCons (x2 oAdd (xV 8) (xLst (aCons (xV 4) aNil))) aNil)) aNil)))) aNil)))
    (sSeq (sExpr (xApp (xV 3) (aCons (xCall 3 m_law_put (aCons (xV 2) (aCons (xV 5) (aCons (xN oTuple (aCons (x2 oAdd (xLst (aCons (xV 4) aNil)) (xV 8)) aNil)) aNil)))) aNil)))
    (sSeq (sExpr (xApp (xV 3) (aCons (xCall 3 m_law_put (aCons (xV 2) (aCons (xV 5) (aCons (xTup (aCons (xV 4) aNil)) aNil)))) aNil))) sNil))))))
    (sSeq (sFor (iSeq (xTup (aCons (xC (.int 0)) (aCons (xC (.int 1)) aNil)))) (gN 5) (sSeq (sSet 8 (x2 oIx (xV 2) (xV 5)))
    (sSeq (sSet 3 (xCat (xV 3) (xLc (iSeq (xTup (aCons (xN oList (aCons (xV 8) aNil)) (aCons (xRevT (xV 8)) (aCons (x2 oAdd (xV 8) (xSl (xV 8) (oS (x1 oNeg (xC (.int 1)))) oN)) (aCons (xC .non) (aCons (xC (.int 0)) (aCons (xTr2 (x2 oIx (xV 1) (xC (.int 2))) (x2 oAdd (x2 oIx (xV 1) (xC (.int 2))) (xC (.int 12)))) (aCons (xTr2 (x2 oIx (xV 1) (xC (.int 2))) (x2 oAdd (x2 oIx (xV 1) (xC (.int 2))) (xC (.int 13)))) aNil))))))))) [9] (gN 9) bYes (xCall 3 m_law_put (aCons (xV 2) (aCons (xV 5) (aCons (xV 9) aNil))))))) sNil)))
    (sSeq (sRet (xV 3)) sNil)))))
noncomputable def m_law_near : List D → Mo D := fnD 10 b_law_near
/-! ### _law_same -/
noncomputable def b_law_same (rec : List D → Mo D) : SX :=
    (sSeq (sIf (bV (xN (oIsi "tuple") (aCons (xV 0) (aCons (xC (.ty "tuple")) aNil)))) (sSeq (sRet (xAnd (xN (oIsi "tuple") (aCons (xV 1) (aCons (xC (.ty "tuple")) aNil))) (xAnd (x2 oEq (xN oLen (aCons (xV 0) aNil)) (xN oLen (aCons (xV 1) aNil))) (x2 oEq (xLc (iR1 (aCons (xN oLen (aCons (xV 0) aNil)) aNil)) [2] (gN 2) (bNot (bV (xCall 2 rec (aCons (x2 oIx (xV 0) (xV 2)) (aCons (x2 oIx (xV 1) (xV 2)) aNil))))) (xV 2)) (xLst aNil))))) sNil) sNil)
    (sSeq (sIf (bOr (bV (xN (oIsi "bool") (aCons (xV 0) (aCons (xC (.ty "bool")) aNil)))) (bV (xN (oIsi "bool") (aCons (xV 1) (aCons (xC (.ty "bool")) aNil))))) (sSeq (sRet (xAnd (xN (oIsi "bool") (aCons (xV 0) (aCons (xC (.ty "bool")) aNil))) (xAnd (xN (oIsi "bool") (aCons (xV 1) (aCons (xC (.ty "bool")) aNil))) (x2 oEq (xV 0) (xV 1))))) sNil) sNil)
    (sSeq (sRet (xAnd (x2 oEq (xN (oIsi "int") (aCons (xV 0) (aCons (xC (.ty "int")) aNil))) (xN (oIsi "int") (aCons (xV 1) (aCons (xC (.ty "int")) aNil)))) (xAnd (x2 oEq (xN (oIsi "str") (aCons (xV 0) (aCons (xC (.ty "str")) aNil))) (xN (oIsi "str") (aCons (xV 1) (aCons (xC (.ty "str")) aNil)))) (x2 oEq (xV 0) (xV 1))))) sNil)))
noncomputable def m_law_same : Nat → List D → Mo D
  | 0 => fun _ => bad
  | k + 1 => fnD 3 (b_law_same (m_law_same k))
/-! ### _law_pick -/
noncomputable def b_law_pick : SX :=
    (sSeq (sRet (x2 oIx (xV 1) (xCall 2 m_law_draw (aCons (xV 0) (aCons (xN oLen (aCons (xV 1) aNil)) aNil))))) sNil)
noncomputable def m_law_pick : List D → Mo D := fnD 2 b_law_pick
/-! ### _law_sounder -/
noncomputable def b_law_sounder : SX :=
    (sSeq (sPar 2 3 (aCons (x2 oAdd (xC (.int 2)) (xCall 2 m_law_draw (aCons (xV 0) (aCons (xC (.int 5)) aNil)))) (aCons (x2 oAdd (xC (.int 2)) (xCall 2 m_law_draw (aCons (xV 0) (aCons (xC (.int 6)) aNil)))) aNil)))
    (sSeq (sSet 1 (xCall 2 m_law_pick (aCons (xV 0) (aCons (xLst (aCons (xC (.int 0)) (aCons (xC (.int 0)) (aCons (xC (.int 1)) (aCons (x2 oSub (xN oMin2 (aCons (xV 2) (aCons (xV 3) aNil))) (xC (.int 1))) (aCons (xCall 2 m_law_draw (aCons (xV 0) (aCons (xN oMin2 (aCons (xV 2) (aCons (xV 3) aNil))) aNil))) aNil)))))) aNil))))
    (sSeq (sRet (xTup (aCons (xV 2) (aCons (xV 3) (aCons (xV 1) (aCons (xCall 2 m_law_pick (aCons (xV 0) (aCons (xLst (aCons (xC (.int 1)) (aCons (xC (.int 6)) (aCons (xC (.int 12)) (aCons (x2 oAdd (xC (.int 1)) (xCall 2 m_law_draw (aCons (xV 0) (aCons (xC (.int 30)) aNil)))) aNil))))) aNil))) aNil)))))) sNil)))
noncomputable def m_law_sounder : List D → Mo D := fnD 4 b_law_sounder
/-! ### is_tuple_up_to -/
noncomputable def b_is_tuple_up_to : SX :=
    (sSeq (sRet (xAnd (xN (oIsi "tuple") (aCons (xV 0) (aCons (xC (.ty "tuple")) aNil))) (xB (xCh oLe oLe (xV 1) (xN oLen (aCons (xV 0) aNil)) (xV 2))))) sNil)
noncomputable def m_is_tuple_up_to : List D → Mo D := fnD 3 b_is_tuple_up_to
/-! ### is_tuple_of -/
noncomputable def b_is_tuple_of : SX :=
    (sSeq (sRet (xCall 3 m_is_tuple_up_to (aCons (xV 0) (aCons (xV 1) (aCons (xV 1) aNil))))) sNil)
noncomputable def m_is_tuple_of : List D → Mo D := fnD 2 b_is_tuple_of
/-! ### is_pair -/
noncomputable def b_is_pair : SX :=
    (sSeq (sRet (xCall 2 m_is_tuple_of (aCons (xV 0) (aCons (xC (.int 2)) aNil)))) sNil)
noncomputable def m_is_pair : List D → Mo D := fnD 1 b_is_pair
/-! ### are_rising -/
noncomputable def b_are_rising : SX :=
    (sSeq (sRet (xN oAll (aCons (xLc (iZp (aCons (xV 0) (aCons (xSl (xV 0) (oS (xC (.int 1))) oN) aNil))) [1, 2] (gTupD 2 (gConsD (gN 1) (gConsD (gN 2) gNilD))) bYes (x2 oLt (xV 1) (xV 2))) aNil))) sNil)
noncomputable def m_are_rising : List D → Mo D := fnD 3 b_are_rising
/-! ### is_whole -/
noncomputable def b_is_whole : SX :=
    (sSeq (sRet (xAnd (xN (oIsi "int") (aCons (xV 0) (aCons (xC (.ty "int")) aNil))) (xNot (xN (oIsi "bool") (aCons (xV 0) (aCons (xC (.ty "bool")) aNil)))))) sNil)
noncomputable def m_is_whole : List D → Mo D := fnD 1 b_is_whole
/-! ### is_between -/
noncomputable def b_is_between : SX :=
    (sSeq (sRet (xAnd (xCall 1 m_is_whole (aCons (xV 0) aNil)) (xB (xCh oLe oLe (xV 1) (xV 0) (xV 2))))) sNil)
noncomputable def m_is_between : List D → Mo D := fnD 3 b_is_between
/-! ### blind_of -/
noncomputable def b_blind_of : SX :=
    (sSeq (sRet (x2 oIx (xV 0) (xC (.int 2)))) sNil)
noncomputable def m_blind_of : List D → Mo D := fnD 1 b_blind_of
/-! ### period_by -/
noncomputable def b_period_by : SX :=
    (sSeq (sRet (x2 oIx (xV 0) (xV 1))) sNil)
noncomputable def m_period_by : List D → Mo D := fnD 2 b_period_by
/-! ### is_rest_of -/
noncomputable def b_is_rest_of : SX :=
    (sSeq (sRet (xCall 3 m_is_between (aCons (xV 2) (aCons (xCall 1 m_blind_of (aCons (xV 0) aNil)) (aCons (x2 oSub (xCall 2 m_period_by (aCons (xV 0) (aCons (xV 1) aNil))) (xC (.int 1))) aNil))))) sNil)
noncomputable def m_is_rest_of : List D → Mo D := fnD 3 b_is_rest_of
/-! ### are_rests_of -/
noncomputable def b_are_rests_of : SX :=
    (sSeq (sIf (bOr (bNot (bV (xN (oIsi "tuple") (aCons (xV 2) (aCons (xC (.ty "tuple")) aNil))))) (bNot (bV (xN oAll (aCons (xLc (iSeq (xV 2)) [3] (gN 3) bYes (xCall 3 m_is_rest_of (aCons (xV 0) (aCons (xV 1) (aCons (xV 3) aNil))))) aNil))))) (sSeq (sRet (xC (.bl false))) sNil) sNil)
    (sSeq (sRet (xCall 1 m_are_rising (aCons (xV 2) aNil))) sNil))
noncomputable def m_are_rests_of : List D → Mo D := fnD 4 b_are_rests_of
/-! ### is_heard_pair_of -/
noncomputable def b_is_heard_pair_of : SX :=
    (sSeq (sIf (bOr (bNot (bV (xCall 1 m_is_pair (aCons (xV 1) aNil)))) (bNot (bV (xN oAll (aCons (xLc (iSeq (xC (.ktp [(.int 0), (.int 1)]))) [2] (gN 2) bYes (xCall 3 m_are_rests_of (aCons (xV 0) (aCons (xV 2) (aCons (x2 oIx (xV 1) (xV 2)) aNil))))) aNil))))) (sSeq (sRet (xC (.bl false))) sNil) sNil)
    (sSeq (sRet (xAnd (x2 oLe (xN oLen (aCons (x2 oIx (xV 1) (xC (.int 0))) aNil)) (xC (.int 12))) (x2 oLe (xN oLen (aCons (x2 oIx (xV 1) (xC (.int 1))) aNil)) (xC (.int 12))))) sNil))
noncomputable def m_is_heard_pair_of : List D → Mo D := fnD 3 b_is_heard_pair_of
/-! ### rest_count -/
noncomputable def b_rest_count : SX :=
    (sSeq (sIf (bNot (bV (xCall 2 m_is_heard_pair_of (aCons (xC (.ktp [(.int 40), (.int 40), (.int 0), (.int 1600)])) (aCons (xV 0) aNil))))) (sSeq sNever sNil) sNil)
    (sSeq (sRet (x2 oAdd (xN oLen (aCons (x2 oIx (xV 0) (xC (.int 0))) aNil)) (xN oLen (aCons (x2 oIx (xV 0) (xC (.int 1))) aNil)))) sNil))
noncomputable def m_rest_count : List D → Mo D := fnD 1 b_rest_count
/-! ### is_up_to -/
noncomputable def b_is_up_to : SX :=
    (sSeq (sRet (xCall 3 m_is_between (aCons (xV 0) (aCons (xC (.int 0)) (aCons (xV 1) aNil))))) sNil)
noncomputable def m_is_up_to : List D → Mo D := fnD 2 b_is_up_to
/-! ### is_period -/
noncomputable def b_is_period : SX :=
    (sSeq (sRet (xCall 3 m_is_between (aCons (xV 0) (aCons (xC (.int 2)) (aCons (xC (.int 40)) aNil))))) sNil)
noncomputable def m_is_period : List D → Mo D := fnD 1 b_is_period
/-! ### is_sounder_of -/
noncomputable def b_is_sounder_of : SX :=
    (sSeq (sIf (bOr (bNot (bV (xCall 2 m_is_tuple_of (aCons (xV 0) (aCons (xC (.int 4)) aNil))))) (bOr (bNot (bV (xCall 1 m_is_period (aCons (x2 oIx (xV 0) (xC (.int 0))) aNil)))) (bNot (bV (xCall 1 m_is_period (aCons (x2 oIx (xV 0) (xC (.int 1))) aNil)))))) (sSeq (sRet (xC (.bl false))) sNil) sNil)
    (sSeq (sRet (xAnd (xCall 2 m_is_up_to (aCons (x2 oIx (xV 0) (xC (.int 2))) (aCons (x2 oSub (xN oMin2 (aCons (x2 oIx (xV 0) (xC (.int 0))) (aCons (x2 oIx (xV 0) (xC (.int 1))) aNil))) (xC (.int 1))) aNil))) (xCall 3 m_is_between (aCons (x2 oIx (xV 0) (xC (.int 3))) (aCons (xC (.int 1)) (aCons (xC (.int 1600)) aNil)))))) sNil))
noncomputable def m_is_sounder_of : List D → Mo D := fnD 1 b_is_sounder_of
/-! ### check_sounder -/
noncomputable def b_check_sounder : SX :=
    (sSeq (sIf (bNot (bV (xCall 1 m_is_sounder_of (aCons (xV 0) aNil)))) (sSeq sNever sNil) sNil) sNil)
noncomputable def m_check_sounder : List D → Mo D := fnD 1 b_check_sounder
/-! ### is_heard_pair -/
noncomputable def b_is_heard_pair : SX :=
    (sSeq (sExpr (xCall 1 m_check_sounder (aCons (xV 0) aNil)))
    (sSeq (sRet (xCall 2 m_is_heard_pair_of (aCons (xV 0) (aCons (xV 1) aNil)))) sNil))
noncomputable def m_is_heard_pair : List D → Mo D := fnD 2 b_is_heard_pair
/-! ### _law_tells -/
noncomputable def b_law_tells : SX :=
    (sSeq (sRet (xIf (bV (xV 1)) (x2 oIsB (xV 0) (xC (.bl true))) (x2 oIsB (xV 0) (xC (.bl false))))) sNil)
noncomputable def m_law_tells : List D → Mo D := fnD 2 b_law_tells
/-! ### _law_is_whole -/
noncomputable def b_law_is_whole : SX :=
    (sSeq (sRet (xAnd (xN (oIsi "int") (aCons (xV 0) (aCons (xC (.ty "int")) aNil))) (xNot (xN (oIsi "bool") (aCons (xV 0) (aCons (xC (.ty "bool")) aNil)))))) sNil)
noncomputable def m_law_is_whole : List D → Mo D := fnD 1 b_law_is_whole
/-! ### _law_is_heard -/
noncomputable def b_law_is_heard : SX :=
    (sSeq (sIf (bOr (bNot (bV (xN (oIsi "tuple") (aCons (xV 1) (aCons (xC (.ty "tuple")) aNil))))) (bO oNe (xN oLen (aCons (xV 1) aNil)) (xC (.int 2)))) (sSeq (sRet (xC (.bl false))) sNil) sNil)
    (sSeq (sFor (iSeq (xTup (aCons (xC (.int 0)) (aCons (xC (.int 1)) aNil)))) (gN 2) (sSeq (sSet 3 (x2 oIx (xV 1) (xV 2)))
    (sSeq (sIf (bOr (bNot (bV (xN (oIsi "tuple") (aCons (xV 3) (aCons (xC (.ty "tuple")) aNil))))) (bOr (bO oGt (xN oLen (aCons (xV 3) aNil)) (xC (.int 12))) (bOr (bO oNe (xLc (iSeq (xV 3)) [4] (gN 4) (bOr (bNot (bV (xCall 1 m_law_is_whole (aCons (xV 4) aNil)))) (bNot (xCh oLe oLt (x2 oIx (xV 0) (xC (.int 2))) (xV 4) (x2 oIx (xV 0) (xV 2))))) (xV 4)) (xLst aNil)) (bO oNe (xN oList (aCons (xV 3) aNil)) (x1 oSset (xV 3)))))) (sSeq (sRet (xC (.bl false))) sNil) sNil) sNil)))
    (sSeq (sRet (xC (.bl true))) sNil)))
noncomputable def m_law_is_heard : List D → Mo D := fnD 5 b_law_is_heard
/-! ### _law_right -/
noncomputable def b_law_right : SX :=
    (sSeq (sFor (iR1 (aCons (xC (.int 6)) aNil)) (gN 1) (sSeq (sSet 3 (xIf (bO oLt (xV 1) (xC (.int 4))) (xCall 1 m_law_sounder (aCons (xV 0) aNil)) (xTup (aCons (x2 oAdd (xC (.int 13)) (xCall 2 m_law_draw (aCons (xV 0) (aCons (xC (.int 28)) aNil)))) (aCons (x2 oAdd (xC (.int 13)) (xCall 2 m_law_draw (aCons (xV 0) (aCons (xC (.int 28)) aNil)))) (aCons (xCall 2 m_law_draw (aCons (xV 0) (aCons (xC (.int 13)) aNil))) (aCons (xC (.int 900)) aNil)))))))
    (sSeq (sSet 4 (xCall 2 m_law_heard (aCons (xV 0) (aCons (xV 3) aNil))))
    (sSeq (sIf (bOr (bO oNotB (xCall 2 m_is_heard_pair (aCons (xV 3) (aCons (xV 4) aNil))) (xC (.bl true))) (bNot (bV (xCall 2 (m_law_same 12) (aCons (xLst (aCons (xCall 1 m_rest_count (aCons (xV 4) aNil)) (aCons (xCallK 1 0 1 [0] m_rest_count aNil (aCons (xV 4) aNil)) aNil))) (aCons (x2 oMul (xLst (aCons (x2 oAdd (xN oLen (aCons (x2 oIx (xV 4) (xC (.int 0))) aNil)) (xN oLen (aCons (x2 oIx (xV 4) (xC (.int 1))) aNil))) aNil)) (xC (.int 2))) aNil)))))) (sSeq (sRet (xC (.bl false))) sNil) sNil)
    (sSeq (sFor (iSeq (xCall 3 m_law_near (aCons (xV 0) (aCons (xV 3) (aCons (xV 4) aNil))))) (gN 5) (sSeq (sSet 6 (xIf (bO oEq (xCall 2 m_law_draw (aCons (xV 0) (aCons (xC (.int 4)) aNil))) (xC (.int 0))) (xCallK 2 0 2 [1, 0] m_is_heard_pair aNil (aCons (xV 5) (aCons (xV 3) aNil))) (xCall 2 m_is_heard_pair (aCons (xV 3) (aCons (xV 5) aNil)))))
    (sSeq (sIf (bNot (bV (xCall 2 m_law_tells (aCons (xV 6) (aCons (xCall 2 m_law_is_heard (aCons (xV 3) (aCons (xV 5) aNil))) aNil))))) (sSeq (sRet (xC (.bl false))) sNil) sNil) sNil))) sNil)))))
    (sSeq (sSet 2 (xTup (aCons (xC (.int 3)) (aCons (xC (.int 5)) (aCons (xC (.int 0)) (aCons (xC (.int 15)) aNil))))))
    (sSeq (sIf (bNot (bV (xCall 2 (m_law_same 12) (aCons (xLc (iSeq (xLst (aCons (xTup (aCons (xTup (aCons (xC (.int 1)) (aCons (xC (.int 3)) aNil))) (aCons (xTup aNil) aNil))) (aCons (xTup (aCons (xTup (aCons (xC (.int 1)) (aCons (xC (.int 2)) aNil))) (aCons (xTup (aCons (xC (.int 3)) (aCons (xC (.int 4)) aNil))) aNil))) (aCons (xTup (aCons (xTup (aCons (xC (.int 2)) (aCons (xC (.int 1)) aNil))) (aCons (xTup aNil) aNil))) (aCons (xTup (aCons (xTup aNil) (aCons (xTup (aCons (xC (.int 5)) aNil)) aNil))) (aCons (xTup (aCons (xTup aNil) (aCons (xTup (aCons (xC (.int 0)) (aCons (xC (.int 4)) aNil))) aNil))) aNil))))))) [7] (gN 7) bYes (xCall 2 m_is_heard_pair (aCons (xV 2) (aCons (xV 7) aNil)))) (aCons (xLst (aCons (xC (.bl false)) (aCons (xC (.bl true)) (aCons (xC (.bl false)) (aCons (xC (.bl false)) (aCons (xC (.bl true)) aNil)))))) aNil))))) (sSeq (sRet (xC (.bl false))) sNil) sNil)
    (sSeq (sRet (xAnd (x2 oEq (xCall 1 m_rest_count (aCons (xTup (aCons (xTup (aCons (xC (.int 0)) (aCons (xC (.int 39)) aNil))) (aCons (xTup (aCons (xC (.int 1)) (aCons (xC (.int 2)) (aCons (xC (.int 3)) aNil)))) aNil))) aNil)) (xC (.int 5))) (x2 oEq (xCall 1 m_rest_count (aCons (xTup (aCons (xTup aNil) (aCons (xTup aNil) aNil))) aNil)) (xC (.int 0))))) sNil))))
noncomputable def m_law_right : List D → Mo D := fnD 8 b_law_right
/-! ### _law_pool -/
noncomputable def b_law_pool : SX :=
    (sSeq (sPar 3 4 (aCons (xIf (bO oLt (xV 1) (xN oLen (aCons (xV 0) aNil))) (xN oInt (aCons (x2 oIx (xV 0) (xV 1)) aNil)) (x2 oAdd (x2 oMul (xC (.int 70001)) (xV 1)) (xC (.int 19034)))) (aCons (x2 oAdd (xC (.int 2460274)) (x2 oMul (xC (.int 5087)) (xV 1))) aNil)))
    (sSeq (sFor (iSeq (xSl (xV 0) oN (oS (xC (.int 63))))) (gN 2) (sSeq (sSet 4 (x2 oMod (xN oInt (aCons (x2 oAdd (x2 oAdd (x2 oMul (xV 4) (xC (.int 48271))) (x2 oMod (xN oInt (aCons (xV 2) aNil)) (xC (.int 2147483497)))) (xC (.int 2648))) aNil)) (xC (.int 2147483497)))) sNil))
    (sSeq (sRet (xCell (aCons (x2 oMod (xN oInt (aCons (x2 oAdd (xV 4) (x2 oMul (xV 3) (xC (.int 1013)))) aNil)) (xC (.int 2147483497))) (aCons (xIf (bOr (bO oLt (xV 3) (xC (.int 0))) (bO oGe (xV 3) (x2 oPow (xC (.int 10)) (xC (.int 18))))) (xN oAbs (aCons (xV 3) aNil)) (xC (.int 0))) (aCons (xC (.int 0)) aNil))))) sNil)))
noncomputable def m_law_pool : List D → Mo D := fnD 5 b_law_pool
/-! ### law -/
noncomputable def b_law : SX :=
    (sSeq (sFor (iR1 (aCons (xN oMax2 (aCons (xC (.int 2)) (aCons (xN oMin2 (aCons (xN oLen (aCons (xV 0) aNil)) (aCons (xC (.int 3)) aNil))) aNil))) aNil)) (gN 1) (sSeq (sIf (bNot (bV (xCall 1 m_law_right (aCons (xCall 2 m_law_pool (aCons (xV 0) (aCons (xV 1) aNil))) aNil)))) (sSeq (sRet (xC (.bl false))) sNil) sNil) sNil))
    (sSeq (sRet (xC (.bl true))) sNil))
noncomputable def m_law : List D → Mo D := fnD 2 b_law
end Law

namespace Law
open PySem L2 DL
theorem draw_ok {k : Nat} {n : Int} {C : Cells} {P : D → Cells → Prop} (hp : PoolAt k C) (hn : 0 < n) (hb : n < 1073741824) (h : ∀ d C', 0 ≤ d → d < n → Gr k C C' → P (.int d) C') : Ok (m_law_draw [.hnd k, .int n]) C P := by
  obtain ⟨a, b, c, e⟩ := id hp
  have g := Gr.refl hp
  simp only [m_law_draw, b_law_draw, Ok_fnD]
  simp [oIx_hnd e, show atI [D.int a, .int b, .int c] 1 = some (D.int b) from rfl]
  refine iff2_dec (fun hb0 => ?_) fun hb0 => ?_
  · simp [oDivm_pos b n ⟨hn, hb⟩]
    refine setD_ok (m := 1) e rfl ?_
    simp
    exact h _ _ (Int.emod_nonneg _ (by omega)) (Int.emod_lt_of_pos _ hn) (g.put _ _ _)
  · simp [show atI [D.int a, .int b, .int c] 2 = some (D.int c) from rfl]
    refine setD_ok (m := 2) e rfl ?_
    have e1 : (C.set k (.lst [.int a, .int b, .int (c + 1)]))[k]? = some (.lst [.int a, .int b, .int (c + 1)]) := PoolAt.put _ _ _ e
    simp only [List.set_cons_succ, List.set_cons_zero]
    simp only [oIx_hnd e1]
    simp [show ∀ x y z, atI [D.int x, .int y, .int z] 0 = some (D.int x) from fun _ _ _ => rfl, show ∀ x y z, atI [D.int x, .int y, .int z] 2 = some (D.int z) from fun _ _ _ => rfl, oMod_pos, oMul_l]
    rw [oMul_r _ _ (by have := Int.emod_nonneg a (show (20011 : Int) ≠ 0 by decide); have := Int.emod_lt_of_pos a (show (0 : Int) < 20011 by decide); omega)]
    simp [oMod_pos]
    refine setD_ok (m := 0) e1 rfl ?_
    have e2 := fun x => PoolAt.put x b (c + 1) e1
    simp only [List.set_cons_zero]
    rw [oIx_hnd (e2 _)]
    simp [show ∀ x y z, atI [D.int x, .int y, .int z] 0 = some (D.int x) from fun _ _ _ => rfl, oFdv_pos, oMod_pos _ _ hn]
    refine h _ _ (Int.emod_nonneg _ (by omega)) (Int.emod_lt_of_pos _ hn) ?_
    have := (g.put a b (c + 1)).put
    simpa using this _ b (c + 1)
theorem pick_ok {k : Nat} {ds : List D} {C : Cells} {P : D → Cells → Prop} (hp : PoolAt k C) (hn : ds ≠ []) (hb : ds.length < 1073741824) (h : ∀ d C', d ∈ ds → Gr k C C' → P d C') : Ok (m_law_pick [.hnd k, .lst ds]) C P := by
  have hl : 0 < ds.length := List.length_pos_iff.mpr hn
  simp [m_law_pick, b_law_pick]
  refine draw_ok hp (by omega) (by omega) fun d C' h1 h2 g => ?_
  obtain ⟨x, hx, hm⟩ := atI_ok h1 h2
  simp [oIx_lst, hx]
  exact h x C' hm g
theorem pool_ok {ns : List Int} {lap : Int} {C : Cells} {P : D → Cells → Prop} (hn : ns.length ≤ 63) (h0 : 0 ≤ lap) (h : ∀ C', PoolAt C.length C' → P (.hnd C.length) C') : Ok (m_law_pool [.scr (ns.map D.int), .int lap]) C P := by
  simp [m_law_pool, b_law_pool, oMul_l, oMul_r, -Ok_xIf]
  refine Ok.mono (P := fun x C' => C = C' ∧ ∃ own : Int, x = .int own) ?_ ?_
  · simp
    refine iff2_dec (fun hl => ?_) fun hl => ?_
    · obtain ⟨n, e⟩ := atI_map h0 hl
      simp [oIx_scr, e]
    · simp [oMul_l]
  rintro x C' ⟨rfl, own, rfl⟩
  refine for_inv (fun ρ C' => C = C' ∧ ∃ a y, ρ = [some (.scr (ns.map D.int)), some (.int lap), a, some (.int own), some (.int y)]) ?_ ?_ ?_
  · simp
  · rintro x ρ C' hx ⟨rfl, a, y, rfl⟩ J hJ
    obtain ⟨n, _, rfl⟩ := List.mem_map.mp (mem_cut hx)
    simp [oMul_r, oMod_pos]
    exact hJ _ _ ⟨rfl, _, _, rfl⟩
  · rintro ρ C' ⟨rfl, a, y, rfl⟩
    simp [oMul_r, oMod_pos, oPow_ok, -Ok_xIf]
    refine Ok.mono (P := fun x C'' => C = C'' ∧ ∃ own : Int, x = .int own) ?_ ?_
    · simp
      refine iff2_dec (fun hl => ?_) fun hl => ?_
      · simp
      · simp [oPow_ok]
    rintro x C'' ⟨rfl, b, rfl⟩
    exact h _ ⟨_, _, _, List.getElem?_concat_length ..⟩

theorem whole_ok {d : D} {C : Cells} {P : D → Cells → Prop} (h : fine d = true) : Ok (m_is_whole [d]) C P = P (.bl (isI d)) C := by
  simp [m_is_whole, b_is_whole, isi_int h, isi_bool h]
  cases d <;> simp [isI, isBl]
theorem between_ok {d : D} {i j : Int} {C : Cells} {P : D → Cells → Prop} (h : fine d = true) : Ok (m_is_between [d, .int i, .int j]) C P = P (.bl (btw d i j)) C := by
  simp [m_is_between, b_is_between, whole_ok h]
  cases d <;> simp [isI, btw]
  rename_i n
  by_cases h1 : i ≤ n <;> simp [h1]
theorem upto_ok {d : D} {j : Int} {C : Cells} {P : D → Cells → Prop} (h : fine d = true) : Ok (m_is_up_to [d, .int j]) C P = P (.bl (btw d 0 j)) C := by
  simp [m_is_up_to, b_is_up_to, between_ok h]
theorem period_ok {d : D} {C : Cells} {P : D → Cells → Prop} (h : fine d = true) : Ok (m_is_period [d]) C P = P (.bl (btw d 2 40)) C := by
  simp [m_is_period, b_is_period, between_ok h]
theorem tupof_ok {d : D} {j : Int} {C : Cells} {P : D → Cells → Prop} (h : fine d = true) : Ok (m_is_tuple_of [d, .int j]) C P = P (.bl (match d with | .tup ds => decide ((ds.length : Int) = j) | _ => false)) C := by
  simp [m_is_tuple_of, b_is_tuple_of, m_is_tuple_up_to, b_is_tuple_up_to, isi_tup h]
  cases d <;> simp [isT]
  rename_i ds
  by_cases h1 : j ≤ (ds.length : Int)
  · simp [h1]
    rw [show decide ((ds.length : Int) ≤ j) = decide ((ds.length : Int) = j) by rw [Bool.eq_iff_iff]; simp; omega]
  · simp [h1]
    have : (ds.length : Int) ≠ j := by omega
    simp [this]
theorem lwhole_ok {d : D} {C : Cells} {P : D → Cells → Prop} (h : fine d = true) : Ok (m_law_is_whole [d]) C P = P (.bl (isI d)) C := by
  simp [m_law_is_whole, b_law_is_whole, isi_int h, isi_bool h]
  cases d <;> simp [isI, isBl]
theorem same_lst {n : Nat} {a b : List D} {C : Cells} {P : D → Cells → Prop} (ha : okQ (.lst a) = true) (hb : okQ (.lst b) = true) : Ok (m_law_same (n + 1) [.lst a, .lst b]) C P = P (.bl (eqD (.lst a) (.lst b))) C := by
  have e : oEq C (.lst a) (.lst b) = some (.bl (eqD (.lst a) (.lst b))) := by
    show (if okQ (.lst a) && okQ (.lst b) then _ else _) = _
    rw [ha, hb]
    rfl
  have i1 := fun x => isi_tup (C := C) (x := .lst x) rfl
  have i2 := fun x => isi_bool (C := C) (x := .lst x) rfl
  have i3 := fun x => isi_int (C := C) (x := .lst x) rfl
  have i4 := fun x => isi_str (C := C) (x := .lst x) rfl
  rw [show m_law_same (n + 1) = fnD 3 (b_law_same (m_law_same n)) from rfl]
  generalize m_law_same n = rec
  simp -implicitDefEqProofs [b_law_same, i1, i2, i3, i4, isT, isBl, isI, isS, e]
  rfl
theorem same_refl {n : Nat} {a : List D} {C : Cells} {P : D → Cells → Prop} (ha : okQ (.lst a) = true) (h : P (.bl true) C) : Ok (m_law_same (n + 1) [.lst a, .lst a]) C P := by
  rw [same_lst ha ha, eqD_refl (n := 60) ha]
  exact h
/-- a sounder -/
def SS (a b c e : Int) : D := .tup [.int a, .int b, .int c, .int e]
structure SR4 (a b c e : Int) : Prop where
  a1 : 2 ≤ a
  a2 : a ≤ 40
  b1 : 2 ≤ b
  b2 : b ≤ 40
  c1 : 0 ≤ c
  c2 : c ≤ min a b - 1
  e1 : 1 ≤ e
  e2 : e ≤ 1600
theorem sounder_of_ok {a b c e : Int} (r : SR4 a b c e) {C : Cells} {P : D → Cells → Prop} : Ok (m_is_sounder_of [SS a b c e]) C P = P (.bl true) C := by
  obtain ⟨a1, a2, b1, b2, c1, c2, e1, e2⟩ := r
  have f := fun x => show fine (.int x) = true from rfl
  have g : fine (SS a b c e) = true := rfl
  have q0 : atI [D.int a, .int b, .int c, .int e] 0 = some (D.int a) := rfl
  have q1 : atI [D.int a, .int b, .int c, .int e] 1 = some (D.int b) := rfl
  have q2 : atI [D.int a, .int b, .int c, .int e] 2 = some (D.int c) := rfl
  have q3 : atI [D.int a, .int b, .int c, .int e] 3 = some (D.int e) := rfl
  simp -implicitDefEqProofs [m_is_sounder_of, b_is_sounder_of, tupof_ok g]
  simp -implicitDefEqProofs [SS, oIx_tup, q0, q1, q2, q3, period_ok (f _), upto_ok (f _), between_ok (f _), btw, a1, a2, b1, b2, c1, e1, e2]
  rw [decide_eq_true c2]
  simp
theorem csounder_ok {a b c e : Int} (r : SR4 a b c e) {C : Cells} {P : D → Cells → Prop} : Ok (m_check_sounder [SS a b c e]) C P = P .non C := by
  simp -implicitDefEqProofs [m_check_sounder, b_check_sounder, sounder_of_ok r]
theorem tells_ok {a b : Bool} {C : Cells} {P : D → Cells → Prop} : Ok (m_law_tells [.bl a, .bl b]) C P = P (.bl (a == b)) C := by
  simp [m_law_tells, b_law_tells]
  cases a <;> cases b <;> simp
theorem put_ok {ds : List D} {i : Int} {x : D} {C : Cells} {P : D → Cells → Prop} (hl : ds.length ≤ 100) (h : ∀ es, (∀ y ∈ es, y = x ∨ y ∈ ds) → P (.tup es) C) : Ok (m_law_put [.tup ds, .int i, x]) C P := by
  have c1 : ∀ a b, (cutL ds a b).length ≤ ds.length := fun _ _ => cut_len
  simp [m_law_put, b_law_put]
  have h1 := c1 none (some i)
  have h2 := c1 (some (i + 1)) none
  rw [oAdd_tup (by simp; omega)]
  simp
  rw [oAdd_tup (by simp; omega)]
  simp
  refine h _ fun y hy => ?_
  simp at hy
  rcases hy with hy | rfl | hy
  · exact .inr (mem_cut hy)
  · exact .inl rfl
  · exact .inr (mem_cut hy)
def per (a b s : Int) : Int := if s = 0 then a else b
theorem SS_ix {a b c e s : Int} (hs : 0 ≤ s ∧ s ≤ 1) {C : Cells} : oIx C (SS a b c e) (.int s) = some (.int (per a b s)) := by
  have : s = 0 ∨ s = 1 := by omega
  rcases this with rfl | rfl <;> rfl
theorem SS_ix2 {a b c e : Int} {C : Cells} : oIx C (SS a b c e) (.int 2) = some (.int c) := rfl
theorem SS_ix3 {a b c e : Int} {C : Cells} : oIx C (SS a b c e) (.int 3) = some (.int e) := rfl
theorem SS_ix0 {a b c e : Int} {C : Cells} : oIx C (SS a b c e) (.int 0) = some (.int a) := rfl
theorem SS_ix1 {a b c e : Int} {C : Cells} : oIx C (SS a b c e) (.int 1) = some (.int b) := rfl
theorem per_pos {a b c e s : Int} (r : SR4 a b c e) : 0 < per a b s := by
  unfold per
  have := r.a1
  have := r.b1
  split <;> omega
theorem lhears_ok {a b c e s d : Int} (r : SR4 a b c e) (hs : 0 ≤ s ∧ s ≤ 1) {C : Cells} {P : D → Cells → Prop} : Ok (m_law_hears [SS a b c e, .int s, .int d]) C P = P (.bl (decide (c ≤ d % per a b s))) C := by
  simp -implicitDefEqProofs [m_law_hears, b_law_hears, SS_ix hs, SS_ix2, oMod_pos _ _ (per_pos r)]
/-- what the law marks -/
def mks (a b c d : Int) : List D := (if c ≤ d % a then [D.tup [.int 0, .int (d % a)]] else []) ++ (if c ≤ d % b then [D.tup [.int 1, .int (d % b)]] else [])
theorem marks_ok {a b c e d : Int} (r : SR4 a b c e) {C : Cells} {P : D → Cells → Prop} : Ok (m_law_marks [SS a b c e, .int d]) C P = P (.lst (mks a b c d)) C := by
  have ha := r.a1
  have hb := r.b1
  simp -implicitDefEqProofs [m_law_marks, b_law_marks, lc_cons, lhears_ok r, SS_ix0, SS_ix1, oMod_pos _ _ (show 0 < a by omega), oMod_pos _ _ (show 0 < b by omega), per]
  unfold mks
  by_cases h1 : c ≤ d % a <;> by_cases h2 : c ≤ d % b <;> simp [h1, h2]
theorem sounder_pool {k : Nat} {C : Cells} {P : D → Cells → Prop} (hp : PoolAt k C) (h : ∀ a b c e C', 2 ≤ a → a ≤ 40 → 2 ≤ b → b ≤ 40 → 0 ≤ c → c ≤ min a b - 1 → 1 ≤ e → e ≤ 1600 → Gr k C C' → P (.tup [.int a, .int b, .int c, .int e]) C') : Ok (m_law_sounder [.hnd k]) C P := by
  simp [m_law_sounder, b_law_sounder]
  refine draw_ok hp (by omega) (by omega) fun x1 C1 l1 u1 g1 => ?_
  refine draw_ok g1.pool (by omega) (by omega) fun x2 C2 l2 u2 g2 => ?_
  try simp
  refine draw_ok g2.pool (by omega) (by omega) fun x3 C3 l3 u3 g3 => ?_
  try simp
  refine pick_ok g3.pool (by simp) (by simp) fun d C4 hd g4 => ?_
  try simp
  refine draw_ok g4.pool (by omega) (by omega) fun x5 C5 l5 u5 g5 => ?_
  try simp
  refine pick_ok g5.pool (by simp) (by simp) fun d2 C6 hd2 g6 => ?_
  simp at hd hd2
  have g := ((((g1.trans g2).trans g3).trans g4).trans g5).trans g6
  have hc : ∃ c : Int, d = .int c ∧ 0 ≤ c ∧ c ≤ min (2 + x1) (2 + x2) - 1 := by
    rcases hd with rfl | rfl | rfl | rfl
    all_goals exact ⟨_, rfl, by omega, by omega⟩
  have he : ∃ c : Int, d2 = .int c ∧ 1 ≤ c ∧ c ≤ 1600 := by
    rcases hd2 with rfl | rfl | rfl | rfl
    all_goals exact ⟨_, rfl, by omega, by omega⟩
  obtain ⟨c, rfl, c1, c2⟩ := hc
  obtain ⟨e, rfl, e1, e2⟩ := he
  exact h _ _ _ _ _ (by omega) (by omega) (by omega) (by omega) c1 c2 e1 e2 g
theorem sounder_pool4 {k : Nat} {C : Cells} {P : D → Cells → Prop} (hp : PoolAt k C) (h : ∀ a b c e C', SR4 a b c e → Gr k C C' → P (SS a b c e) C') : Ok (m_law_sounder [.hnd k]) C P :=
  sounder_pool hp fun a b c e C' h1 h2 h3 h4 h5 h6 h7 h8 g => h a b c e C' ⟨h1, h2, h3, h4, h5, h6, h7, h8⟩ g
theorem atI_zero (x : D) (xs : List D) : atI (x :: xs) 0 = some x := by
  unfold atI ixN
  rw [if_pos (by omega), if_pos (by simp)]
  rfl

structure Sd (S : D) (a b c : Int) : Prop where
  i0 : ∀ C, oIx C S (.int 0) = some (.int a)
  i1 : ∀ C, oIx C S (.int 1) = some (.int b)
  i2 : ∀ C, oIx C S (.int 2) = some (.int c)
theorem Sd.ix {S : D} {a b c s : Int} (h : Sd S a b c) (hs : 0 ≤ s ∧ s ≤ 1) {C : Cells} : oIx C S (.int s) = some (.int (per a b s)) := by
  have : s = 0 ∨ s = 1 := by omega
  rcases this with rfl | rfl
  · exact h.i0 C
  · exact h.i1 C
theorem SS_sd {a b c e : Int} : Sd (SS a b c e) a b c := ⟨fun _ => rfl, fun _ => rfl, fun _ => rfl⟩
theorem isrest_ok {S d : D} {a b c s : Int} (h : Sd S a b c) (hs : 0 ≤ s ∧ s ≤ 1) (hf : fine d = true) {C : Cells} {P : D → Cells → Prop} : Ok (m_is_rest_of [S, .int s, d]) C P = P (.bl (btw d c (per a b s - 1))) C := by
  simp -implicitDefEqProofs [m_is_rest_of, b_is_rest_of, m_blind_of, b_blind_of, m_period_by, b_period_by, h.i2, h.ix hs, between_ok hf]
def rowB (lo hi : Int) : D → Bool
  | .tup ds => ds.all (fun d => btw d lo hi) && ris ds
  | _ => false
def tl : D → Nat
  | .tup ds => ds.length
  | _ => 0
theorem rising_ok {ns : List Int} {C : Cells} {P : D → Cells → Prop} (h : P (.bl (ris (ns.map D.int))) C) : Ok (m_are_rising [.tup (ns.map D.int)]) C P := by
  simp -implicitDefEqProofs only [m_are_rising, b_are_rising, Ok_fnD]
  simp -implicitDefEqProofs [-List.map_map]
  rw [cut1]
  refine lc_map lesO (fun x hx => ?_) _ _ (fun _ h => h) ?_
  · obtain ⟨u, v, rfl, hu, hv⟩ := mem_zp hx
    obtain ⟨i, _, rfl⟩ := List.mem_map.mp hu
    obtain ⟨j, _, rfl⟩ := List.mem_map.mp (List.mem_of_mem_drop hv)
    simp -implicitDefEqProofs [lesO]
  · obtain ⟨bs, h1, h2⟩ := les_ris ns
    rw [List.nil_append, h1, oAll_ok, h2]
    exact h
theorem arerests_ok {S d : D} {a b c s : Int} (hS : Sd S a b c) (hs : 0 ≤ s ∧ s ≤ 1) (hg : good d = true) {C : Cells} {P : D → Cells → Prop} (h : P (.bl (rowB c (per a b s - 1) d)) C) : Ok (m_are_rests_of [S, .int s, d]) C P := by
  have hf := (Bool.and_eq_true_iff.mp hg).1
  simp -implicitDefEqProofs only [m_are_rests_of, b_are_rests_of, Ok_fnD]
  simp -implicitDefEqProofs [isi_tup hf]
  cases d with
  | tup ds =>
    have hi : ∀ x ∈ ds, itm x = true := by
      have := (Bool.and_eq_true_iff.mp hg).2
      simpa using this
    simp -implicitDefEqProofs [isT]
    refine lc_map (fun x => some (.bl (btw x c (per a b s - 1)))) (fun x hx => ?_) _ _ (fun _ h => h) ?_
    · simp -implicitDefEqProofs [isrest_ok hS hs (itm_fine (hi x hx))]
    · rw [List.nil_append, show ds.filterMap (fun x => some (D.bl (btw x c (per a b s - 1)))) = (ds.map fun x => btw x c (per a b s - 1)).map D.bl by simp, oAll_ok]
      rw [show (ds.map fun x => btw x c (per a b s - 1)).all id = ds.all fun x => btw x c (per a b s - 1) by simp]
      cases ha : ds.all fun x => btw x c (per a b s - 1) with
      | false =>
        simp -implicitDefEqProofs
        exact leaf h (by simp only [rowB, ha]; rfl)
      | true =>
        simp -implicitDefEqProofs
        obtain ⟨ns, rfl, _⟩ := btw_all ha
        refine rising_ok ?_
        exact leaf h (by simp only [rowB, ha]; rfl)
  | _ => (simp -implicitDefEqProofs [isT]; exact leaf h rfl)
def hpB (a b c : Int) : D → Bool
  | .tup [x, y] => rowB c (a - 1) x && rowB c (b - 1) y && (decide (tl x ≤ 12) && decide (tl y ≤ 12))
  | _ => false
/-- fit to be asked -/
def ask (d : D) : Bool := fine d && match d with
  | .tup rows => rows.all good
  | _ => true
theorem isPair_ok {d : D} (h : fine d = true) {C : Cells} {P : D → Cells → Prop} : Ok (m_is_pair [d]) C P = P (.bl (match d with | .tup [_, _] => true | _ => false)) C := by
  simp -implicitDefEqProofs [m_is_pair, b_is_pair, tupof_ok h]
  cases d with
  | tup ds =>
    match ds with
    | [] => simp
    | [_] => simp
    | [_, _] => simp
    | x :: y :: z :: r =>
      have : ¬ ((r.length : Int) + 1 + 1 + 1 = 2) := by omega
      simp [this]
  | _ => rfl
theorem heardpair_ok {S d : D} {a b c : Int} (hS : Sd S a b c) (hg : ask d = true) {C : Cells} {P : D → Cells → Prop} (h : P (.bl (hpB a b c d)) C) : Ok (m_is_heard_pair_of [S, d]) C P := by
  have hf := (Bool.and_eq_true_iff.mp hg).1
  have hr := (Bool.and_eq_true_iff.mp hg).2
  simp -implicitDefEqProofs only [m_is_heard_pair_of, b_is_heard_pair_of, Ok_fnD]
  simp -implicitDefEqProofs [isPair_ok hf]
  match d with
  | .tup [x, y] =>
    have q0 : atI [x, y] 0 = some x := rfl
    have q1 : atI [x, y] 1 = some y := rfl
    have hx : good x = true := List.all_eq_true.mp hr x (by simp)
    have hy : good y = true := List.all_eq_true.mp hr y (by simp)
    simp -implicitDefEqProofs [lc_cons, oIx_tup, q0, q1]
    refine arerests_ok hS (by omega) hx ?_
    refine arerests_ok hS (by omega) hy ?_
    have e0 : per a b 0 = a := rfl
    have e1 : per a b 1 = b := rfl
    rw [e0, e1]
    rw [show [D.bl (rowB c (a - 1) x), D.bl (rowB c (b - 1) y)] = [rowB c (a - 1) x, rowB c (b - 1) y].map D.bl from rfl, oAll_ok]
    cases h1 : rowB c (a - 1) x with
    | false => simp -implicitDefEqProofs; exact leaf h (by simp [hpB, h1])
    | true =>
      cases h2 : rowB c (b - 1) y with
      | false => simp -implicitDefEqProofs; exact leaf h (by simp [hpB, h1, h2])
      | true =>
        cases x with
        | tup xs =>
          cases y with
          | tup ys =>
            simp -implicitDefEqProofs
            have hh : hpB a b c (.tup [.tup xs, .tup ys]) = (decide (xs.length ≤ 12) && decide (ys.length ≤ 12)) := by
              show (rowB c (a - 1) (.tup xs) && rowB c (b - 1) (.tup ys) && (decide (xs.length ≤ 12) && decide (ys.length ≤ 12))) = _
              rw [h1, h2]; rfl
            rw [hh] at h
            refine iff2_dec (fun q => ?_) fun q => ?_
            · exact leaf h (by rw [decide_eq_true (show xs.length ≤ 12 by omega), Bool.true_and]; exact decide_eq_decide.mpr (by omega))
            · exact leaf h (by rw [decide_eq_false (show ¬ xs.length ≤ 12 by omega)]; first | rfl | (rw [Bool.false_and]; symm; exact decide_eq_false q))
          | _ => cases h2
        | _ => cases h1
  | .tup [] => simp -implicitDefEqProofs; exact leaf h rfl
  | .tup [_] => simp -implicitDefEqProofs; exact leaf h rfl
  | .tup (_ :: _ :: _ :: _) => simp -implicitDefEqProofs; exact leaf h rfl
  | .non => simp -implicitDefEqProofs; exact leaf h rfl
  | .bl _ => simp -implicitDefEqProofs; exact leaf h rfl
  | .int _ => simp -implicitDefEqProofs; exact leaf h rfl
  | .str _ => simp -implicitDefEqProofs; exact leaf h rfl
  | .lst _ => simp -implicitDefEqProofs; exact leaf h rfl
  | .dct _ _ => simp -implicitDefEqProofs; exact leaf h rfl
  | .scr _ => simp -implicitDefEqProofs; exact leaf h rfl
  | .hnd _ => cases hf
  | .ref _ => cases hf
  | .ty _ => cases hf
  | .ktp _ => cases hf
theorem isheardpair_ok {d : D} {a b c e : Int} (r : SR4 a b c e) (hg : ask d = true) {C : Cells} {P : D → Cells → Prop} (h : P (.bl (hpB a b c d)) C) : Ok (m_is_heard_pair [SS a b c e, d]) C P := by
  simp -implicitDefEqProofs only [m_is_heard_pair, b_is_heard_pair, Ok_fnD]
  simp -implicitDefEqProofs [csounder_ok r]
  exact heardpair_ok SS_sd hg h
/-- the law's own reading of one row -/
def oddO (lo hi : Int) (x : D) : Option D := if btw x lo hi then none else some x
theorem odd_none {lo hi : Int} : ∀ {ds : List D}, (ds.filterMap (oddO lo hi)).isEmpty = ds.all (fun d => btw d lo hi)
  | [] => rfl
  | d :: ds => by
    have ih := @odd_none lo hi ds
    rw [List.filterMap_cons, List.all_cons]
    cases h : btw d lo hi with
    | true => simp only [oddO, h, if_true]; simpa using ih
    | false => simp only [oddO, h]; simp
def rw12 (lo hi : Int) (d : D) : Bool := rowB lo hi d && decide (tl d ≤ 12)
theorem hpB_rw {a b c : Int} {x y : D} : hpB a b c (.tup [x, y]) = (rw12 c (a - 1) x && rw12 c (b - 1) y) := by
  simp only [hpB, rw12]
  cases rowB c (a - 1) x <;> cases rowB c (b - 1) y <;> simp
theorem lheard_ok {d : D} {a b c e : Int} (hg : ask d = true) {C : Cells} {P : D → Cells → Prop} (h : P (.bl (hpB a b c d)) C) : Ok (m_law_is_heard [SS a b c e, d]) C P := by
  have hf := (Bool.and_eq_true_iff.mp hg).1
  have hr := (Bool.and_eq_true_iff.mp hg).2
  simp -implicitDefEqProofs only [m_law_is_heard, b_law_is_heard, Ok_fnD]
  simp -implicitDefEqProofs [isi_tup hf]
  match d with
  | .tup [x, y] =>
    have hx : good x = true := List.all_eq_true.mp hr x (by simp)
    have hy : good y = true := List.all_eq_true.mp hr y (by simp)
    simp -implicitDefEqProofs [isT]
    refine for_ok (fun xs ρ C' => C' = C ∧ ∃ x2 x3 x4, ρ = [some (SS a b c e), some (.tup [x, y]), x2, x3, x4] ∧ ((xs = [.int 0, .int 1]) ∨ (xs = [.int 1] ∧ rw12 c (a - 1) x = true) ∨ (xs = [] ∧ rw12 c (a - 1) x = true ∧ rw12 c (b - 1) y = true))) ?_ ?_ _ _ _ (fun _ h => h) ⟨rfl, _, _, _, rfl, .inl rfl⟩
    · rintro z zs ρ C' hz ⟨rfl, x2, x3, x4, rfl, hd⟩ J hJ
      obtain ⟨s, row, rfl, hs, hix, hgr, hyes, hno⟩ : ∃ s row, z = .int s ∧ (0 ≤ s ∧ s ≤ 1) ∧ atI [x, y] s = some row ∧ good row = true ∧ (rw12 c (per a b s - 1) row = true → ∀ y2 y3 y4, J [some (SS a b c e), some (.tup [x, y]), y2, y3, y4] C') ∧ (rw12 c (per a b s - 1) row = false → hpB a b c (.tup [x, y]) = false) := by
        rcases hd with hd | ⟨hd, h1⟩ | ⟨hd, _⟩
        · cases hd
          exact ⟨0, x, rfl, by omega, rfl, hx, fun q y2 y3 y4 => hJ _ _ ⟨rfl, _, _, _, rfl, .inr (.inl ⟨rfl, q⟩)⟩, fun q => by rw [hpB_rw]; rw [show per a b 0 = a from rfl] at q; rw [q]; rfl⟩
        · cases hd
          exact ⟨1, y, rfl, by omega, rfl, hy, fun q y2 y3 y4 => hJ _ _ ⟨rfl, _, _, _, rfl, .inr (.inr ⟨rfl, h1, q⟩)⟩, fun q => by rw [hpB_rw]; rw [show per a b 1 = b from rfl] at q; rw [q, Bool.and_false]⟩
        · cases hd
      have hfr := (Bool.and_eq_true_iff.mp hgr).1
      simp -implicitDefEqProofs [oIx_tup, hix, isi_tup hfr]
      match row with
      | .tup ds =>
        have hi : ∀ x ∈ ds, itm x = true := by
          have := (Bool.and_eq_true_iff.mp hgr).2
          simpa using this
        simp -implicitDefEqProofs [isT]
        refine iff2_dec (fun hl => leaf h (hno (by show (rowB c (per a b s - 1) (.tup ds) && decide (ds.length ≤ 12)) = false; rw [decide_eq_false (by omega), Bool.and_false]))) fun hl => ?_
        refine lc_map (oddO c (per a b s - 1)) (fun w hw => ?_) _ _ (fun _ h => h) ?_
        · simp -implicitDefEqProofs [lwhole_ok (itm_fine (hi w hw)), SS_ix2, SS_ix hs]
          cases w with
          | int n =>
            simp -implicitDefEqProofs [isI, oddO, btw, SS_ix2, SS_ix hs]
            by_cases q1 : c ≤ n
            · by_cases q2 : n < per a b s
              · simp [q1, q2, show n ≤ per a b s - 1 by omega]
              · simp [q1, q2, show ¬ n ≤ per a b s - 1 by omega]; try omega
            · simp [q1]
          | _ => simp -implicitDefEqProofs [isI, oddO, btw]
        · have hk : ∀ d ∈ ds.filterMap (oddO c (per a b s - 1)), okD 59 d = true := fun d hd => by
            obtain ⟨x, hx, e⟩ := List.mem_filterMap.mp hd
            unfold oddO at e
            split at e
            · cases e
            · cases e; exact itm_ok (hi _ hx)
          simp -implicitDefEqProofs [oNe_nil hk, odd_none]
          cases ha : ds.all fun d => btw d c (per a b s - 1) with
          | false =>
            simp -implicitDefEqProofs
            exact leaf h (hno (by simp only [rw12, rowB, ha]; rfl))
          | true =>
            obtain ⟨ns, rfl, _⟩ := btw_all ha
            have hl2 : ns.length ≤ 12 := by simp at hl; omega
            have e1 : oSset C' (.tup (ns.map D.int)) = some (.lst ((dsort ns).map D.int)) := oSset_ok rfl (by omega)
            simp -implicitDefEqProofs [e1, oNe_ints]
            have e2 : ris (ns.map D.int) = decide (ns = dsort ns) := by rw [ris_pw]; exact decide_eq_decide.mpr dsort_iff.symm
            refine iff2_dec (fun q => ?_) fun q => ?_
            · refine hyes ?_ _ _ _
              simp only [rw12, rowB, ha, e2, tl, List.length_map]
              rw [decide_eq_true q, decide_eq_true hl2]
              rfl
            · refine leaf h (hno ?_)
              simp only [rw12, rowB, ha, e2]
              rw [decide_eq_false q]
              rfl
      | .non => simp -implicitDefEqProofs [isT]; exact leaf h (hno rfl)
      | .bl _ => simp -implicitDefEqProofs [isT]; exact leaf h (hno rfl)
      | .int _ => simp -implicitDefEqProofs [isT]; exact leaf h (hno rfl)
      | .str _ => simp -implicitDefEqProofs [isT]; exact leaf h (hno rfl)
      | .lst _ => simp -implicitDefEqProofs [isT]; exact leaf h (hno rfl)
      | .dct _ _ => simp -implicitDefEqProofs [isT]; exact leaf h (hno rfl)
      | .scr _ => simp -implicitDefEqProofs [isT]; exact leaf h (hno rfl)
      | .hnd _ => cases hfr
      | .ref _ => cases hfr
      | .ty _ => cases hfr
      | .ktp _ => cases hfr
    · rintro ρ C' ⟨rfl, x2, x3, x4, rfl, hd⟩
      rcases hd with hd | ⟨hd, h1⟩ | ⟨hd, h1, h2⟩
      · cases hd
      · cases hd
      · simp -implicitDefEqProofs
        exact leaf h (by rw [hpB_rw, h1, h2]; rfl)
  | .tup [] => simp -implicitDefEqProofs [isT]; exact leaf h rfl
  | .tup [_] => simp -implicitDefEqProofs [isT]; exact leaf h rfl
  | .tup (x :: y :: z :: w) =>
    have : ¬ ((w.length : Int) + 1 + 1 + 1 = 2) := by omega
    simp -implicitDefEqProofs [isT, this]; exact leaf h rfl
  | .non => simp -implicitDefEqProofs [isT]; exact leaf h rfl
  | .bl _ => simp -implicitDefEqProofs [isT]; exact leaf h rfl
  | .int _ => simp -implicitDefEqProofs [isT]; exact leaf h rfl
  | .str _ => simp -implicitDefEqProofs [isT]; exact leaf h rfl
  | .lst _ => simp -implicitDefEqProofs [isT]; exact leaf h rfl
  | .dct _ _ => simp -implicitDefEqProofs [isT]; exact leaf h rfl
  | .scr _ => simp -implicitDefEqProofs [isT]; exact leaf h rfl
  | .hnd _ => cases hf
  | .ref _ => cases hf
  | .ty _ => cases hf
  | .ktp _ => cases hf
/-! what a lot makes -/
structure RowOk (lo hi : Int) (ns : List Int) : Prop where
  pw : ns.Pairwise (· < ·)
  bd : ∀ n ∈ ns, lo ≤ n ∧ n ≤ hi
theorem RowOk.dsort {lo hi : Int} {ns : List Int} (h : ∀ n ∈ ns, lo ≤ n ∧ n ≤ hi) : RowOk lo hi (dsort ns) := ⟨pw_dsort ns, fun n hn => h n (mem_dsort.mp hn)⟩
theorem RowOk.take {lo hi : Int} {ns : List Int} (h : RowOk lo hi ns) (n : Nat) : RowOk lo hi (ns.take n) := ⟨h.pw.sublist (List.take_sublist n ns), fun k hk => h.bd k (List.mem_of_mem_take hk)⟩
theorem RowOk.drop {lo hi : Int} {ns : List Int} (h : RowOk lo hi ns) (n : Nat) : RowOk lo hi (ns.drop n) := ⟨h.pw.sublist (List.drop_sublist n ns), fun k hk => h.bd k (List.mem_of_mem_drop hk)⟩
theorem at_push {C : Cells} {a b : Cell} : (C ++ [a, b])[C.length]? = some a ∧ (C ++ [a, b])[C.length + 1]? = some b := by simp
theorem set_get {C : Cells} {m j : Nat} {x : Cell} {o : Option Cell} (hj : j ≠ m) (h : C[j]? = o) : (C.set m x)[j]? = o := by rw [List.getElem?_set_ne (Ne.symm hj)]; exact h
theorem set_self {C : Cells} {m : Nat} {x y : Cell} (h : C[m]? = some y) : (C.set m x)[m]? = some x := List.getElem?_set_self (List.getElem?_eq_some_iff.mp h).1
theorem snoc_map (u : List Int) (n : Int) : u.map D.int ++ [D.int n] = (u ++ [n]).map D.int := by simp
theorem bd_snoc {lo hi n : Int} {u : List Int} (h : ∀ k ∈ u, lo ≤ k ∧ k ≤ hi) (h1 : lo ≤ n) (h2 : n ≤ hi) : ∀ k ∈ u ++ [n], lo ≤ k ∧ k ≤ hi := fun k hk => by
  rcases List.mem_append.mp hk with hk | hk
  · exact h k hk
  · rw [List.mem_singleton.mp hk]; exact ⟨h1, h2⟩
theorem app_at {m : Nat} {C : Cells} {u : List Int} {n : Int} {P : D → Cells → Prop} (h : C[m]? = some (.lst (u.map D.int))) (hl : u.length < 100) : Ok (chkL (.hnd m)) C (fun _ C1 => Ok (app1 (.hnd m) [.int n]) C1 P) = P .non (C.set m (.lst ((u ++ [n]).map D.int))) := by
  rw [chkL_ok h, app_ok h (by simp; omega), snoc_map]
theorem made_ok {k : Nat} {ns : List Int} {a b c e : Int} (r : SR4 a b c e) {C : Cells} {P : D → Cells → Prop} (hp : PoolAt k C) (hl : ns.length ≤ 12) (h : ∀ u v C', Gr k C C' → RowOk c (a - 1) u → RowOk c (b - 1) v → u.length ≤ 12 → v.length ≤ 12 → P (.tup [.tup (u.map D.int), .tup (v.map D.int)]) C') : Ok (m_law_made [SS a b c e, .lst (ns.map D.int)]) C P := by
  have ha := r.a1
  have hb := r.b1
  have q0 : ∀ x y, atI [D.hnd x, D.hnd y] 0 = some (D.hnd x) := fun _ _ => rfl
  have q1 : ∀ x y, atI [D.hnd x, D.hnd y] 1 = some (D.hnd y) := fun _ _ => rfl
  simp -implicitDefEqProofs only [m_law_made, b_law_made, Ok_fnD]
  simp -implicitDefEqProofs [-List.map_map]
  refine for_ok (fun xs ρ C' => ∃ (x3 x4 x5 : Option D) (u v : List Int), ρ = [some (SS a b c e), some (.lst (ns.map D.int)), some (.lst [.hnd C.length, .hnd (C.length + 1)]), x3, x4, x5] ∧ Gr k C C' ∧ C'[C.length]? = some (.lst (u.map D.int)) ∧ C'[C.length + 1]? = some (.lst (v.map D.int)) ∧ (∀ n ∈ u, c ≤ n ∧ n ≤ a - 1) ∧ (∀ n ∈ v, c ≤ n ∧ n ≤ b - 1) ∧ u.length + xs.length ≤ 12 ∧ v.length + xs.length ≤ 12) ?_ ?_ _ _ _ (fun _ h => h) ?_
  · rintro z zs ρ C' hz ⟨x3, x4, x5, u, v, rfl, g, cu, cv, bu, bv, lu, lv⟩ J hJ
    obtain ⟨d, _, rfl⟩ := List.mem_map.mp hz
    simp at lu lv
    simp -implicitDefEqProofs [marks_ok r]
    have m0 := Int.emod_lt_of_pos d (show 0 < a by omega)
    have m1 := Int.emod_lt_of_pos d (show 0 < b by omega)
    have hk := hp.lt
    unfold mks
    by_cases h1 : c ≤ d % a <;> by_cases h2 : c ≤ d % b <;> simp -implicitDefEqProofs [h1, h2, for_cons, oIx_lst]
    · simp only [q0, q1, opt_some]
      rw [app_at cu (by omega), app_at (set_get (by omega) cv) (by omega)]
      exact hJ _ _ ⟨_, _, _, u ++ [d % a], v ++ [d % b], rfl, (g.set _ (by omega) hk).set _ (by omega) hk, set_get (by omega) (set_self cu), set_self (set_get (by omega) cv), bd_snoc bu h1 (by omega), bd_snoc bv h2 (by omega), by simp; omega, by simp; omega⟩
    · simp only [q0, q1, opt_some]
      rw [app_at cu (by omega)]
      exact hJ _ _ ⟨_, _, _, u ++ [d % a], v, rfl, g.set _ (by omega) hk, set_self cu, set_get (by omega) cv, bd_snoc bu h1 (by omega), bv, by simp; omega, by omega⟩
    · simp only [q0, q1, opt_some]
      rw [app_at cv (by omega)]
      exact hJ _ _ ⟨_, _, _, u, v ++ [d % b], rfl, g.set _ (by omega) hk, set_get (by omega) cu, set_self cv, bu, bd_snoc bv h2 (by omega), by omega, by simp; omega⟩
    · exact hJ _ _ ⟨_, _, _, u, v, rfl, g, cu, cv, bu, bv, by omega, by omega⟩
  · rintro ρ C' ⟨x3, x4, x5, u, v, rfl, g, cu, cv, bu, bv, lu, lv⟩
    simp at lu lv
    have e0 : oSset C' (.hnd C.length) = some (.lst ((dsort u).map D.int)) := oSset_ok (by rw [look_hnd cu]; rfl) (by omega)
    have e1 : oSset C' (.hnd (C.length + 1)) = some (.lst ((dsort v).map D.int)) := oSset_ok (by rw [look_hnd cv]; rfl) (by omega)
    simp -implicitDefEqProofs [-List.map_map, oIx_lst, show ∀ x y, atI [D.hnd x, D.hnd y] 0 = some (D.hnd x) from fun _ _ => rfl, show ∀ x y, atI [D.hnd x, D.hnd y] 1 = some (D.hnd y) from fun _ _ => rfl, e0, e1]
    exact h _ _ _ g (.dsort bu) (.dsort bv) (Nat.le_trans (dsort_le u) lu) (Nat.le_trans (dsort_le v) lv)
  · refine ⟨none, none, none, [], [], rfl, ?_, ?_, ?_, (fun _ h => nomatch h), (fun _ h => nomatch h), by simpa using hl, by simpa using hl⟩
    · have := ((Gr.refl hp).push (.lst [])).push (.lst [])
      simpa using this
    · simp
    · simp

theorem cut12 {β : Type} (ds : List β) : cutL ds none (some 12) = ds.take 12 := cutTo ds 12
theorem pair0 (x y : D) : atI [x, y] 0 = some x := rfl
theorem pair1 (x y : D) : atI [x, y] 1 = some y := rfl

theorem rg_nil {i j : Int} (h : ¬ i < j) : rgD i j = [] := by
  unfold rgD
  rw [show (j - i).toNat = 0 by omega]
  rfl
theorem rg_cons {i j : Int} (h : i < j) : rgD i j = .int i :: rgD (i + 1) j := by
  unfold rgD
  rw [show (j - i).toNat = (j - (i + 1)).toNat + 1 by omega, List.range_succ_eq_map, List.map_cons, List.map_map]
  congr 1
  · congr 1; simp
  · refine List.map_congr_left fun k _ => ?_
    simp; omega
theorem RowOk.snoc {lo i : Int} {ns : List Int} (h : RowOk lo (i - 1) ns) (hl : lo ≤ i) : RowOk lo i (ns ++ [i]) :=
  ⟨List.pairwise_append.mpr ⟨h.pw, by simp, fun a ha b hb => by rw [List.mem_singleton.mp hb]; have := (h.bd a ha).2; omega⟩, bd_snoc (fun k hk => ⟨(h.bd k hk).1, by have := (h.bd k hk).2; omega⟩) hl (Int.le_refl _)⟩
theorem RowOk.le {lo i j : Int} {ns : List Int} (h : RowOk lo i ns) (hl : i ≤ j) : RowOk lo j ns := ⟨h.pw, fun k hk => ⟨(h.bd k hk).1, Int.le_trans (h.bd k hk).2 hl⟩⟩
theorem some_row {k : Nat} {c a : Int} (hca : c ≤ a) {t : TX} {p : BX} {f : EX} {ρw : Ro} {C C0 : Cells} {Q : List D → Cells → Prop} (g : Gr k C0 C)
    (hs : ∀ n C', Gr k C0 C' → ∀ J : Bool → Cells → Prop, (∀ b C'', Gr k C0 C'' → J b C'') → Ok (t (.int n) ρw) C' fun ρ1 C1 => Ok (p ρ1) C1 fun b C2 => Ok (f ρ1) C2 fun y C3 => C3 = C2 ∧ y = .int n ∧ J b C3)
    (hd : ∀ ns C', Gr k C0 C' → RowOk c (a - 1) ns → Q (ns.map D.int) C') : Ok (lcD ⟨rgD c a, none⟩ t p f ρw (rgD c a) []) C Q := by
  refine lc_ok (fun xs acc C1 => Gr k C0 C1 ∧ ∃ (i : Int) (ns : List Int), xs = rgD i a ∧ i ≤ a ∧ c ≤ i ∧ acc = ns.map D.int ∧ RowOk c (i - 1) ns) ?_ ?_ _ _ _ (fun _ h => h) ⟨g, c, [], rfl, hca, Int.le_refl _, rfl, ⟨List.Pairwise.nil, fun _ h => nomatch h⟩⟩
  · rintro x xs acc C1 hx ⟨g1, i, ns, e, ia, ci, rfl, ro⟩ J hJ
    by_cases hi : i < a
    · rw [rg_cons hi] at e
      cases e
      refine (hs i C1 g1 (fun b C'' => J (if b then ns.map D.int ++ [D.int i] else ns.map D.int) C'') fun b C'' g2 => ?_).mono fun ρ1 C1 h1 => h1.mono fun b C2 h2 => ?_
      · cases b with
        | true => exact hJ _ _ ⟨g2, i + 1, ns ++ [i], rfl, by omega, by omega, by simp, (ro.snoc ci).le (by omega)⟩
        | false => exact hJ _ _ ⟨g2, i + 1, ns, rfl, by omega, by omega, rfl, ro.le (by omega)⟩
      · cases b with
        | true =>
          rw [iff2_t]
          refine h2.mono fun y C3 ⟨e1, e2, h3⟩ => ?_
          rw [e2]
          exact h3
        | false =>
          rw [iff2_f]
          obtain ⟨y, C3, _, rfl, _, h3⟩ := h2.ex
          exact h3
    · rw [rg_nil hi] at e; cases e
  · rintro acc C1 ⟨g1, i, ns, e, ia, ci, rfl, ro⟩
    by_cases hi : i < a
    · rw [rg_cons hi] at e; cases e
    · exact hd ns C1 g1 (ro.le (by omega))
theorem heard_ok {k : Nat} {a b c e : Int} (r : SR4 a b c e) {C : Cells} {P : D → Cells → Prop} (hp : PoolAt k C) (h : ∀ u v C', Gr k C C' → RowOk c (a - 1) u → RowOk c (b - 1) v → u.length ≤ 12 → v.length ≤ 12 → P (.tup [.tup (u.map D.int), .tup (v.map D.int)]) C') : Ok (m_law_heard [.hnd k, SS a b c e]) C P := by
  have e1 := r.e1
  have e2 := r.e2
  have c1 := r.c1
  have c2 := r.c2
  have a2 := r.a2
  have b2 := r.b2
  simp -implicitDefEqProofs only [m_law_heard, b_law_heard, Ok_fnD]
  simp -implicitDefEqProofs [-List.map_map, SS_ix3]
  rw [if_pos (by omega)]
  simp -implicitDefEqProofs [-List.map_map]
  refine lc_ok (fun xs acc C1 => Gr k C C1 ∧ ∃ ns : List Int, acc = ns.map D.int) ?_ ?_ _ _ _ (fun _ h => h) ⟨Gr.refl hp, [], rfl⟩
  · rintro x xs acc C1 hx ⟨g1, ns, rfl⟩ J hJ
    obtain ⟨n, rfl, _⟩ := mem_rg hx
    simp -implicitDefEqProofs
    refine draw_ok g1.pool (by omega) (by omega) fun q C2 l2 u2 g2 => ?_
    simp -implicitDefEqProofs
    refine iff2_dec (fun _ => ?_) fun _ => ?_
    · exact hJ _ _ ⟨g1.trans g2, ns ++ [n], by simp⟩
    · exact hJ _ _ ⟨g1.trans g2, ns, rfl⟩
  rintro acc C1 ⟨g1, ns, rfl⟩
  rw [cut12, ← List.map_take]
  refine made_ok r g1.pool (by simp; omega) fun u v C2 g2 ru rv lu lv => ?_
  have gC2 := g1.trans g2
  have fin : ∀ (C9 : Cells) (m : Nat) (u v : List Int), Gr k C C9 → C9[m]? = some (.lst [.lst (u.map D.int), .lst (v.map D.int)]) → RowOk c (a - 1) u → RowOk c (b - 1) v → opt (oIx C9 (.hnd m) (.int 0)) fun z => opt (sl C9 z none (some 12)) fun z => opt (oTuple C9 [z]) fun z => opt (oIx C9 (.hnd m) (.int 1)) fun z_3 => opt (sl C9 z_3 none (some 12)) fun z_4 => opt (oTuple C9 [z_4]) fun z_5 => P (D.tup [z, z_5]) C9 :=
    fun C9 m u v g hm ru rv => by
      rw [oIx_hnd hm, oIx_hnd hm, pair0, pair1]
      simp only [opt_some, sl_lst, oTuple_lst, cut12, ← List.map_take]
      exact h _ _ _ g (ru.take 12) (rv.take 12) (by simp; omega) (by simp; omega)
  simp -implicitDefEqProofs [-List.map_map, lc_cons]
  have cm : (C2 ++ [Cell.lst [D.lst (u.map D.int), D.lst (v.map D.int)]])[C2.length]? = some (.lst [.lst (u.map D.int), .lst (v.map D.int)]) := by simp
  have gm := gC2.push (.lst [.lst (u.map D.int), .lst (v.map D.int)])
  have hk := hp.lt
  have hkl := gC2.len
  refine draw_ok gm.pool (by omega) (by omega) fun q C3 lq uq g3 => ?_
  try simp -implicitDefEqProofs only
  refine draw_ok g3.pool (by omega) (by omega) fun s C4 ls us g4 => ?_
  have g34 := g3.trans g4
  have g5 := gm.trans g34
  have cm4 : C4[C2.length]? = some (.lst [.lst (u.map D.int), .lst (v.map D.int)]) := (g34.same _ (by omega) (by simp)).trans cm
  have hs : s = 0 ∨ s = 1 := by omega
  have hq : q = 0 ∨ q = 1 ∨ q = 2 ∨ q = 3 := by omega
  rcases hq with rfl | rfl | rfl | rfl
  · simp -implicitDefEqProofs [-List.map_map, SS_ix2, SS_ix0, SS_ix1]
    rw [if_pos (by omega)]
    simp -implicitDefEqProofs [-List.map_map]
    refine some_row (by omega) g5 (fun n C' gn J hJ => ?_) fun n0 C5 g6 r0 => ?_
    · simp -implicitDefEqProofs
      refine draw_ok gn.pool (by omega) (by omega) fun q C2 l2 u2 g2 => ?_
      simp -implicitDefEqProofs
      exact hJ _ _ (gn.trans g2)
    · rw [if_pos (by omega)]
      simp -implicitDefEqProofs [-List.map_map]
      refine some_row (by omega) g6 (fun n C' gn J hJ => ?_) fun n1 C6 g7 r1 => ?_
      · simp -implicitDefEqProofs
        refine draw_ok gn.pool (by omega) (by omega) fun q C2 l2 u2 g2 => ?_
        simp -implicitDefEqProofs
        exact hJ _ _ (gn.trans g2)
      · exact fin _ _ _ _ (g7.push _) (by simp) r0 r1
  · rcases hs with rfl | rfl
    · simp -implicitDefEqProofs [-List.map_map, SS_ix2, SS_ix0, SS_ix1, oIx_hnd cm4, pair0, pair1]
      refine draw_ok g5.pool (by omega) (by omega) fun q C5 l2 u2 g6 => ?_
      have cm5 : C5[C2.length]? = some (.lst [.lst (u.map D.int), .lst (v.map D.int)]) := (g6.same _ (by omega) (List.getElem?_eq_some_iff.mp cm4).1).trans cm4
      simp only [oAdd_int, opt_some]
      rw [oAdd_lst rfl rfl (by simp; omega), snoc_map, opt_some, oSset_ok rfl (by simp; omega), opt_some]
      refine setD_ok cm5 rfl ?_
      exact fin _ _ _ _ ((g5.trans g6).set _ (by omega) hk) (set_self cm5) (.dsort (bd_snoc ru.bd (by omega) (by omega))) rv
    · simp -implicitDefEqProofs [-List.map_map, SS_ix2, SS_ix0, SS_ix1, oIx_hnd cm4, pair0, pair1]
      refine draw_ok g5.pool (by omega) (by omega) fun q C5 l2 u2 g6 => ?_
      have cm5 : C5[C2.length]? = some (.lst [.lst (u.map D.int), .lst (v.map D.int)]) := (g6.same _ (by omega) (List.getElem?_eq_some_iff.mp cm4).1).trans cm4
      simp only [oAdd_int, opt_some]
      rw [oAdd_lst rfl rfl (by simp; omega), snoc_map, opt_some, oSset_ok rfl (by simp; omega), opt_some]
      refine setD_ok cm5 rfl ?_
      exact fin _ _ _ _ ((g5.trans g6).set _ (by omega) hk) (set_self cm5) ru (.dsort (bd_snoc rv.bd (by omega) (by omega)))
  · rcases hs with rfl | rfl
    · simp -implicitDefEqProofs [-List.map_map, oIx_hnd cm4, pair0, pair1, cut1]
      refine setD_ok cm4 rfl ?_
      rw [← List.map_tail]
      exact fin _ _ _ _ (g5.set _ (by omega) hk) (set_self cm4) (by rw [← List.drop_one]; exact ru.drop 1) rv
    · simp -implicitDefEqProofs [-List.map_map, oIx_hnd cm4, pair0, pair1, cut1]
      refine setD_ok cm4 rfl ?_
      rw [← List.map_tail]
      exact fin _ _ _ _ (g5.set _ (by omega) hk) (set_self cm4) ru (by rw [← List.drop_one]; exact rv.drop 1)
  · simp -implicitDefEqProofs [-List.map_map]
    exact fin _ _ _ _ g5 cm4 ru rv

theorem good_ints (u : List Int) : good (.tup (u.map D.int)) = true := good_tup fun d hd => by obtain ⟨n, _, rfl⟩ := List.mem_map.mp hd; rfl
theorem ask_tup {ds : List D} (h : ∀ d ∈ ds, good d = true) : ask (.tup ds) = true := by
  show (true && ds.all good) = true
  simpa using h
theorem itm_good {d : D} (h : ∀ ds, d ≠ .tup ds) (hf : fine d = true) : good d = true := by
  unfold good
  rw [hf]
  cases d with
  | tup ds => exact absurd rfl (h ds)
  | _ => rfl
theorem row_itm (u : List Int) : ∀ d ∈ u.map D.int, itm d = true := fun d hd => by obtain ⟨n, _, rfl⟩ := List.mem_map.mp hd; rfl
theorem near_ok {k : Nat} {a b c e : Int} {u v : List Int} (r : SR4 a b c e) (lu : u.length ≤ 12) (lv : v.length ≤ 12) {C : Cells} {P : D → Cells → Prop} (hp : PoolAt k C)
    (h : ∀ m C' items, Gr k C C' → C.length ≤ m → C'[m]? = some (.lst items) → (∀ x ∈ items, ask x = true) → P (.hnd m) C') : Ok (m_law_near [.hnd k, SS a b c e, .tup [.tup (u.map D.int), .tup (v.map D.int)]]) C P := by
  have c1 := r.c1
  have c2 := r.c2
  have a1 := r.a1
  have a2 := r.a2
  have b1 := r.b1
  have b2 := r.b2
  have hk := hp.lt
  simp -implicitDefEqProofs only [m_law_near, b_law_near, Ok_fnD]
  simp -implicitDefEqProofs [-List.map_map, SS_ix0, SS_ix1, SS_ix2]
  have hu := good_ints u
  have hv := good_ints v
  refine for_ok (fun xs ρ C' => ∃ (x4 x5 x8 : Option D) (items : List D), ρ = [some (D.hnd k), some (SS a b c e), some (.tup [.tup (u.map D.int), .tup (v.map D.int)]), some (.hnd C.length), x4, x5, some (.tup (u.map D.int)), some (.tup (v.map D.int)), x8, none] ∧ Gr k C C' ∧ C'[C.length]? = some (.lst items) ∧ items.length + 3 * xs.length ≤ 60 ∧ ∀ x ∈ items, ask x = true) ?_ ?_ _ _ _ (fun _ h => h) ?_
  · rintro z zs ρ C' hz ⟨x4, x5, x8, items, rfl, g, cm, li, ai⟩ J hJ
    have iz : itm z = true := by
      simp only [List.mem_cons, List.not_mem_nil, or_false] at hz
      rcases hz with rfl | rfl | rfl | rfl | rfl | rfl | rfl | rfl | rfl | rfl | rfl | rfl
      all_goals first | rfl | exact (Bool.true_and _).trans (okD_ofString _ _)
    simp -implicitDefEqProofs [-List.map_map]
    refine draw_ok g.pool (by omega) (by omega) fun s C2 ls us g2 => ?_
    obtain ⟨row, hrow, lr, hix⟩ : ∃ row : List Int, (∀ d ∈ row.map D.int, itm d = true) ∧ row.length ≤ 12 ∧ atI [D.tup (u.map D.int), D.tup (v.map D.int)] s = some (D.tup (row.map D.int)) := by
      have hs : s = 0 ∨ s = 1 := by omega
      rcases hs with rfl | rfl
      · exact ⟨u, row_itm u, lu, rfl⟩
      · exact ⟨v, row_itm v, lv, rfl⟩
    have cm2 : C2[C.length]? = some (.lst items) := (g2.same _ (by omega) (List.getElem?_eq_some_iff.mp cm).1).trans cm
    have gg := g.trans g2
    have pt : ∀ (x : D) (es : List D), good x = true → (∀ y ∈ es, y = x ∨ y ∈ [D.tup (u.map D.int), .tup (v.map D.int)]) → ask (.tup es) = true := fun x es hx hes => ask_tup fun d hd => by
      rcases hes d hd with rfl | hd
      · exact hx
      · simp only [List.mem_cons, List.not_mem_nil, or_false] at hd
        rcases hd with rfl | rfl
        · exact hu
        · exact hv
    simp only [List.length_cons] at li
    simp -implicitDefEqProofs [-List.map_map, oIx_tup, hix]
    rw [chkL_ok cm2, oAdd_lst rfl rfl (by simp; omega)]
    simp -implicitDefEqProofs [-List.map_map]
    refine put_ok (by simp) fun es1 h1 => ?_
    rw [app_ok cm2 (by omega)]
    have cm3 := set_self (x := Cell.lst (items ++ [.tup es1])) cm2
    rw [chkL_ok cm3, oAdd_lst rfl rfl (by simp; omega)]
    simp -implicitDefEqProofs [-List.map_map]
    refine put_ok (by simp) fun es2 h2 => ?_
    rw [app_ok cm3 (by simp; omega)]
    have cm4 := set_self (x := Cell.lst (items ++ [.tup es1] ++ [.tup es2])) cm3
    rw [chkL_ok cm4]
    simp -implicitDefEqProofs only [List.set_set]
    refine put_ok (by simp) fun es3 h3 => ?_
    rw [app_ok (by simpa using cm4) (by simp; omega)]
    refine hJ _ _ ⟨_, _, _, items ++ [.tup es1] ++ [.tup es2] ++ [.tup es3], rfl, ?_, ?_, ?_, ?_⟩
    · simp only [List.set_set]; exact gg.set _ (Nat.le_refl _) hk
    · simp only [List.set_set, List.append_assoc, List.cons_append, List.nil_append]; exact set_self cm2
    · simp; omega
    · intro x hx
      simp only [List.mem_append, List.mem_singleton] at hx
      rcases hx with ((hx | rfl) | rfl) | rfl
      · exact ai x hx
      · exact pt _ _ (good_tup fun d hd => by
          rcases List.mem_append.mp hd with hd | hd
          · exact hrow d hd
          · rw [List.mem_singleton.mp hd]; exact iz) h1
      · exact pt _ _ (good_tup fun d hd => by
          rcases List.mem_cons.mp hd with rfl | hd
          · exact iz
          · exact hrow d hd) h2
      · exact pt _ _ (good_tup fun d hd => by rw [List.mem_singleton.mp hd]; exact iz) h3
  · rintro ρ C' ⟨x4, x5, x8, items, rfl, g, cm, li, ai⟩
    simp -implicitDefEqProofs [-List.map_map]
    refine for_ok (fun xs ρ C' => ∃ (x4 x5 x8 : Option D) (m : Nat) (items : List D), ρ = [some (D.hnd k), some (SS a b c e), some (.tup [.tup (u.map D.int), .tup (v.map D.int)]), some (.hnd m), x4, x5, some (.tup (u.map D.int)), some (.tup (v.map D.int)), x8, none] ∧ Gr k C C' ∧ C.length ≤ m ∧ C'[m]? = some (.lst items) ∧ items.length + 7 * xs.length ≤ 80 ∧ ∀ x ∈ items, ask x = true) ?_ ?_ _ _ _ (fun _ h => h) ⟨_, _, _, _, items, rfl, g, Nat.le_refl _, cm, by simp at li ⊢; omega, ai⟩
    · rintro z zs ρ C' hz ⟨x4, x5, x8, m, items, rfl, g, hm, cm, li, ai⟩ J hJ
      obtain ⟨s, row, rfl, hrow, lr, hix⟩ : ∃ (s : Int) (row : List Int), z = .int s ∧ (∀ d ∈ row.map D.int, itm d = true) ∧ row.length ≤ 12 ∧ atI [D.tup (u.map D.int), D.tup (v.map D.int)] s = some (D.tup (row.map D.int)) := by
        simp only [List.mem_cons, List.not_mem_nil, or_false] at hz
        rcases hz with rfl | rfl
        · exact ⟨0, u, rfl, row_itm u, lu, rfl⟩
        · exact ⟨1, v, rfl, row_itm v, lv, rfl⟩
      have hrg : ∀ (i j : Int), ∀ d ∈ rgD i j, itm d = true := fun i j d hd => by
        obtain ⟨n, rfl, _⟩ := mem_rg hd
        rfl
      have cl := @cut_len (row.map D.int) (some (-1)) none
      simp only [List.length_map] at cl
      simp only [List.length_cons] at li
      simp -implicitDefEqProofs [-List.map_map, oIx_tup, hix, xTr2, rgO2, SS_ix2]
      rw [oAdd_tup (by simp; omega), opt_some, if_pos (by omega), opt_some, if_pos (by omega), opt_some]
      refine lc_ok (fun xs acc C1 => C1 = C' ∧ acc.length + xs.length = 7 ∧ ∀ x ∈ acc, ask x = true) ?_ ?_ _ _ _ (fun _ h => h) ⟨rfl, rfl, fun _ h => nomatch h⟩
      · rintro y ys acc C1 hy ⟨rfl, l1, a1⟩ J2 hJ2
        have gy : good y = true := by
          simp only [List.mem_cons, List.not_mem_nil, or_false] at hy
          rcases hy with rfl | rfl | rfl | rfl | rfl | rfl | rfl
          · rfl
          · exact good_tup fun d hd => hrow d (List.mem_reverse.mp hd)
          · exact good_tup fun d hd => by
              rcases List.mem_append.mp hd with hd | hd
              · exact hrow d hd
              · exact hrow d (mem_cut hd)
          · rfl
          · rfl
          · exact good_tup (hrg _ _)
          · exact good_tup (hrg _ _)
        simp -implicitDefEqProofs [-List.map_map]
        refine put_ok (by simp) fun es hes => ?_
        refine hJ2 _ _ ⟨rfl, by simp at l1 ⊢; omega, fun x hx => ?_⟩
        rcases List.mem_append.mp hx with hx | hx
        · exact a1 x hx
        · rw [List.mem_singleton.mp hx]
          refine ask_tup fun d hd => ?_
          rcases hes d hd with rfl | hd
          · exact gy
          · simp only [List.mem_cons, List.not_mem_nil, or_false] at hd
            rcases hd with rfl | rfl
            · exact hu
            · exact hv
      · rintro acc C1 ⟨rfl, l1, a1⟩
        simp at l1
        rw [catL_ok (look_hnd cm) rfl (by omega)]
        refine hJ _ _ ⟨_, _, _, _, items ++ acc, rfl, g.push _, Nat.le_trans g.len (Nat.le_refl _), List.getElem?_concat_length .., by simp; omega, fun x hx => ?_⟩
        rcases List.mem_append.mp hx with hx | hx
        · exact ai x hx
        · exact a1 x hx
    · rintro ρ C' ⟨x4, x5, x8, m, items, rfl, g, hm, cm, li, ai⟩
      simp -implicitDefEqProofs [-List.map_map]
      exact h _ _ _ g hm cm ai
  · refine ⟨none, none, none, _, rfl, (Gr.refl hp).push _, List.getElem?_concat_length .., by simp, fun z hz => ?_⟩
    simp only [List.mem_cons, List.not_mem_nil, or_false] at hz
    have hg2 : good (D.tup [.tup (u.map D.int), .tup (v.map D.int)]) = true := good_tup fun d hd => by
      simp only [List.mem_cons, List.not_mem_nil, or_false] at hd
      rcases hd with rfl | rfl
      all_goals exact Bool.and_eq_true_iff.mpr ⟨rfl, by show okL 58 _ = true; exact okL_ints _ _⟩
    rcases hz with rfl | rfl | rfl | rfl | rfl | rfl | rfl | rfl | rfl | rfl | rfl | rfl | rfl
    · exact ask_tup fun d hd => by
        simp only [List.mem_cons, List.not_mem_nil, or_false] at hd
        rcases hd with rfl | rfl
        · exact hu
        · exact hv
    · exact ask_tup fun d hd => by
        simp only [List.reverse_cons, List.reverse_nil, List.nil_append, List.cons_append, List.mem_cons, List.not_mem_nil, or_false] at hd
        rcases hd with rfl | rfl
        · exact hv
        · exact hu
    · rfl
    · exact ask_tup fun d hd => by
        rw [List.mem_singleton.mp hd]; exact hu
    · exact ask_tup fun d hd => by
        simp only [List.mem_cons, List.not_mem_nil, or_false] at hd
        rcases hd with rfl | rfl | rfl
        · exact hu
        · exact hv
        · rfl
    · rfl
    · rfl
    · rfl
    · rfl
    · rfl
    · exact ask_tup fun d hd => by
        simp only [List.mem_cons, List.not_mem_nil, or_false, or_self] at hd
        rw [hd]; exact hg2
    · rfl
    · exact ask_tup fun d hd => by obtain ⟨n, _, rfl⟩ := List.mem_map.mp hd; rfl
/-! the law's whole -/
theorem mul2 {x : D} {C : Cells} : oMul C (.lst [x]) (.int 2) = some (.lst [x, x]) := rfl
theorem widest_sd : Sd (.ktp [.int 40, .int 40, .int 0, .int 1600]) 40 40 0 := ⟨fun _ => rfl, fun _ => rfl, fun _ => rfl⟩
theorem RowOk.rowB {lo hi lo' hi' : Int} {ns : List Int} (h : RowOk lo hi ns) (h1 : lo' ≤ lo) (h2 : hi ≤ hi') : rowB lo' hi' (.tup (ns.map D.int)) = true := by
  show ((ns.map D.int).all (fun d => btw d lo' hi') && ris (ns.map D.int)) = true
  rw [all_btw fun n hn => ⟨Int.le_trans h1 (h.bd n hn).1, Int.le_trans (h.bd n hn).2 h2⟩, ris_pw, decide_eq_true h.pw]
  rfl
theorem hpB_ok {a b c a' b' c' : Int} {u v : List Int} (ru : RowOk c (a - 1) u) (rv : RowOk c (b - 1) v) (lu : u.length ≤ 12) (lv : v.length ≤ 12) (h1 : a ≤ a') (h2 : b ≤ b') (h3 : c' ≤ c) : hpB a' b' c' (.tup [.tup (u.map D.int), .tup (v.map D.int)]) = true := by
  show (rowB c' (a' - 1) (.tup (u.map D.int)) && rowB c' (b' - 1) (.tup (v.map D.int)) && (decide ((u.map D.int).length ≤ 12) && decide ((v.map D.int).length ≤ 12))) = true
  rw [ru.rowB h3 (by omega), rv.rowB h3 (by omega), List.length_map, List.length_map, decide_eq_true lu, decide_eq_true lv]
  rfl
theorem ask_pair (u v : List Int) : ask (.tup [.tup (u.map D.int), .tup (v.map D.int)]) = true := ask_tup fun d hd => by
  simp only [List.mem_cons, List.not_mem_nil, or_false] at hd
  rcases hd with rfl | rfl
  · exact good_ints u
  · exact good_ints v
theorem restcount_ok {u v : List Int} (hh : hpB 40 40 0 (.tup [.tup (u.map D.int), .tup (v.map D.int)]) = true) {C : Cells} {P : D → Cells → Prop} (h : P (.int (u.length + v.length : Nat)) C) : Ok (m_rest_count [.tup [.tup (u.map D.int), .tup (v.map D.int)]]) C P := by
  simp -implicitDefEqProofs only [m_rest_count, b_rest_count, Ok_fnD]
  simp -implicitDefEqProofs [-List.map_map]
  refine heardpair_ok widest_sd (ask_pair u v) ?_
  rw [hh]
  simp -implicitDefEqProofs [-List.map_map, oIx_tup, pair0, pair1]
  simpa using h
theorem right_ok {k : Nat} {C : Cells} {P : D → Cells → Prop} (hp : PoolAt k C) (h : ∀ C', Gr k C C' → P (.bl true) C') : Ok (m_law_right [.hnd k]) C P := by
  simp -implicitDefEqProofs [m_law_right, b_law_right]
  refine for_inv (fun ρ C3 => ∃ x1 x2 x3 x4 x5 x6, ρ = [some (D.hnd k), x1, x2, x3, x4, x5, x6, none] ∧ Gr k C C3) ⟨none, none, none, none, none, none, rfl, Gr.refl hp⟩ ?_ ?_
  · rintro d ρ C3 hd ⟨x1, x2, x3, x4, x5, x6, rfl, g3⟩ J hJ
    obtain ⟨lap, rfl, l0, l1⟩ := mem_rg hd
    simp -implicitDefEqProofs [-Ok_xIf]
    refine Ok.mono (P := fun x C' => ∃ a b c e, SR4 a b c e ∧ x = SS a b c e ∧ Gr k C3 C') ?_ ?_
    · simp -implicitDefEqProofs
      refine iff2_dec (fun _ => ?_) fun _ => ?_
      · exact sounder_pool4 g3.pool fun a b c e C4 r g4 => ⟨a, b, c, e, r, rfl, g4⟩
      · refine draw_ok g3.pool (by omega) (by omega) fun a C4 la ua g4 => ?_
        try simp -implicitDefEqProofs
        refine draw_ok g4.pool (by omega) (by omega) fun b C5 lb ub g5 => ?_
        try simp -implicitDefEqProofs
        refine draw_ok g5.pool (by omega) (by omega) fun c C6 lc uc g6 => ?_
        exact ⟨13 + a, 13 + b, c, 900, ⟨by omega, by omega, by omega, by omega, by omega, by omega, by omega, by omega⟩, rfl, (g4.trans g5).trans g6⟩
    rintro x C4 ⟨a, b, c, e, r, rfl, g4⟩
    have gg := g3.trans g4
    refine heard_ok r gg.pool fun u v C5 g5 ru rv lu lv => ?_
    have h1 : hpB a b c (.tup [.tup (u.map D.int), .tup (v.map D.int)]) = true := hpB_ok ru rv lu lv (Int.le_refl _) (Int.le_refl _) (Int.le_refl _)
    have h2 : hpB 40 40 0 (.tup [.tup (u.map D.int), .tup (v.map D.int)]) = true := hpB_ok ru rv lu lv r.a2 r.b2 r.c1
    refine isheardpair_ok r (ask_pair u v) ?_
    rw [h1]
    simp -implicitDefEqProofs [-List.map_map, -Ok_xIf, oIx_tup, pair0, pair1]
    refine restcount_ok h2 ?_
    refine restcount_ok h2 ?_
    rw [mul2, opt_some]
    rw [show ((u.length : Int) + (v.length : Int)) = ((u.length + v.length : Nat) : Int) by simp]
    refine same_refl rfl ?_
    rw [truth_bl, opt_some, iff2_t]
    have gC := gg.trans g5
    refine near_ok r lu lv gC.pool fun m C6 items g6 hm cm ai => ?_
    have gC6 := gC.trans g6
    have hk := gC.pool.lt
    have src : ∀ (P : Src → Cells → Prop), Ok (srcSeq (.hnd m)) C6 P = P ⟨items, some (m, items)⟩ C6 := fun P => by simp [srcSeq, cm]
    rw [src]
    refine forC_inv (fun ρ C7 => (∃ y5 y6, ρ = [some (D.hnd k), some (.int lap), x2, some (SS a b c e), some (.tup [.tup (u.map D.int), .tup (v.map D.int)]), y5, y6, none]) ∧ Gr k C6 C7) (fun ρ C7 h7 => (h7.2.same m (by omega) (List.getElem?_eq_some_iff.mp cm).1).trans cm) ?_ ?_ _ _ _ (fun _ h => h) ⟨⟨_, _, rfl⟩, Gr.refl gC6.pool⟩
    · rintro w ρ C7 hw ⟨⟨y5, y6, rfl⟩, g7⟩ J2 hJ2
      simp -implicitDefEqProofs [-List.map_map]
      refine draw_ok g7.pool (by omega) (by omega) fun q C8 lq uq g8 => ?_
      simp -implicitDefEqProofs [-List.map_map]
      refine isheardpair_ok r (ai w hw) ?_
      refine lheard_ok (ai w hw) ?_
      simp -implicitDefEqProofs [-List.map_map, tells_ok]
      exact hJ2 _ _ ⟨⟨_, _, rfl⟩, g7.trans g8⟩
    · rintro ρ C7 ⟨⟨y5, y6, rfl⟩, g7⟩
      simp -implicitDefEqProofs [-List.map_map]
      exact hJ _ _ ⟨_, _, _, _, _, _, rfl, gC6.trans g7⟩
  · rintro ρ C3 ⟨x1, x2, x3, x4, x5, x6, rfl, g3⟩
    have r1 : SR4 3 5 0 15 := by constructor <;> decide
    simp -implicitDefEqProofs
    refine lc_map (fun x => some (.bl (hpB 3 5 0 x))) (fun x hx => ?_) _ _ (fun _ h => h) ?_
    · have hg : ask x = true := List.all_eq_true.mp (show List.all _ ask = true from rfl) x hx
      simp -implicitDefEqProofs
      refine isheardpair_ok r1 hg ?_
      exact ⟨rfl, rfl⟩
    · rw [show List.filterMap (fun x => some (D.bl (hpB 3 5 0 x))) _ = [D.bl false, .bl true, .bl false, .bl false, .bl true] from rfl]
      simp only [List.nil_append]
      refine same_refl rfl ?_
      rw [truth_bl, opt_some, iff2_t]
      refine restcount_ok (u := [0, 39]) (v := [1, 2, 3]) rfl ?_
      simp -implicitDefEqProofs
      refine restcount_ok (u := []) (v := []) rfl ?_
      simp -implicitDefEqProofs
      exact h _ g3
theorem plain : ∀ ns : List Int, ns.length ≤ 63 → ∃ C, m_law [.scr (ns.map D.int)] [] = .ok (.bl true, C) := by
  intro ns hn
  have main : Ok (m_law [.scr (ns.map D.int)]) [] fun x _ => x = .bl true := by
    simp -implicitDefEqProofs [m_law, b_law]
    rw [if_pos (by omega)]
    simp -implicitDefEqProofs
    refine for_inv (fun ρ C => ∃ x, ρ = [some (.scr (ns.map D.int)), x]) ⟨_, rfl⟩ ?_ ?_
    · rintro d ρ C hd ⟨x, rfl⟩ J hJ
      obtain ⟨n, rfl, h0, _⟩ := mem_rg hd
      simp -implicitDefEqProofs
      refine pool_ok hn h0 fun C' hp => ?_
      refine right_ok hp fun C2 g => ?_
      simp -implicitDefEqProofs
      exact hJ _ _ ⟨_, rfl⟩
    · rintro ρ C ⟨x, rfl⟩
      simp
  obtain ⟨x, C', e, rfl⟩ := main.ex
  exact ⟨C', e⟩
end Law

namespace Law
open PySem L2 DL
section
variable {P : Program} {w : World} {K : PySem.W.Frag} {mg : Str → Option Value} {base : Heap} {t_LEAST_PERIOD t_MOST_PERIOD t_MOST_RANGE t_MOST_RESTS t_SOUNDER_SIZE : Tok}
open PyProof.Rows (envOfC)
theorem sc_law_draw : FnScope ["pool", "many", "held", "figure"] ["pool", "many"] (defScope s_law_draw) := ⟨rfl, rfl, rfl, by decide +kernel, rfl, by decide +kernel, by decide +kernel⟩
theorem ok_law_draw {f : Addr} {fd : FuncData} (d : Def K mg "_law_draw" s_law_draw ["pool", "many"] f fd) (T : Nm K mg t_LEAST_PERIOD t_MOST_PERIOD t_MOST_RANGE t_MOST_RESTS t_SOUNDER_SIZE) : Cal P w K mg base "_law_draw" s_law_draw ["pool", "many"] 1 2 m_law_draw := by
  show Cal P w K mg base "_law_draw" s_law_draw ["pool", "many"] (0 + 1) 2 (fnD 4 b_law_draw)
  refine cal_of d sc_law_draw rfl rfl fun cdv A outer s H E hr => ?_
  have tk : Tk (cxOf (L2.CX P w) P w K mg base ["pool", "many", "held", "figure"] "_law_draw" (defScope s_law_draw) f cdv A outer s H E) (fun c d _ H => E c d H) := tk_of (takes_of rfl rfl rfl rfl)
  have pw : PassesOwn (model P w) (cxOf (L2.CX P w) P w K mg base ["pool", "many", "held", "figure"] "_law_draw" (defScope s_law_draw) f cdv A outer s H E).A (cxOf (L2.CX P w) P w K mg base ["pool", "many", "held", "figure"] "_law_draw" (defScope s_law_draw) f cdv A outer s H E).env (cxOf (L2.CX P w) P w K mg base ["pool", "many", "held", "figure"] "_law_draw" (defScope s_law_draw) f cdv A outer s H E).xe := passes_of rfl
  have u64 := hr.units
  have u65 := room65 hr
  have nd := sc_law_draw.nd
  exact (ds_cons (ds_if (dt_cmp r_gt (de_ix r_ix (de_var (i := 0)) de_int) de_int) (ds_cons (ds_asg (de_blt c_divm (by rfl) T.n_divmod (by decide +kernel) (da_cons (de_ix r_ix (de_var (i := 0)) de_int) (da_cons (de_var (i := 1)) da_nil))) (dg_tup rfl (dgs_cons (dg_sub (de_var (i := 0)) de_int) (dgs_cons (dg_name nd) dgs_nil))) (ne_tup (ne_cons ne_sub (ne_cons ne_name ne_nil))))
    (ds_cons (ds_ret (de_var (i := 3))) ds_nil)) ds_nil)
    (ds_cons (ds_asg (de_bin r_add (de_ix r_ix (de_var (i := 0)) de_int) de_int) (dg_sub (de_var (i := 0)) de_int) ne_sub)
    (ds_cons (ds_set nd (de_bty c_int (by rfl) T.n_int (by decide +kernel) (da_cons (de_ix r_ix (de_var (i := 0)) de_int) da_nil)))
    (ds_cons (ds_asg (de_bin r_mod (de_bty c_int (by rfl) T.n_int (by decide +kernel) (da_cons (de_bin r_add (de_bin r_add (de_bin r_mul (de_var (i := 2)) (de_bin r_add (de_bin r_mod (de_var (i := 2)) de_int) de_int)) (de_bin r_mul de_int (de_ix r_ix (de_var (i := 0)) de_int))) de_int) da_nil)) de_int) (dg_sub (de_var (i := 0)) de_int) ne_sub)
    (ds_cons (ds_ret (de_bin r_mod (de_bty c_int (by rfl) T.n_int (by decide +kernel) (da_cons (de_bin r_fdv (de_ix r_ix (de_var (i := 0)) de_int) de_int) da_nil)) (de_var (i := 1)))) ds_nil)))))
theorem sc_law_hears : FnScope ["sounder", "side", "delay"] ["sounder", "side", "delay"] (defScope s_law_hears) := ⟨rfl, rfl, rfl, by decide +kernel, rfl, by decide +kernel, by decide +kernel⟩
theorem ok_law_hears {f : Addr} {fd : FuncData} (d : Def K mg "_law_hears" s_law_hears ["sounder", "side", "delay"] f fd) (T : Nm K mg t_LEAST_PERIOD t_MOST_PERIOD t_MOST_RANGE t_MOST_RESTS t_SOUNDER_SIZE) : Cal P w K mg base "_law_hears" s_law_hears ["sounder", "side", "delay"] 1 3 m_law_hears := by
  show Cal P w K mg base "_law_hears" s_law_hears ["sounder", "side", "delay"] (0 + 1) 3 (fnD 3 b_law_hears)
  refine cal_of d sc_law_hears rfl rfl fun cdv A outer s H E hr => ?_
  have tk : Tk (cxOf (L2.CX P w) P w K mg base ["sounder", "side", "delay"] "_law_hears" (defScope s_law_hears) f cdv A outer s H E) (fun c d _ H => E c d H) := tk_of (takes_of rfl rfl rfl rfl)
  have pw : PassesOwn (model P w) (cxOf (L2.CX P w) P w K mg base ["sounder", "side", "delay"] "_law_hears" (defScope s_law_hears) f cdv A outer s H E).A (cxOf (L2.CX P w) P w K mg base ["sounder", "side", "delay"] "_law_hears" (defScope s_law_hears) f cdv A outer s H E).env (cxOf (L2.CX P w) P w K mg base ["sounder", "side", "delay"] "_law_hears" (defScope s_law_hears) f cdv A outer s H E).xe := passes_of rfl
  have u64 := hr.units
  have u65 := room65 hr
  have nd := sc_law_hears.nd
  exact (ds_cons (ds_ret (de_cmp r_ge (de_bin r_mod (de_bty c_int (by rfl) T.n_int (by decide +kernel) (da_cons (de_var (i := 2)) da_nil)) (de_ix r_ix (de_var (i := 0)) (de_var (i := 1)))) (de_ix r_ix (de_var (i := 0)) de_int))) ds_nil)
theorem sc_law_marks : FnScope ["sounder", "delay", "side"] ["sounder", "delay"] (defScope s_law_marks) := ⟨rfl, rfl, rfl, by decide +kernel, rfl, by decide +kernel, by decide +kernel⟩
theorem ok_law_marks {f : Addr} {fd : FuncData} (d : Def K mg "_law_marks" s_law_marks ["sounder", "delay"] f fd) (T : Nm K mg t_LEAST_PERIOD t_MOST_PERIOD t_MOST_RANGE t_MOST_RESTS t_SOUNDER_SIZE) (c_law_hears : Cal P w K mg base "_law_hears" s_law_hears ["sounder", "side", "delay"] 1 3 m_law_hears) : Cal P w K mg base "_law_marks" s_law_marks ["sounder", "delay"] 2 2 m_law_marks := by
  show Cal P w K mg base "_law_marks" s_law_marks ["sounder", "delay"] (1 + 1) 2 (fnD 3 b_law_marks)
  refine cal_of d sc_law_marks rfl rfl fun cdv A outer s H E hr => ?_
  have tk : Tk (cxOf (L2.CX P w) P w K mg base ["sounder", "delay", "side"] "_law_marks" (defScope s_law_marks) f cdv A outer s H E) (fun c d _ H => E c d H) := tk_of (takes_of rfl rfl rfl rfl)
  have pw : PassesOwn (model P w) (cxOf (L2.CX P w) P w K mg base ["sounder", "delay", "side"] "_law_marks" (defScope s_law_marks) f cdv A outer s H E).A (cxOf (L2.CX P w) P w K mg base ["sounder", "delay", "side"] "_law_marks" (defScope s_law_marks) f cdv A outer s H E).env (cxOf (L2.CX P w) P w K mg base ["sounder", "delay", "side"] "_law_marks" (defScope s_law_marks) f cdv A outer s H E).xe := passes_of rfl
  have u64 := hr.units
  have u65 := room65 hr
  have nd := sc_law_marks.nd
  exact (ds_cons (ds_ret (de_lc [("side", 2)] rfl nd (di_seq (de_tupN (n := 2) (da_cons de_int (da_cons de_int da_nil)) (lenCons (lenCons lenNil)))) (fun _ _ _ _ _ => (dg_name nd)) (fun _ _ _ _ _ => (dts_one (dt_truth (cc c_law_hears hr tk0 (da_cons (de_var (i := 0)) (da_cons (de_var (i := 2)) (da_cons (de_var (i := 1)) da_nil))))))) (fun _ _ _ _ _ => (de_tupN (n := 2) (da_cons (de_var (i := 2)) (da_cons (de_bin r_mod (de_bty c_int (by rfl) T.n_int (by decide +kernel) (da_cons (de_var (i := 1)) da_nil)) (de_ix r_ix (de_var (i := 0)) (de_var (i := 2)))) da_nil)) (lenCons (lenCons lenNil)))) (ok := by show blkC ["sounder", "delay", "side"] (defScope s_law_marks) _ [("side", 2)] = true; decide +kernel))) ds_nil)
theorem sc_law_made : FnScope ["sounder", "delays", "rows", "delay", "side", "spot"] ["sounder", "delays"] (defScope s_law_made) := ⟨rfl, rfl, rfl, by decide +kernel, rfl, by decide +kernel, by decide +kernel⟩
theorem ok_law_made {f : Addr} {fd : FuncData} (d : Def K mg "_law_made" s_law_made ["sounder", "delays"] f fd) (T : Nm K mg t_LEAST_PERIOD t_MOST_PERIOD t_MOST_RANGE t_MOST_RESTS t_SOUNDER_SIZE) (c_law_marks : Cal P w K mg base "_law_marks" s_law_marks ["sounder", "delay"] 2 2 m_law_marks) : Cal P w K mg base "_law_made" s_law_made ["sounder", "delays"] 3 2 m_law_made := by
  show Cal P w K mg base "_law_made" s_law_made ["sounder", "delays"] (2 + 1) 2 (fnD 6 b_law_made)
  refine cal_of d sc_law_made rfl rfl fun cdv A outer s H E hr => ?_
  have tk : Tk (cxOf (L2.CX P w) P w K mg base ["sounder", "delays", "rows", "delay", "side", "spot"] "_law_made" (defScope s_law_made) f cdv A outer s H E) (fun c d _ H => E c d H) := tk_of (takes_of rfl rfl rfl rfl)
  have pw : PassesOwn (model P w) (cxOf (L2.CX P w) P w K mg base ["sounder", "delays", "rows", "delay", "side", "spot"] "_law_made" (defScope s_law_made) f cdv A outer s H E).A (cxOf (L2.CX P w) P w K mg base ["sounder", "delays", "rows", "delay", "side", "spot"] "_law_made" (defScope s_law_made) f cdv A outer s H E).env (cxOf (L2.CX P w) P w K mg base ["sounder", "delays", "rows", "delay", "side", "spot"] "_law_made" (defScope s_law_made) f cdv A outer s H E).xe := passes_of rfl
  have u64 := hr.units
  have u65 := room65 hr
  have nd := sc_law_made.nd
  exact (ds_cons (ds_set nd (de_lstN (n := 2) (da_cons (de_cellN (n := 0) da_nil lenNil) (da_cons (de_cellN (n := 0) da_nil lenNil) da_nil)) (lenCons (lenCons lenNil))))
    (ds_cons (ds_for pw rfl (di_seq (de_var (i := 1))) (dg_name nd) ne_name (ds_cons (ds_for pw rfl (di_seq (cc c_law_marks hr tk (da_cons (de_var (i := 0)) (da_cons (de_var (i := 3)) da_nil)))) (dg_tup rfl (dgs_cons (dg_name nd) (dgs_cons (dg_name nd) dgs_nil))) (ne_tup (ne_cons ne_name (ne_cons ne_name ne_nil))) (ds_cons (ds_expr (de_app (de_ix r_ix (de_var (i := 2)) (de_var (i := 4))) (da_cons (de_var (i := 5)) da_nil))) ds_nil)) ds_nil))
    (ds_cons (ds_ret (de_tupN (n := 2) (da_cons (de_bty c_tuple (by rfl) T.n_tuple (by decide +kernel) (da_cons (de_sset rfl T.n_sorted T.n_set (de_ix r_ix (de_var (i := 2)) de_int)) da_nil)) (da_cons (de_bty c_tuple (by rfl) T.n_tuple (by decide +kernel) (da_cons (de_sset rfl T.n_sorted T.n_set (de_ix r_ix (de_var (i := 2)) de_int)) da_nil)) da_nil)) (lenCons (lenCons lenNil)))) ds_nil)))
theorem sc_law_heard : FnScope ["pool", "sounder", "some", "rows", "sort", "side", "row", "delay", "each", "spot"] ["pool", "sounder"] (defScope s_law_heard) := ⟨rfl, rfl, rfl, by decide +kernel, rfl, by decide +kernel, by decide +kernel⟩
theorem ok_law_heard {f : Addr} {fd : FuncData} (d : Def K mg "_law_heard" s_law_heard ["pool", "sounder"] f fd) (T : Nm K mg t_LEAST_PERIOD t_MOST_PERIOD t_MOST_RANGE t_MOST_RESTS t_SOUNDER_SIZE) (c_law_draw : Cal P w K mg base "_law_draw" s_law_draw ["pool", "many"] 1 2 m_law_draw) (c_law_made : Cal P w K mg base "_law_made" s_law_made ["sounder", "delays"] 3 2 m_law_made) : Cal P w K mg base "_law_heard" s_law_heard ["pool", "sounder"] 4 2 m_law_heard := by
  show Cal P w K mg base "_law_heard" s_law_heard ["pool", "sounder"] (3 + 1) 2 (fnD 10 b_law_heard)
  refine cal_of d sc_law_heard rfl rfl fun cdv A outer s H E hr => ?_
  have tk : Tk (cxOf (L2.CX P w) P w K mg base ["pool", "sounder", "some", "rows", "sort", "side", "row", "delay", "each", "spot"] "_law_heard" (defScope s_law_heard) f cdv A outer s H E) (fun c d _ H => E c d H) := tk_of (takes_of rfl rfl rfl rfl)
  have pw : PassesOwn (model P w) (cxOf (L2.CX P w) P w K mg base ["pool", "sounder", "some", "rows", "sort", "side", "row", "delay", "each", "spot"] "_law_heard" (defScope s_law_heard) f cdv A outer s H E).A (cxOf (L2.CX P w) P w K mg base ["pool", "sounder", "some", "rows", "sort", "side", "row", "delay", "each", "spot"] "_law_heard" (defScope s_law_heard) f cdv A outer s H E).env (cxOf (L2.CX P w) P w K mg base ["pool", "sounder", "some", "rows", "sort", "side", "row", "delay", "each", "spot"] "_law_heard" (defScope s_law_heard) f cdv A outer s H E).xe := passes_of rfl
  have u64 := hr.units
  have u65 := room65 hr
  have nd := sc_law_heard.nd
  exact (ds_cons (ds_set nd (de_sl (de_lc [("delay", 7)] rfl nd (di_r1 T.n_range (da_cons (de_ix r_ix (de_var (i := 1)) de_int) da_nil)) (fun _ _ _ _ _ => (dg_name nd)) (fun _ _ _ _ _ => (dts_one (dt_cmp (r_eq u64) (cc c_law_draw hr tk0 (da_cons (de_var (i := 0)) (da_cons de_int da_nil))) de_int))) (fun _ _ _ _ _ => (de_var (i := 7))) (ok := by show blkC ["pool", "sounder", "some", "rows", "sort", "side", "row", "delay", "each", "spot"] (defScope s_law_heard) _ [("delay", 7)] = true; decide +kernel)) do_none (do_some de_int)))
    (ds_cons (by first | exact (ds_setLcC [("row", 6)] rfl nd (di_seq (cc c_law_made hr tk (da_cons (de_var (i := 1)) (da_cons (de_var (i := 2)) da_nil)))) (fun _ _ _ _ _ => (dg_name nd)) (fun _ _ _ _ _ => dts_nil) (fun _ _ _ _ _ => (de_bty c_list (by rfl) T.n_list (by decide +kernel) (da_cons (de_var (i := 6)) da_nil))) (ok := by show blkC ["pool", "sounder", "some", "rows", "sort", "side", "row", "delay", "each", "spot"] (defScope s_law_heard) _ [("row", 6)] = true; decide +kernel)) | exact (ds_set nd (de_lcC [("row", 6)] rfl nd (di_seq (cc c_law_made hr tk (da_cons (de_var (i := 1)) (da_cons (de_var (i := 2)) da_nil)))) (fun _ _ _ _ _ => (dg_name nd)) (fun _ _ _ _ _ => dts_nil) (fun _ _ _ _ _ => (de_bty c_list (by rfl) T.n_list (by decide +kernel) (da_cons (de_var (i := 6)) da_nil))) (ok := by show blkC ["pool", "sounder", "some", "rows", "sort", "side", "row", "delay", "each", "spot"] (defScope s_law_heard) _ [("row", 6)] = true; decide +kernel))))
    (ds_cons (ds_par rfl nd (by decide) (da_cons (cc c_law_draw hr tk (da_cons (de_var (i := 0)) (da_cons de_int da_nil))) (da_cons (cc c_law_draw hr tk (da_cons (de_var (i := 0)) (da_cons de_int da_nil))) da_nil)))
    (ds_cons (ds_if (dt_cmp (r_eq u64) (de_var (i := 4)) de_int) (ds_cons (by first | exact (ds_setLcC [("each", 8)] rfl nd (di_seq (de_tupN (n := 2) (da_cons de_int (da_cons de_int da_nil)) (lenCons (lenCons lenNil)))) (fun _ _ _ _ _ => (dg_name nd)) (fun _ _ _ _ _ => dts_nil) (fun _ _ _ _ _ => (de_lc [("spot", 9)] rfl nd (di_r2 T.n_range (da_cons (de_ix r_ix (de_var (i := 1)) de_int) (da_cons (de_ix r_ix (de_var (i := 1)) (de_var (i := 8))) da_nil))) (fun _ _ _ _ _ => (dg_name nd)) (fun _ _ _ _ _ => (dts_one (dt_cmp (r_eq u64) (cc c_law_draw hr tk0 (da_cons (de_var (i := 0)) (da_cons de_int da_nil))) de_int))) (fun _ _ _ _ _ => (de_var (i := 9))) (ok := by show blkC ["pool", "sounder", "some", "rows", "sort", "side", "row", "delay", "each", "spot"] (relS _ (defScope s_law_heard)) _ [("spot", 9)] = true; decide +kernel))) (ok := by show blkC ["pool", "sounder", "some", "rows", "sort", "side", "row", "delay", "each", "spot"] (defScope s_law_heard) _ [("each", 8)] = true; decide +kernel)) | exact (ds_set nd (de_lcC [("each", 8)] rfl nd (di_seq (de_tupN (n := 2) (da_cons de_int (da_cons de_int da_nil)) (lenCons (lenCons lenNil)))) (fun _ _ _ _ _ => (dg_name nd)) (fun _ _ _ _ _ => dts_nil) (fun _ _ _ _ _ => (de_lc [("spot", 9)] rfl nd (di_r2 T.n_range (da_cons (de_ix r_ix (de_var (i := 1)) de_int) (da_cons (de_ix r_ix (de_var (i := 1)) (de_var (i := 8))) da_nil))) (fun _ _ _ _ _ => (dg_name nd)) (fun _ _ _ _ _ => (dts_one (dt_cmp (r_eq u64) (cc c_law_draw hr tk0 (da_cons (de_var (i := 0)) (da_cons de_int da_nil))) de_int))) (fun _ _ _ _ _ => (de_var (i := 9))) (ok := by show blkC ["pool", "sounder", "some", "rows", "sort", "side", "row", "delay", "each", "spot"] (relS _ (defScope s_law_heard)) _ [("spot", 9)] = true; decide +kernel))) (ok := by show blkC ["pool", "sounder", "some", "rows", "sort", "side", "row", "delay", "each", "spot"] (defScope s_law_heard) _ [("each", 8)] = true; decide +kernel)))) ds_nil) ds_nil)
    (ds_cons (ds_if (dt_cmp (r_eq u64) (de_var (i := 4)) de_int) (ds_cons (ds_asg (de_sset rfl T.n_sorted T.n_set (de_bin r_add (de_ix r_ix (de_var (i := 3)) (de_var (i := 5))) (de_lstN (n := 1) (da_cons (de_bin r_add (de_ix r_ix (de_var (i := 1)) de_int) (cc c_law_draw hr tk (da_cons (de_var (i := 0)) (da_cons (de_bin r_sub (de_ix r_ix (de_var (i := 1)) (de_var (i := 5))) (de_ix r_ix (de_var (i := 1)) de_int)) da_nil)))) da_nil) (lenCons lenNil)))) (dg_sub (de_var (i := 3)) (de_var (i := 5))) ne_sub) ds_nil) ds_nil)
    (ds_cons (ds_if (dt_cmp (r_eq u64) (de_var (i := 4)) de_int) (ds_cons (ds_asg (de_sl (de_ix r_ix (de_var (i := 3)) (de_var (i := 5))) (do_some de_int) do_none) (dg_sub (de_var (i := 3)) (de_var (i := 5))) ne_sub) ds_nil) ds_nil)
    (ds_cons (ds_ret (de_tupN (n := 2) (da_cons (de_bty c_tuple (by rfl) T.n_tuple (by decide +kernel) (da_cons (de_sl (de_ix r_ix (de_var (i := 3)) de_int) do_none (do_some de_int)) da_nil)) (da_cons (de_bty c_tuple (by rfl) T.n_tuple (by decide +kernel) (da_cons (de_sl (de_ix r_ix (de_var (i := 3)) de_int) do_none (do_some de_int)) da_nil)) da_nil)) (lenCons (lenCons lenNil)))) ds_nil)))))))
theorem sc_law_put : FnScope ["some", "at", "each"] ["some", "at", "each"] (defScope s_law_put) := ⟨rfl, rfl, rfl, by decide +kernel, rfl, by decide +kernel, by decide +kernel⟩
theorem ok_law_put {f : Addr} {fd : FuncData} (d : Def K mg "_law_put" s_law_put ["some", "at", "each"] f fd) (T : Nm K mg t_LEAST_PERIOD t_MOST_PERIOD t_MOST_RANGE t_MOST_RESTS t_SOUNDER_SIZE) : Cal P w K mg base "_law_put" s_law_put ["some", "at", "each"] 1 3 m_law_put := by
  show Cal P w K mg base "_law_put" s_law_put ["some", "at", "each"] (0 + 1) 3 (fnD 3 b_law_put)
  refine cal_of d sc_law_put rfl rfl fun cdv A outer s H E hr => ?_
  have tk : Tk (cxOf (L2.CX P w) P w K mg base ["some", "at", "each"] "_law_put" (defScope s_law_put) f cdv A outer s H E) (fun c d _ H => E c d H) := tk_of (takes_of rfl rfl rfl rfl)
  have pw : PassesOwn (model P w) (cxOf (L2.CX P w) P w K mg base ["some", "at", "each"] "_law_put" (defScope s_law_put) f cdv A outer s H E).A (cxOf (L2.CX P w) P w K mg base ["some", "at", "each"] "_law_put" (defScope s_law_put) f cdv A outer s H E).env (cxOf (L2.CX P w) P w K mg base ["some", "at", "each"] "_law_put" (defScope s_law_put) f cdv A outer s H E).xe := passes_of rfl
  have u64 := hr.units
  have u65 := room65 hr
  have nd := sc_law_put.nd
  exact (ds_cons (ds_ret (de_bin r_add (de_bin r_add (de_sl (de_var (i := 0)) do_none (do_some (de_var (i := 1)))) (de_tupN (n := 1) (da_cons (de_var (i := 2)) da_nil) (lenCons lenNil))) (de_sl (de_var (i := 0)) (do_some (de_bin r_add (de_var (i := 1)) de_int)) do_none))) ds_nil)
theorem sc_law_near : FnScope ["pool", "sounder", "heard", "found", "odd", "side", "one", "two", "row", "each"] ["pool", "sounder", "heard"] (defScope s_law_near) := ⟨rfl, rfl, rfl, by decide +kernel, rfl, by decide +kernel, by decide +kernel⟩
theorem ok_law_near {f : Addr} {fd : FuncData} (d : Def K mg "_law_near" s_law_near ["pool", "sounder", "heard"] f fd) (T : Nm K mg t_LEAST_PERIOD t_MOST_PERIOD t_MOST_RANGE t_MOST_RESTS t_SOUNDER_SIZE) (c_law_draw : Cal P w K mg base "_law_draw" s_law_draw ["pool", "many"] 1 2 m_law_draw) (c_law_put : Cal P w K mg base "_law_put" s_law_put ["some", "at", "each"] 1 3 m_law_put) : Cal P w K mg base "_law_near" s_law_near ["pool", "sounder", "heard"] 2 3 m_law_near := by
  show Cal P w K mg base "_law_near" s_law_near ["pool", "sounder", "heard"] (1 + 1) 3 (fnD 10 b_law_near)
  refine cal_of d sc_law_near rfl rfl fun cdv A outer s H E hr => ?_
  have tk : Tk (cxOf (L2.CX P w) P w K mg base ["pool", "sounder", "heard", "found", "odd", "side", "one", "two", "row", "each"] "_law_near" (defScope s_law_near) f cdv A outer s H E) (fun c d _ H => E c d H) := tk_of (takes_of rfl rfl rfl rfl)
  have pw : PassesOwn (model P w) (cxOf (L2.CX P w) P w K mg base ["pool", "sounder", "heard", "found", "odd", "side", "one", "two", "row", "each"] "_law_near" (defScope s_law_near) f cdv A outer s H E).A (cxOf (L2.CX P w) P w K mg base ["pool", "sounder", "heard", "found", "odd", "side", "one", "two", "row", "each"] "_law_near" (defScope s_law_near) f cdv A outer s H E).env (cxOf (L2.CX P w) P w K mg base ["pool", "sounder", "heard", "found", "odd", "side", "one", "two", "row", "each"] "_law_near" (defScope s_law_near) f cdv A outer s H E).xe := passes_of rfl
  have u64 := hr.units
  have u65 := room65 hr
  have nd := sc_law_near.nd
  exact (ds_cons (ds_asg (de_var (i := 2)) (dg_tup rfl (dgs_cons (dg_name nd) (dgs_cons (dg_name nd) dgs_nil))) (ne_tup (ne_cons ne_name (ne_cons ne_name ne_nil))))
    (ds_cons (ds_set nd (de_cellN (n := 13) (da_cons (de_var (i := 2)) (da_cons (de_revT (de_var (i := 2))) (da_cons (de_bty c_list (by rfl) T.n_list (by decide +kernel) (da_cons (de_var (i := 2)) da_nil)) (da_cons (de_tupN (n := 1) (da_cons (de_var (i := 6)) da_nil) (lenCons lenNil)) (da_cons (de_tupN (n := 3) (da_cons (de_var (i := 6)) (da_cons (de_var (i := 7)) (da_cons (de_tupN (n := 0) da_nil lenNil) da_nil))) (lenCons (lenCons (lenCons lenNil)))) (da_cons de_non (da_cons (de_tupN (n := 0) da_nil lenNil) (da_cons de_int (da_cons de_str (da_cons de_dnew (da_cons (de_tupN (n := 2) (da_cons (de_var (i := 2)) (da_cons (de_var (i := 2)) da_nil)) (lenCons (lenCons lenNil))) (da_cons (de_tupN (n := 2) (da_cons (de_tupN (n := 0) da_nil lenNil) (da_cons (de_tupN (n := 0) da_nil lenNil) da_nil)) (lenCons (lenCons lenNil))) (da_cons (de_var (i := 6)) da_nil))))))))))))) (lenCons (lenCons (lenCons (lenCons (lenCons (lenCons (lenCons (lenCons (lenCons (lenCons (lenCons (lenCons (lenCons lenNil)))))))))))))))
    (ds_cons (ds_for pw rfl (di_seq (de_lstN (n := 12) (da_cons (de_un r_neg de_int) (da_cons de_int (da_cons (de_ix r_ix (de_var (i := 1)) de_int) (da_cons (de_bin r_sub (de_ix r_ix (de_var (i := 1)) de_int) de_int) (da_cons (de_bin r_sub (de_ix r_ix (de_var (i := 1)) de_int) de_int) (da_cons (de_ix r_ix (de_var (i := 1)) de_int) (da_cons (de_bin r_sub (de_ix r_ix (de_var (i := 1)) de_int) de_int) (da_cons (de_ix r_ix (de_var (i := 1)) de_int) (da_cons de_non (da_cons de_bl (da_cons de_str (da_cons (de_tupN (n := 1) (da_cons de_int da_nil) (lenCons lenNil)) da_nil)))))))))))) (lenCons (lenCons (lenCons (lenCons (lenCons (lenCons (lenCons (lenCons (lenCons (lenCons (lenCons (lenCons lenNil)))))))))))))) (dg_name nd) ne_name (ds_cons (ds_set nd (cc c_law_draw hr tk (da_cons (de_var (i := 0)) (da_cons de_int da_nil))))
    (ds_cons (ds_set nd (de_bty c_list (by rfl) T.n_list (by decide +kernel) (da_cons (de_ix r_ix (de_var (i := 2)) (de_var (i := 5))) da_nil)))
    (ds_cons (ds_expr (de_app (de_var (i := 3)) (da_cons (cc c_law_put hr tk (da_cons (de_var (i := 2)) (da_cons (de_var (i := 5)) (da_cons (de_bty c_tuple (by rfl) T.n_tuple (by decide +kernel) (da_cons (de_bin r_add (de_var (i := 8)) (de_lstN (n := 1) (da_cons (de_var (i := 4)) da_nil) (lenCons lenNil))) da_nil)) da_nil)))) da_nil)))
    (ds_cons (ds_expr (de_app (de_var (i := 3)) (da_cons (cc c_law_put hr tk (da_cons (de_var (i := 2)) (da_cons (de_var (i := 5)) (da_cons (de_bty c_tuple (by rfl) T.n_tuple (by decide +kernel) (da_cons (de_bin r_add (de_lstN (n := 1) (da_cons (de_var (i := 4)) da_nil) (lenCons lenNil)) (de_var (i := 8))) da_nil)) da_nil)))) da_nil)))
    (ds_cons (ds_expr (de_app (de_var (i := 3)) (da_cons (cc c_law_put hr tk (da_cons (de_var (i := 2)) (da_cons (de_var (i := 5)) (da_cons (de_tupN (n := 1) (da_cons (de_var (i := 4)) da_nil) (lenCons lenNil)) da_nil)))) da_nil))) ds_nil))))))
    (ds_cons (ds_for pw rfl (di_seq (de_tupN (n := 2) (da_cons de_int (da_cons de_int da_nil)) (lenCons (lenCons lenNil)))) (dg_name nd) ne_name (ds_cons (ds_set nd (de_ix r_ix (de_var (i := 2)) (de_var (i := 5))))
    (ds_cons (ds_set nd (de_catC (de_var (i := 3)) (de_lc [("each", 9)] rfl nd (di_seq (de_tupN (n := 7) (da_cons (de_bty c_list (by rfl) T.n_list (by decide +kernel) (da_cons (de_var (i := 8)) da_nil)) (da_cons (de_revT (de_var (i := 8))) (da_cons (de_bin r_add (de_var (i := 8)) (de_sl (de_var (i := 8)) (do_some (de_un r_neg de_int)) do_none)) (da_cons de_non (da_cons de_int (da_cons (de_tr2 rfl T.n_tuple T.n_range (de_ix r_ix (de_var (i := 1)) de_int) (de_bin r_add (de_ix r_ix (de_var (i := 1)) de_int) de_int)) (da_cons (de_tr2 rfl T.n_tuple T.n_range (de_ix r_ix (de_var (i := 1)) de_int) (de_bin r_add (de_ix r_ix (de_var (i := 1)) de_int) de_int)) da_nil))))))) (lenCons (lenCons (lenCons (lenCons (lenCons (lenCons (lenCons lenNil))))))))) (fun _ _ _ _ _ => (dg_name nd)) (fun _ _ _ _ _ => dts_nil) (fun _ _ _ _ _ => (cc c_law_put hr tk0 (da_cons (de_var (i := 2)) (da_cons (de_var (i := 5)) (da_cons (de_var (i := 9)) da_nil))))) (ok := by show blkC ["pool", "sounder", "heard", "found", "odd", "side", "one", "two", "row", "each"] (defScope s_law_near) _ [("each", 9)] = true; decide +kernel)))) ds_nil)))
    (ds_cons (ds_ret (de_var (i := 3))) ds_nil)))))
theorem sc_law_same : FnScope ["one", "other", "k"] ["one", "other"] (defScope s_law_same) := ⟨rfl, rfl, rfl, by decide +kernel, rfl, by decide +kernel, by decide +kernel⟩
theorem ok_law_same {f : Addr} {fd : FuncData} (d : Def K mg "_law_same" s_law_same ["one", "other"] f fd) (T : Nm K mg t_LEAST_PERIOD t_MOST_PERIOD t_MOST_RANGE t_MOST_RESTS t_SOUNDER_SIZE) : ∀ k : Nat, Cal P w K mg base "_law_same" s_law_same ["one", "other"] (0 + k) 2 (m_law_same k)
  | 0 => ⟨f, fd, fn_bad (x := "_law_same") (qual := "_law_same") (st := s_law_same), d⟩
  | k + 1 => by
    have c_law_same := ok_law_same d T  k
    show Cal P w K mg base "_law_same" s_law_same ["one", "other"] (0 + k + 1) 2 (fnD 3 (b_law_same (m_law_same k)))
    refine cal_of d sc_law_same rfl rfl fun cdv A outer s H E hr => ?_
    have tk : Tk (cxOf (L2.CX P w) P w K mg base ["one", "other", "k"] "_law_same" (defScope s_law_same) f cdv A outer s H E) (fun c d _ H => E c d H) := tk_of (takes_of rfl rfl rfl rfl)
    have pw : PassesOwn (model P w) (cxOf (L2.CX P w) P w K mg base ["one", "other", "k"] "_law_same" (defScope s_law_same) f cdv A outer s H E).A (cxOf (L2.CX P w) P w K mg base ["one", "other", "k"] "_law_same" (defScope s_law_same) f cdv A outer s H E).env (cxOf (L2.CX P w) P w K mg base ["one", "other", "k"] "_law_same" (defScope s_law_same) f cdv A outer s H E).xe := passes_of rfl
    have u64 := hr.units
    have u65 := room65 hr
    have nd := sc_law_same.nd
    exact (ds_cons (ds_if (dt_truth (de_blt (c_isi .n4) (by rfl) T.n_isinstance (by decide +kernel) (da_cons (de_var (i := 0)) (da_cons (de_ty (by rfl) T.n_tuple (by decide +kernel)) da_nil)))) (ds_cons (ds_ret (de_and (de_blt (c_isi .n4) (by rfl) T.n_isinstance (by decide +kernel) (da_cons (de_var (i := 1)) (da_cons (de_ty (by rfl) T.n_tuple (by decide +kernel)) da_nil))) (de_and (de_cmp (r_eq u64) (de_blt c_len (by rfl) T.n_len (by decide +kernel) (da_cons (de_var (i := 0)) da_nil)) (de_blt c_len (by rfl) T.n_len (by decide +kernel) (da_cons (de_var (i := 1)) da_nil))) (de_one (de_cmp (r_eq u64) (de_lc [("k", 2)] rfl nd (di_r1 T.n_range (da_cons (de_blt c_len (by rfl) T.n_len (by decide +kernel) (da_cons (de_var (i := 0)) da_nil)) da_nil)) (fun _ _ _ _ _ => (dg_name nd)) (fun _ _ _ _ _ => (dts_one (dt_not (dt_truth (cc c_law_same hr tk0 (da_cons (de_ix r_ix (de_var (i := 0)) (de_var (i := 2))) (da_cons (de_ix r_ix (de_var (i := 1)) (de_var (i := 2))) da_nil)) (Nat.le_refl _)))))) (fun _ _ _ _ _ => (de_var (i := 2))) (ok := by show blkC ["one", "other", "k"] (defScope s_law_same) _ [("k", 2)] = true; decide +kernel)) (de_lstN (n := 0) da_nil lenNil)))))) ds_nil) ds_nil)
      (ds_cons (ds_if (PW.pt (dw_or (dt_truth (de_blt (c_isi .n2) (by rfl) T.n_isinstance (by decide +kernel) (da_cons (de_var (i := 0)) (da_cons (de_ty (by rfl) T.n_bool (by decide +kernel)) da_nil)))) (dw_or1 (dt_truth (de_blt (c_isi .n2) (by rfl) T.n_isinstance (by decide +kernel) (da_cons (de_var (i := 1)) (da_cons (de_ty (by rfl) T.n_bool (by decide +kernel)) da_nil))))))) (ds_cons (ds_ret (de_and (de_blt (c_isi .n2) (by rfl) T.n_isinstance (by decide +kernel) (da_cons (de_var (i := 0)) (da_cons (de_ty (by rfl) T.n_bool (by decide +kernel)) da_nil))) (de_and (de_blt (c_isi .n2) (by rfl) T.n_isinstance (by decide +kernel) (da_cons (de_var (i := 1)) (da_cons (de_ty (by rfl) T.n_bool (by decide +kernel)) da_nil))) (de_one (de_cmp (r_eq u64) (de_var (i := 0)) (de_var (i := 1))))))) ds_nil) ds_nil)
      (ds_cons (ds_ret (de_and (de_cmp (r_eq u64) (de_blt (c_isi .n1) (by rfl) T.n_isinstance (by decide +kernel) (da_cons (de_var (i := 0)) (da_cons (de_ty (by rfl) T.n_int (by decide +kernel)) da_nil))) (de_blt (c_isi .n1) (by rfl) T.n_isinstance (by decide +kernel) (da_cons (de_var (i := 1)) (da_cons (de_ty (by rfl) T.n_int (by decide +kernel)) da_nil)))) (de_and (de_cmp (r_eq u64) (de_blt (c_isi .n3) (by rfl) T.n_isinstance (by decide +kernel) (da_cons (de_var (i := 0)) (da_cons (de_ty (by rfl) T.n_str (by decide +kernel)) da_nil))) (de_blt (c_isi .n3) (by rfl) T.n_isinstance (by decide +kernel) (da_cons (de_var (i := 1)) (da_cons (de_ty (by rfl) T.n_str (by decide +kernel)) da_nil)))) (de_one (de_cmp (r_eq u64) (de_var (i := 0)) (de_var (i := 1))))))) ds_nil)))
theorem sc_law_pick : FnScope ["pool", "some"] ["pool", "some"] (defScope s_law_pick) := ⟨rfl, rfl, rfl, by decide +kernel, rfl, by decide +kernel, by decide +kernel⟩
theorem ok_law_pick {f : Addr} {fd : FuncData} (d : Def K mg "_law_pick" s_law_pick ["pool", "some"] f fd) (T : Nm K mg t_LEAST_PERIOD t_MOST_PERIOD t_MOST_RANGE t_MOST_RESTS t_SOUNDER_SIZE) (c_law_draw : Cal P w K mg base "_law_draw" s_law_draw ["pool", "many"] 1 2 m_law_draw) : Cal P w K mg base "_law_pick" s_law_pick ["pool", "some"] 2 2 m_law_pick := by
  show Cal P w K mg base "_law_pick" s_law_pick ["pool", "some"] (1 + 1) 2 (fnD 2 b_law_pick)
  refine cal_of d sc_law_pick rfl rfl fun cdv A outer s H E hr => ?_
  have tk : Tk (cxOf (L2.CX P w) P w K mg base ["pool", "some"] "_law_pick" (defScope s_law_pick) f cdv A outer s H E) (fun c d _ H => E c d H) := tk_of (takes_of rfl rfl rfl rfl)
  have pw : PassesOwn (model P w) (cxOf (L2.CX P w) P w K mg base ["pool", "some"] "_law_pick" (defScope s_law_pick) f cdv A outer s H E).A (cxOf (L2.CX P w) P w K mg base ["pool", "some"] "_law_pick" (defScope s_law_pick) f cdv A outer s H E).env (cxOf (L2.CX P w) P w K mg base ["pool", "some"] "_law_pick" (defScope s_law_pick) f cdv A outer s H E).xe := passes_of rfl
  have u64 := hr.units
  have u65 := room65 hr
  have nd := sc_law_pick.nd
  exact (ds_cons (ds_ret (de_ix r_ix (de_var (i := 1)) (cc c_law_draw hr tk (da_cons (de_var (i := 0)) (da_cons (de_blt c_len (by rfl) T.n_len (by decide +kernel) (da_cons (de_var (i := 1)) da_nil)) da_nil))))) ds_nil)
theorem sc_law_sounder : FnScope ["pool", "blind", "one", "two"] ["pool"] (defScope s_law_sounder) := ⟨rfl, rfl, rfl, by decide +kernel, rfl, by decide +kernel, by decide +kernel⟩
theorem ok_law_sounder {f : Addr} {fd : FuncData} (d : Def K mg "_law_sounder" s_law_sounder ["pool"] f fd) (T : Nm K mg t_LEAST_PERIOD t_MOST_PERIOD t_MOST_RANGE t_MOST_RESTS t_SOUNDER_SIZE) (c_law_draw : Cal P w K mg base "_law_draw" s_law_draw ["pool", "many"] 1 2 m_law_draw) (c_law_pick : Cal P w K mg base "_law_pick" s_law_pick ["pool", "some"] 2 2 m_law_pick) : Cal P w K mg base "_law_sounder" s_law_sounder ["pool"] 3 1 m_law_sounder := by
  show Cal P w K mg base "_law_sounder" s_law_sounder ["pool"] (2 + 1) 1 (fnD 4 b_law_sounder)
  refine cal_of d sc_law_sounder rfl rfl fun cdv A outer s H E hr => ?_
  have tk : Tk (cxOf (L2.CX P w) P w K mg base ["pool", "blind", "one", "two"] "_law_sounder" (defScope s_law_sounder) f cdv A outer s H E) (fun c d _ H => E c d H) := tk_of (takes_of rfl rfl rfl rfl)
  have pw : PassesOwn (model P w) (cxOf (L2.CX P w) P w K mg base ["pool", "blind", "one", "two"] "_law_sounder" (defScope s_law_sounder) f cdv A outer s H E).A (cxOf (L2.CX P w) P w K mg base ["pool", "blind", "one", "two"] "_law_sounder" (defScope s_law_sounder) f cdv A outer s H E).env (cxOf (L2.CX P w) P w K mg base ["pool", "blind", "one", "two"] "_law_sounder" (defScope s_law_sounder) f cdv A outer s H E).xe := passes_of rfl
  have u64 := hr.units
  have u65 := room65 hr
  have nd := sc_law_sounder.nd
  exact (ds_cons (ds_par rfl nd (by decide) (da_cons (de_bin r_add de_int (cc c_law_draw hr tk (da_cons (de_var (i := 0)) (da_cons de_int da_nil)))) (da_cons (de_bin r_add de_int (cc c_law_draw hr tk (da_cons (de_var (i := 0)) (da_cons de_int da_nil)))) da_nil)))
    (ds_cons (ds_set nd (cc c_law_pick hr tk (da_cons (de_var (i := 0)) (da_cons (de_lstN (n := 5) (da_cons de_int (da_cons de_int (da_cons de_int (da_cons (de_bin r_sub (de_blt (c_min2 rfl) (by rfl) T.n_min (by decide +kernel) (da_cons (de_var (i := 2)) (da_cons (de_var (i := 3)) da_nil))) de_int) (da_cons (cc c_law_draw hr tk (da_cons (de_var (i := 0)) (da_cons (de_blt (c_min2 rfl) (by rfl) T.n_min (by decide +kernel) (da_cons (de_var (i := 2)) (da_cons (de_var (i := 3)) da_nil))) da_nil))) da_nil))))) (lenCons (lenCons (lenCons (lenCons (lenCons lenNil)))))) da_nil))))
    (ds_cons (ds_ret (de_tupN (n := 4) (da_cons (de_var (i := 2)) (da_cons (de_var (i := 3)) (da_cons (de_var (i := 1)) (da_cons (cc c_law_pick hr tk (da_cons (de_var (i := 0)) (da_cons (de_lstN (n := 4) (da_cons de_int (da_cons de_int (da_cons de_int (da_cons (de_bin r_add de_int (cc c_law_draw hr tk (da_cons (de_var (i := 0)) (da_cons de_int da_nil)))) da_nil)))) (lenCons (lenCons (lenCons (lenCons lenNil))))) da_nil))) da_nil)))) (lenCons (lenCons (lenCons (lenCons lenNil)))))) ds_nil)))
theorem sc_is_tuple_up_to : FnScope ["value", "low", "high"] ["value", "low", "high"] (defScope s_is_tuple_up_to) := ⟨rfl, rfl, rfl, by decide +kernel, rfl, by decide +kernel, by decide +kernel⟩
theorem ok_is_tuple_up_to {f : Addr} {fd : FuncData} (d : Def K mg "is_tuple_up_to" s_is_tuple_up_to ["value", "low", "high"] f fd) (T : Nm K mg t_LEAST_PERIOD t_MOST_PERIOD t_MOST_RANGE t_MOST_RESTS t_SOUNDER_SIZE) : Cal P w K mg base "is_tuple_up_to" s_is_tuple_up_to ["value", "low", "high"] 1 3 m_is_tuple_up_to := by
  show Cal P w K mg base "is_tuple_up_to" s_is_tuple_up_to ["value", "low", "high"] (0 + 1) 3 (fnD 3 b_is_tuple_up_to)
  refine cal_of d sc_is_tuple_up_to rfl rfl fun cdv A outer s H E hr => ?_
  have tk : Tk (cxOf (L2.CX P w) P w K mg base ["value", "low", "high"] "is_tuple_up_to" (defScope s_is_tuple_up_to) f cdv A outer s H E) (fun c d _ H => E c d H) := tk_of (takes_of rfl rfl rfl rfl)
  have pw : PassesOwn (model P w) (cxOf (L2.CX P w) P w K mg base ["value", "low", "high"] "is_tuple_up_to" (defScope s_is_tuple_up_to) f cdv A outer s H E).A (cxOf (L2.CX P w) P w K mg base ["value", "low", "high"] "is_tuple_up_to" (defScope s_is_tuple_up_to) f cdv A outer s H E).env (cxOf (L2.CX P w) P w K mg base ["value", "low", "high"] "is_tuple_up_to" (defScope s_is_tuple_up_to) f cdv A outer s H E).xe := passes_of rfl
  have u64 := hr.units
  have u65 := room65 hr
  have nd := sc_is_tuple_up_to.nd
  exact (ds_cons (ds_ret (de_and (de_blt (c_isi .n4) (by rfl) T.n_isinstance (by decide +kernel) (da_cons (de_var (i := 0)) (da_cons (de_ty (by rfl) T.n_tuple (by decide +kernel)) da_nil))) (de_one (de_ch r_le r_le (de_var (i := 1)) (de_blt c_len (by rfl) T.n_len (by decide +kernel) (da_cons (de_var (i := 0)) da_nil)) (de_var (i := 2)))))) ds_nil)
theorem sc_is_tuple_of : FnScope ["value", "many"] ["value", "many"] (defScope s_is_tuple_of) := ⟨rfl, rfl, rfl, by decide +kernel, rfl, by decide +kernel, by decide +kernel⟩
theorem ok_is_tuple_of {f : Addr} {fd : FuncData} (d : Def K mg "is_tuple_of" s_is_tuple_of ["value", "many"] f fd) (T : Nm K mg t_LEAST_PERIOD t_MOST_PERIOD t_MOST_RANGE t_MOST_RESTS t_SOUNDER_SIZE) (c_is_tuple_up_to : Cal P w K mg base "is_tuple_up_to" s_is_tuple_up_to ["value", "low", "high"] 1 3 m_is_tuple_up_to) : Cal P w K mg base "is_tuple_of" s_is_tuple_of ["value", "many"] 2 2 m_is_tuple_of := by
  show Cal P w K mg base "is_tuple_of" s_is_tuple_of ["value", "many"] (1 + 1) 2 (fnD 2 b_is_tuple_of)
  refine cal_of d sc_is_tuple_of rfl rfl fun cdv A outer s H E hr => ?_
  have tk : Tk (cxOf (L2.CX P w) P w K mg base ["value", "many"] "is_tuple_of" (defScope s_is_tuple_of) f cdv A outer s H E) (fun c d _ H => E c d H) := tk_of (takes_of rfl rfl rfl rfl)
  have pw : PassesOwn (model P w) (cxOf (L2.CX P w) P w K mg base ["value", "many"] "is_tuple_of" (defScope s_is_tuple_of) f cdv A outer s H E).A (cxOf (L2.CX P w) P w K mg base ["value", "many"] "is_tuple_of" (defScope s_is_tuple_of) f cdv A outer s H E).env (cxOf (L2.CX P w) P w K mg base ["value", "many"] "is_tuple_of" (defScope s_is_tuple_of) f cdv A outer s H E).xe := passes_of rfl
  have u64 := hr.units
  have u65 := room65 hr
  have nd := sc_is_tuple_of.nd
  exact (ds_cons (ds_ret (cc c_is_tuple_up_to hr tk (da_cons (de_var (i := 0)) (da_cons (de_var (i := 1)) (da_cons (de_var (i := 1)) da_nil))))) ds_nil)
theorem sc_is_pair : FnScope ["value"] ["value"] (defScope s_is_pair) := ⟨rfl, rfl, rfl, by decide +kernel, rfl, by decide +kernel, by decide +kernel⟩
theorem ok_is_pair {f : Addr} {fd : FuncData} (d : Def K mg "is_pair" s_is_pair ["value"] f fd) (T : Nm K mg t_LEAST_PERIOD t_MOST_PERIOD t_MOST_RANGE t_MOST_RESTS t_SOUNDER_SIZE) (c_is_tuple_of : Cal P w K mg base "is_tuple_of" s_is_tuple_of ["value", "many"] 2 2 m_is_tuple_of) : Cal P w K mg base "is_pair" s_is_pair ["value"] 3 1 m_is_pair := by
  show Cal P w K mg base "is_pair" s_is_pair ["value"] (2 + 1) 1 (fnD 1 b_is_pair)
  refine cal_of d sc_is_pair rfl rfl fun cdv A outer s H E hr => ?_
  have tk : Tk (cxOf (L2.CX P w) P w K mg base ["value"] "is_pair" (defScope s_is_pair) f cdv A outer s H E) (fun c d _ H => E c d H) := tk_of (takes_of rfl rfl rfl rfl)
  have pw : PassesOwn (model P w) (cxOf (L2.CX P w) P w K mg base ["value"] "is_pair" (defScope s_is_pair) f cdv A outer s H E).A (cxOf (L2.CX P w) P w K mg base ["value"] "is_pair" (defScope s_is_pair) f cdv A outer s H E).env (cxOf (L2.CX P w) P w K mg base ["value"] "is_pair" (defScope s_is_pair) f cdv A outer s H E).xe := passes_of rfl
  have u64 := hr.units
  have u65 := room65 hr
  have nd := sc_is_pair.nd
  exact (ds_cons (ds_ret (cc c_is_tuple_of hr tk (da_cons (de_var (i := 0)) (da_cons de_int da_nil)))) ds_nil)
theorem sc_are_rising : FnScope ["values", "one", "two"] ["values"] (defScope s_are_rising) := ⟨rfl, rfl, rfl, by decide +kernel, rfl, by decide +kernel, by decide +kernel⟩
theorem ok_are_rising {f : Addr} {fd : FuncData} (d : Def K mg "are_rising" s_are_rising ["values"] f fd) (T : Nm K mg t_LEAST_PERIOD t_MOST_PERIOD t_MOST_RANGE t_MOST_RESTS t_SOUNDER_SIZE) : Cal P w K mg base "are_rising" s_are_rising ["values"] 1 1 m_are_rising := by
  show Cal P w K mg base "are_rising" s_are_rising ["values"] (0 + 1) 1 (fnD 3 b_are_rising)
  refine cal_of d sc_are_rising rfl rfl fun cdv A outer s H E hr => ?_
  have tk : Tk (cxOf (L2.CX P w) P w K mg base ["values", "one", "two"] "are_rising" (defScope s_are_rising) f cdv A outer s H E) (fun c d _ H => E c d H) := tk_of (takes_of rfl rfl rfl rfl)
  have pw : PassesOwn (model P w) (cxOf (L2.CX P w) P w K mg base ["values", "one", "two"] "are_rising" (defScope s_are_rising) f cdv A outer s H E).A (cxOf (L2.CX P w) P w K mg base ["values", "one", "two"] "are_rising" (defScope s_are_rising) f cdv A outer s H E).env (cxOf (L2.CX P w) P w K mg base ["values", "one", "two"] "are_rising" (defScope s_are_rising) f cdv A outer s H E).xe := passes_of rfl
  have u64 := hr.units
  have u65 := room65 hr
  have nd := sc_are_rising.nd
  exact (ds_cons (ds_ret (de_blt (c_all rfl) (by rfl) T.n_all (by decide +kernel) (da_cons (de_lc [("one", 1), ("two", 2)] rfl nd (di_zip T.n_zip (da_cons (de_var (i := 0)) (da_cons (de_sl (de_var (i := 0)) (do_some de_int) do_none) da_nil))) (fun _ _ _ _ _ => (dg_tup rfl (dgs_cons (dg_name nd) (dgs_cons (dg_name nd) dgs_nil)))) (fun _ _ _ _ _ => dts_nil) (fun _ _ _ _ _ => (de_cmp r_lt (de_var (i := 1)) (de_var (i := 2)))) (ok := by show blkC ["values", "one", "two"] (defScope s_are_rising) _ [("one", 1), ("two", 2)] = true; decide +kernel)) da_nil))) ds_nil)
theorem sc_is_whole : FnScope ["value"] ["value"] (defScope s_is_whole) := ⟨rfl, rfl, rfl, by decide +kernel, rfl, by decide +kernel, by decide +kernel⟩
theorem ok_is_whole {f : Addr} {fd : FuncData} (d : Def K mg "is_whole" s_is_whole ["value"] f fd) (T : Nm K mg t_LEAST_PERIOD t_MOST_PERIOD t_MOST_RANGE t_MOST_RESTS t_SOUNDER_SIZE) : Cal P w K mg base "is_whole" s_is_whole ["value"] 1 1 m_is_whole := by
  show Cal P w K mg base "is_whole" s_is_whole ["value"] (0 + 1) 1 (fnD 1 b_is_whole)
  refine cal_of d sc_is_whole rfl rfl fun cdv A outer s H E hr => ?_
  have tk : Tk (cxOf (L2.CX P w) P w K mg base ["value"] "is_whole" (defScope s_is_whole) f cdv A outer s H E) (fun c d _ H => E c d H) := tk_of (takes_of rfl rfl rfl rfl)
  have pw : PassesOwn (model P w) (cxOf (L2.CX P w) P w K mg base ["value"] "is_whole" (defScope s_is_whole) f cdv A outer s H E).A (cxOf (L2.CX P w) P w K mg base ["value"] "is_whole" (defScope s_is_whole) f cdv A outer s H E).env (cxOf (L2.CX P w) P w K mg base ["value"] "is_whole" (defScope s_is_whole) f cdv A outer s H E).xe := passes_of rfl
  have u64 := hr.units
  have u65 := room65 hr
  have nd := sc_is_whole.nd
  exact (ds_cons (ds_ret (de_and (de_blt (c_isi .n1) (by rfl) T.n_isinstance (by decide +kernel) (da_cons (de_var (i := 0)) (da_cons (de_ty (by rfl) T.n_int (by decide +kernel)) da_nil))) (de_one (de_not (de_blt (c_isi .n2) (by rfl) T.n_isinstance (by decide +kernel) (da_cons (de_var (i := 0)) (da_cons (de_ty (by rfl) T.n_bool (by decide +kernel)) da_nil))))))) ds_nil)
theorem sc_is_between : FnScope ["value", "low", "high"] ["value", "low", "high"] (defScope s_is_between) := ⟨rfl, rfl, rfl, by decide +kernel, rfl, by decide +kernel, by decide +kernel⟩
theorem ok_is_between {f : Addr} {fd : FuncData} (d : Def K mg "is_between" s_is_between ["value", "low", "high"] f fd) (T : Nm K mg t_LEAST_PERIOD t_MOST_PERIOD t_MOST_RANGE t_MOST_RESTS t_SOUNDER_SIZE) (c_is_whole : Cal P w K mg base "is_whole" s_is_whole ["value"] 1 1 m_is_whole) : Cal P w K mg base "is_between" s_is_between ["value", "low", "high"] 2 3 m_is_between := by
  show Cal P w K mg base "is_between" s_is_between ["value", "low", "high"] (1 + 1) 3 (fnD 3 b_is_between)
  refine cal_of d sc_is_between rfl rfl fun cdv A outer s H E hr => ?_
  have tk : Tk (cxOf (L2.CX P w) P w K mg base ["value", "low", "high"] "is_between" (defScope s_is_between) f cdv A outer s H E) (fun c d _ H => E c d H) := tk_of (takes_of rfl rfl rfl rfl)
  have pw : PassesOwn (model P w) (cxOf (L2.CX P w) P w K mg base ["value", "low", "high"] "is_between" (defScope s_is_between) f cdv A outer s H E).A (cxOf (L2.CX P w) P w K mg base ["value", "low", "high"] "is_between" (defScope s_is_between) f cdv A outer s H E).env (cxOf (L2.CX P w) P w K mg base ["value", "low", "high"] "is_between" (defScope s_is_between) f cdv A outer s H E).xe := passes_of rfl
  have u64 := hr.units
  have u65 := room65 hr
  have nd := sc_is_between.nd
  exact (ds_cons (ds_ret (de_and (cc c_is_whole hr tk (da_cons (de_var (i := 0)) da_nil)) (de_one (de_ch r_le r_le (de_var (i := 1)) (de_var (i := 0)) (de_var (i := 2)))))) ds_nil)
theorem sc_blind_of : FnScope ["sounder"] ["sounder"] (defScope s_blind_of) := ⟨rfl, rfl, rfl, by decide +kernel, rfl, by decide +kernel, by decide +kernel⟩
theorem ok_blind_of {f : Addr} {fd : FuncData} (d : Def K mg "blind_of" s_blind_of ["sounder"] f fd) (T : Nm K mg t_LEAST_PERIOD t_MOST_PERIOD t_MOST_RANGE t_MOST_RESTS t_SOUNDER_SIZE) : Cal P w K mg base "blind_of" s_blind_of ["sounder"] 1 1 m_blind_of := by
  show Cal P w K mg base "blind_of" s_blind_of ["sounder"] (0 + 1) 1 (fnD 1 b_blind_of)
  refine cal_of d sc_blind_of rfl rfl fun cdv A outer s H E hr => ?_
  have tk : Tk (cxOf (L2.CX P w) P w K mg base ["sounder"] "blind_of" (defScope s_blind_of) f cdv A outer s H E) (fun c d _ H => E c d H) := tk_of (takes_of rfl rfl rfl rfl)
  have pw : PassesOwn (model P w) (cxOf (L2.CX P w) P w K mg base ["sounder"] "blind_of" (defScope s_blind_of) f cdv A outer s H E).A (cxOf (L2.CX P w) P w K mg base ["sounder"] "blind_of" (defScope s_blind_of) f cdv A outer s H E).env (cxOf (L2.CX P w) P w K mg base ["sounder"] "blind_of" (defScope s_blind_of) f cdv A outer s H E).xe := passes_of rfl
  have u64 := hr.units
  have u65 := room65 hr
  have nd := sc_blind_of.nd
  exact (ds_cons (ds_ret (de_ix r_ix (de_var (i := 0)) de_int)) ds_nil)
theorem sc_period_by : FnScope ["sounder", "side"] ["sounder", "side"] (defScope s_period_by) := ⟨rfl, rfl, rfl, by decide +kernel, rfl, by decide +kernel, by decide +kernel⟩
theorem ok_period_by {f : Addr} {fd : FuncData} (d : Def K mg "period_by" s_period_by ["sounder", "side"] f fd) (T : Nm K mg t_LEAST_PERIOD t_MOST_PERIOD t_MOST_RANGE t_MOST_RESTS t_SOUNDER_SIZE) : Cal P w K mg base "period_by" s_period_by ["sounder", "side"] 1 2 m_period_by := by
  show Cal P w K mg base "period_by" s_period_by ["sounder", "side"] (0 + 1) 2 (fnD 2 b_period_by)
  refine cal_of d sc_period_by rfl rfl fun cdv A outer s H E hr => ?_
  have tk : Tk (cxOf (L2.CX P w) P w K mg base ["sounder", "side"] "period_by" (defScope s_period_by) f cdv A outer s H E) (fun c d _ H => E c d H) := tk_of (takes_of rfl rfl rfl rfl)
  have pw : PassesOwn (model P w) (cxOf (L2.CX P w) P w K mg base ["sounder", "side"] "period_by" (defScope s_period_by) f cdv A outer s H E).A (cxOf (L2.CX P w) P w K mg base ["sounder", "side"] "period_by" (defScope s_period_by) f cdv A outer s H E).env (cxOf (L2.CX P w) P w K mg base ["sounder", "side"] "period_by" (defScope s_period_by) f cdv A outer s H E).xe := passes_of rfl
  have u64 := hr.units
  have u65 := room65 hr
  have nd := sc_period_by.nd
  exact (ds_cons (ds_ret (de_ix r_ix (de_var (i := 0)) (de_var (i := 1)))) ds_nil)
theorem sc_is_rest_of : FnScope ["sounder", "side", "value"] ["sounder", "side", "value"] (defScope s_is_rest_of) := ⟨rfl, rfl, rfl, by decide +kernel, rfl, by decide +kernel, by decide +kernel⟩
theorem ok_is_rest_of {f : Addr} {fd : FuncData} (d : Def K mg "is_rest_of" s_is_rest_of ["sounder", "side", "value"] f fd) (T : Nm K mg t_LEAST_PERIOD t_MOST_PERIOD t_MOST_RANGE t_MOST_RESTS t_SOUNDER_SIZE) (c_is_between : Cal P w K mg base "is_between" s_is_between ["value", "low", "high"] 2 3 m_is_between) (c_period_by : Cal P w K mg base "period_by" s_period_by ["sounder", "side"] 1 2 m_period_by) (c_blind_of : Cal P w K mg base "blind_of" s_blind_of ["sounder"] 1 1 m_blind_of) : Cal P w K mg base "is_rest_of" s_is_rest_of ["sounder", "side", "value"] 3 3 m_is_rest_of := by
  show Cal P w K mg base "is_rest_of" s_is_rest_of ["sounder", "side", "value"] (2 + 1) 3 (fnD 3 b_is_rest_of)
  refine cal_of d sc_is_rest_of rfl rfl fun cdv A outer s H E hr => ?_
  have tk : Tk (cxOf (L2.CX P w) P w K mg base ["sounder", "side", "value"] "is_rest_of" (defScope s_is_rest_of) f cdv A outer s H E) (fun c d _ H => E c d H) := tk_of (takes_of rfl rfl rfl rfl)
  have pw : PassesOwn (model P w) (cxOf (L2.CX P w) P w K mg base ["sounder", "side", "value"] "is_rest_of" (defScope s_is_rest_of) f cdv A outer s H E).A (cxOf (L2.CX P w) P w K mg base ["sounder", "side", "value"] "is_rest_of" (defScope s_is_rest_of) f cdv A outer s H E).env (cxOf (L2.CX P w) P w K mg base ["sounder", "side", "value"] "is_rest_of" (defScope s_is_rest_of) f cdv A outer s H E).xe := passes_of rfl
  have u64 := hr.units
  have u65 := room65 hr
  have nd := sc_is_rest_of.nd
  exact (ds_cons (ds_ret (cc c_is_between hr tk (da_cons (de_var (i := 2)) (da_cons (cc c_blind_of hr tk (da_cons (de_var (i := 0)) da_nil)) (da_cons (de_bin r_sub (cc c_period_by hr tk (da_cons (de_var (i := 0)) (da_cons (de_var (i := 1)) da_nil))) de_int) da_nil))))) ds_nil)
theorem sc_are_rests_of : FnScope ["sounder", "side", "value", "each"] ["sounder", "side", "value"] (defScope s_are_rests_of) := ⟨rfl, rfl, rfl, by decide +kernel, rfl, by decide +kernel, by decide +kernel⟩
theorem ok_are_rests_of {f : Addr} {fd : FuncData} (d : Def K mg "are_rests_of" s_are_rests_of ["sounder", "side", "value"] f fd) (T : Nm K mg t_LEAST_PERIOD t_MOST_PERIOD t_MOST_RANGE t_MOST_RESTS t_SOUNDER_SIZE) (c_is_rest_of : Cal P w K mg base "is_rest_of" s_is_rest_of ["sounder", "side", "value"] 3 3 m_is_rest_of) (c_are_rising : Cal P w K mg base "are_rising" s_are_rising ["values"] 1 1 m_are_rising) : Cal P w K mg base "are_rests_of" s_are_rests_of ["sounder", "side", "value"] 4 3 m_are_rests_of := by
  show Cal P w K mg base "are_rests_of" s_are_rests_of ["sounder", "side", "value"] (3 + 1) 3 (fnD 4 b_are_rests_of)
  refine cal_of d sc_are_rests_of rfl rfl fun cdv A outer s H E hr => ?_
  have tk : Tk (cxOf (L2.CX P w) P w K mg base ["sounder", "side", "value", "each"] "are_rests_of" (defScope s_are_rests_of) f cdv A outer s H E) (fun c d _ H => E c d H) := tk_of (takes_of rfl rfl rfl rfl)
  have pw : PassesOwn (model P w) (cxOf (L2.CX P w) P w K mg base ["sounder", "side", "value", "each"] "are_rests_of" (defScope s_are_rests_of) f cdv A outer s H E).A (cxOf (L2.CX P w) P w K mg base ["sounder", "side", "value", "each"] "are_rests_of" (defScope s_are_rests_of) f cdv A outer s H E).env (cxOf (L2.CX P w) P w K mg base ["sounder", "side", "value", "each"] "are_rests_of" (defScope s_are_rests_of) f cdv A outer s H E).xe := passes_of rfl
  have u64 := hr.units
  have u65 := room65 hr
  have nd := sc_are_rests_of.nd
  exact (ds_cons (ds_if (PW.pt (dw_or (dt_not (dt_truth (de_blt (c_isi .n4) (by rfl) T.n_isinstance (by decide +kernel) (da_cons (de_var (i := 2)) (da_cons (de_ty (by rfl) T.n_tuple (by decide +kernel)) da_nil))))) (dw_or1 (dt_not (dt_truth (de_blt (c_all rfl) (by rfl) T.n_all (by decide +kernel) (da_cons (de_lc [("each", 3)] rfl nd (di_seq (de_var (i := 2))) (fun _ _ _ _ _ => (dg_name nd)) (fun _ _ _ _ _ => dts_nil) (fun _ _ _ _ _ => (cc c_is_rest_of hr tk0 (da_cons (de_var (i := 0)) (da_cons (de_var (i := 1)) (da_cons (de_var (i := 3)) da_nil))))) (ok := by show blkC ["sounder", "side", "value", "each"] (defScope s_are_rests_of) _ [("each", 3)] = true; decide +kernel)) da_nil))))))) (ds_cons (ds_ret de_bl) ds_nil) ds_nil)
    (ds_cons (ds_ret (cc c_are_rising hr tk (da_cons (de_var (i := 2)) da_nil))) ds_nil))
theorem sc_is_heard_pair_of : FnScope ["sounder", "value", "side"] ["sounder", "value"] (defScope s_is_heard_pair_of) := ⟨rfl, rfl, rfl, by decide +kernel, rfl, by decide +kernel, by decide +kernel⟩
theorem ok_is_heard_pair_of {f : Addr} {fd : FuncData} (d : Def K mg "is_heard_pair_of" s_is_heard_pair_of ["sounder", "value"] f fd) (T : Nm K mg t_LEAST_PERIOD t_MOST_PERIOD t_MOST_RANGE t_MOST_RESTS t_SOUNDER_SIZE) (c_is_pair : Cal P w K mg base "is_pair" s_is_pair ["value"] 3 1 m_is_pair) (c_are_rests_of : Cal P w K mg base "are_rests_of" s_are_rests_of ["sounder", "side", "value"] 4 3 m_are_rests_of) : Cal P w K mg base "is_heard_pair_of" s_is_heard_pair_of ["sounder", "value"] 5 2 m_is_heard_pair_of := by
  show Cal P w K mg base "is_heard_pair_of" s_is_heard_pair_of ["sounder", "value"] (4 + 1) 2 (fnD 3 b_is_heard_pair_of)
  refine cal_of d sc_is_heard_pair_of rfl rfl fun cdv A outer s H E hr => ?_
  have tk : Tk (cxOf (L2.CX P w) P w K mg base ["sounder", "value", "side"] "is_heard_pair_of" (defScope s_is_heard_pair_of) f cdv A outer s H E) (fun c d _ H => E c d H) := tk_of (takes_of rfl rfl rfl rfl)
  have pw : PassesOwn (model P w) (cxOf (L2.CX P w) P w K mg base ["sounder", "value", "side"] "is_heard_pair_of" (defScope s_is_heard_pair_of) f cdv A outer s H E).A (cxOf (L2.CX P w) P w K mg base ["sounder", "value", "side"] "is_heard_pair_of" (defScope s_is_heard_pair_of) f cdv A outer s H E).env (cxOf (L2.CX P w) P w K mg base ["sounder", "value", "side"] "is_heard_pair_of" (defScope s_is_heard_pair_of) f cdv A outer s H E).xe := passes_of rfl
  have u64 := hr.units
  have u65 := room65 hr
  have nd := sc_is_heard_pair_of.nd
  exact (ds_cons (ds_if (PW.pt (dw_or (dt_not (dt_truth (cc c_is_pair hr tk (da_cons (de_var (i := 1)) da_nil)))) (dw_or1 (dt_not (dt_truth (de_blt (c_all rfl) (by rfl) T.n_all (by decide +kernel) (da_cons (de_lc [("side", 2)] rfl nd (di_seq (de_globK T.k_SIDES)) (fun _ _ _ _ _ => (dg_name nd)) (fun _ _ _ _ _ => dts_nil) (fun _ _ _ _ _ => (cc c_are_rests_of hr tk0 (da_cons (de_var (i := 0)) (da_cons (de_var (i := 2)) (da_cons (de_ix r_ix (de_var (i := 1)) (de_var (i := 2))) da_nil))))) (ok := by show blkC ["sounder", "value", "side"] (defScope s_is_heard_pair_of) _ [("side", 2)] = true; decide +kernel)) da_nil))))))) (ds_cons (ds_ret de_bl) ds_nil) ds_nil)
    (ds_cons (ds_ret (de_and (de_cmp r_le (de_blt c_len (by rfl) T.n_len (by decide +kernel) (da_cons (de_ix r_ix (de_var (i := 1)) de_int) da_nil)) (de_globI T.k_MOST_RESTS)) (de_one (de_cmp r_le (de_blt c_len (by rfl) T.n_len (by decide +kernel) (da_cons (de_ix r_ix (de_var (i := 1)) de_int) da_nil)) (de_globI T.k_MOST_RESTS))))) ds_nil))
theorem sc_rest_count : FnScope ["heard_pair"] ["heard_pair"] (defScope s_rest_count) := ⟨rfl, rfl, rfl, by decide +kernel, rfl, by decide +kernel, by decide +kernel⟩
theorem ok_rest_count {f : Addr} {fd : FuncData} (d : Def K mg "rest_count" s_rest_count ["heard_pair"] f fd) (T : Nm K mg t_LEAST_PERIOD t_MOST_PERIOD t_MOST_RANGE t_MOST_RESTS t_SOUNDER_SIZE) (c_is_heard_pair_of : Cal P w K mg base "is_heard_pair_of" s_is_heard_pair_of ["sounder", "value"] 5 2 m_is_heard_pair_of) : Cal P w K mg base "rest_count" s_rest_count ["heard_pair"] 6 1 m_rest_count := by
  show Cal P w K mg base "rest_count" s_rest_count ["heard_pair"] (5 + 1) 1 (fnD 1 b_rest_count)
  refine cal_of d sc_rest_count rfl rfl fun cdv A outer s H E hr => ?_
  have tk : Tk (cxOf (L2.CX P w) P w K mg base ["heard_pair"] "rest_count" (defScope s_rest_count) f cdv A outer s H E) (fun c d _ H => E c d H) := tk_of (takes_of rfl rfl rfl rfl)
  have pw : PassesOwn (model P w) (cxOf (L2.CX P w) P w K mg base ["heard_pair"] "rest_count" (defScope s_rest_count) f cdv A outer s H E).A (cxOf (L2.CX P w) P w K mg base ["heard_pair"] "rest_count" (defScope s_rest_count) f cdv A outer s H E).env (cxOf (L2.CX P w) P w K mg base ["heard_pair"] "rest_count" (defScope s_rest_count) f cdv A outer s H E).xe := passes_of rfl
  have u64 := hr.units
  have u65 := room65 hr
  have nd := sc_rest_count.nd
  exact (ds_cons (ds_if (dt_not (dt_truth (cc c_is_heard_pair_of hr tk (da_cons (de_globK T.k_WIDEST) (da_cons (de_var (i := 0)) da_nil))))) (ds_cons ds_never ds_nil) ds_nil)
    (ds_cons (ds_ret (de_bin r_add (de_blt c_len (by rfl) T.n_len (by decide +kernel) (da_cons (de_ix r_ix (de_var (i := 0)) de_int) da_nil)) (de_blt c_len (by rfl) T.n_len (by decide +kernel) (da_cons (de_ix r_ix (de_var (i := 0)) de_int) da_nil)))) ds_nil))
theorem sc_is_up_to : FnScope ["value", "most"] ["value", "most"] (defScope s_is_up_to) := ⟨rfl, rfl, rfl, by decide +kernel, rfl, by decide +kernel, by decide +kernel⟩
theorem ok_is_up_to {f : Addr} {fd : FuncData} (d : Def K mg "is_up_to" s_is_up_to ["value", "most"] f fd) (T : Nm K mg t_LEAST_PERIOD t_MOST_PERIOD t_MOST_RANGE t_MOST_RESTS t_SOUNDER_SIZE) (c_is_between : Cal P w K mg base "is_between" s_is_between ["value", "low", "high"] 2 3 m_is_between) : Cal P w K mg base "is_up_to" s_is_up_to ["value", "most"] 3 2 m_is_up_to := by
  show Cal P w K mg base "is_up_to" s_is_up_to ["value", "most"] (2 + 1) 2 (fnD 2 b_is_up_to)
  refine cal_of d sc_is_up_to rfl rfl fun cdv A outer s H E hr => ?_
  have tk : Tk (cxOf (L2.CX P w) P w K mg base ["value", "most"] "is_up_to" (defScope s_is_up_to) f cdv A outer s H E) (fun c d _ H => E c d H) := tk_of (takes_of rfl rfl rfl rfl)
  have pw : PassesOwn (model P w) (cxOf (L2.CX P w) P w K mg base ["value", "most"] "is_up_to" (defScope s_is_up_to) f cdv A outer s H E).A (cxOf (L2.CX P w) P w K mg base ["value", "most"] "is_up_to" (defScope s_is_up_to) f cdv A outer s H E).env (cxOf (L2.CX P w) P w K mg base ["value", "most"] "is_up_to" (defScope s_is_up_to) f cdv A outer s H E).xe := passes_of rfl
  have u64 := hr.units
  have u65 := room65 hr
  have nd := sc_is_up_to.nd
  exact (ds_cons (ds_ret (cc c_is_between hr tk (da_cons (de_var (i := 0)) (da_cons de_int (da_cons (de_var (i := 1)) da_nil))))) ds_nil)
theorem sc_is_period : FnScope ["value"] ["value"] (defScope s_is_period) := ⟨rfl, rfl, rfl, by decide +kernel, rfl, by decide +kernel, by decide +kernel⟩
theorem ok_is_period {f : Addr} {fd : FuncData} (d : Def K mg "is_period" s_is_period ["value"] f fd) (T : Nm K mg t_LEAST_PERIOD t_MOST_PERIOD t_MOST_RANGE t_MOST_RESTS t_SOUNDER_SIZE) (c_is_between : Cal P w K mg base "is_between" s_is_between ["value", "low", "high"] 2 3 m_is_between) : Cal P w K mg base "is_period" s_is_period ["value"] 3 1 m_is_period := by
  show Cal P w K mg base "is_period" s_is_period ["value"] (2 + 1) 1 (fnD 1 b_is_period)
  refine cal_of d sc_is_period rfl rfl fun cdv A outer s H E hr => ?_
  have tk : Tk (cxOf (L2.CX P w) P w K mg base ["value"] "is_period" (defScope s_is_period) f cdv A outer s H E) (fun c d _ H => E c d H) := tk_of (takes_of rfl rfl rfl rfl)
  have pw : PassesOwn (model P w) (cxOf (L2.CX P w) P w K mg base ["value"] "is_period" (defScope s_is_period) f cdv A outer s H E).A (cxOf (L2.CX P w) P w K mg base ["value"] "is_period" (defScope s_is_period) f cdv A outer s H E).env (cxOf (L2.CX P w) P w K mg base ["value"] "is_period" (defScope s_is_period) f cdv A outer s H E).xe := passes_of rfl
  have u64 := hr.units
  have u65 := room65 hr
  have nd := sc_is_period.nd
  exact (ds_cons (ds_ret (cc c_is_between hr tk (da_cons (de_var (i := 0)) (da_cons (de_globI T.k_LEAST_PERIOD) (da_cons (de_globI T.k_MOST_PERIOD) da_nil))))) ds_nil)
theorem sc_is_sounder_of : FnScope ["value"] ["value"] (defScope s_is_sounder_of) := ⟨rfl, rfl, rfl, by decide +kernel, rfl, by decide +kernel, by decide +kernel⟩
theorem ok_is_sounder_of {f : Addr} {fd : FuncData} (d : Def K mg "is_sounder_of" s_is_sounder_of ["value"] f fd) (T : Nm K mg t_LEAST_PERIOD t_MOST_PERIOD t_MOST_RANGE t_MOST_RESTS t_SOUNDER_SIZE) (c_is_tuple_of : Cal P w K mg base "is_tuple_of" s_is_tuple_of ["value", "many"] 2 2 m_is_tuple_of) (c_is_period : Cal P w K mg base "is_period" s_is_period ["value"] 3 1 m_is_period) (c_is_up_to : Cal P w K mg base "is_up_to" s_is_up_to ["value", "most"] 3 2 m_is_up_to) (c_is_between : Cal P w K mg base "is_between" s_is_between ["value", "low", "high"] 2 3 m_is_between) : Cal P w K mg base "is_sounder_of" s_is_sounder_of ["value"] 4 1 m_is_sounder_of := by
  show Cal P w K mg base "is_sounder_of" s_is_sounder_of ["value"] (3 + 1) 1 (fnD 1 b_is_sounder_of)
  refine cal_of d sc_is_sounder_of rfl rfl fun cdv A outer s H E hr => ?_
  have tk : Tk (cxOf (L2.CX P w) P w K mg base ["value"] "is_sounder_of" (defScope s_is_sounder_of) f cdv A outer s H E) (fun c d _ H => E c d H) := tk_of (takes_of rfl rfl rfl rfl)
  have pw : PassesOwn (model P w) (cxOf (L2.CX P w) P w K mg base ["value"] "is_sounder_of" (defScope s_is_sounder_of) f cdv A outer s H E).A (cxOf (L2.CX P w) P w K mg base ["value"] "is_sounder_of" (defScope s_is_sounder_of) f cdv A outer s H E).env (cxOf (L2.CX P w) P w K mg base ["value"] "is_sounder_of" (defScope s_is_sounder_of) f cdv A outer s H E).xe := passes_of rfl
  have u64 := hr.units
  have u65 := room65 hr
  have nd := sc_is_sounder_of.nd
  exact (ds_cons (ds_if (PW.pt (dw_or (dt_not (dt_truth (cc c_is_tuple_of hr tk (da_cons (de_var (i := 0)) (da_cons (de_globI T.k_SOUNDER_SIZE) da_nil))))) (dw_or (dt_not (dt_truth (cc c_is_period hr tk (da_cons (de_ix r_ix (de_var (i := 0)) de_int) da_nil)))) (dw_or1 (dt_not (dt_truth (cc c_is_period hr tk (da_cons (de_ix r_ix (de_var (i := 0)) de_int) da_nil)))))))) (ds_cons (ds_ret de_bl) ds_nil) ds_nil)
    (ds_cons (ds_ret (de_and (cc c_is_up_to hr tk (da_cons (de_ix r_ix (de_var (i := 0)) de_int) (da_cons (de_bin r_sub (de_blt (c_min2 rfl) (by rfl) T.n_min (by decide +kernel) (da_cons (de_ix r_ix (de_var (i := 0)) de_int) (da_cons (de_ix r_ix (de_var (i := 0)) de_int) da_nil))) de_int) da_nil))) (de_one (cc c_is_between hr tk (da_cons (de_ix r_ix (de_var (i := 0)) de_int) (da_cons de_int (da_cons (de_globI T.k_MOST_RANGE) da_nil))))))) ds_nil))
theorem sc_check_sounder : FnScope ["sounder"] ["sounder"] (defScope s_check_sounder) := ⟨rfl, rfl, rfl, by decide +kernel, rfl, by decide +kernel, by decide +kernel⟩
theorem ok_check_sounder {f : Addr} {fd : FuncData} (d : Def K mg "check_sounder" s_check_sounder ["sounder"] f fd) (T : Nm K mg t_LEAST_PERIOD t_MOST_PERIOD t_MOST_RANGE t_MOST_RESTS t_SOUNDER_SIZE) (c_is_sounder_of : Cal P w K mg base "is_sounder_of" s_is_sounder_of ["value"] 4 1 m_is_sounder_of) : Cal P w K mg base "check_sounder" s_check_sounder ["sounder"] 5 1 m_check_sounder := by
  show Cal P w K mg base "check_sounder" s_check_sounder ["sounder"] (4 + 1) 1 (fnD 1 b_check_sounder)
  refine cal_of d sc_check_sounder rfl rfl fun cdv A outer s H E hr => ?_
  have tk : Tk (cxOf (L2.CX P w) P w K mg base ["sounder"] "check_sounder" (defScope s_check_sounder) f cdv A outer s H E) (fun c d _ H => E c d H) := tk_of (takes_of rfl rfl rfl rfl)
  have pw : PassesOwn (model P w) (cxOf (L2.CX P w) P w K mg base ["sounder"] "check_sounder" (defScope s_check_sounder) f cdv A outer s H E).A (cxOf (L2.CX P w) P w K mg base ["sounder"] "check_sounder" (defScope s_check_sounder) f cdv A outer s H E).env (cxOf (L2.CX P w) P w K mg base ["sounder"] "check_sounder" (defScope s_check_sounder) f cdv A outer s H E).xe := passes_of rfl
  have u64 := hr.units
  have u65 := room65 hr
  have nd := sc_check_sounder.nd
  exact (ds_cons (ds_if (dt_not (dt_truth (cc c_is_sounder_of hr tk (da_cons (de_var (i := 0)) da_nil)))) (ds_cons ds_never ds_nil) ds_nil) ds_nil)
theorem sc_is_heard_pair : FnScope ["sounder", "value"] ["sounder", "value"] (defScope s_is_heard_pair) := ⟨rfl, rfl, rfl, by decide +kernel, rfl, by decide +kernel, by decide +kernel⟩
theorem ok_is_heard_pair {f : Addr} {fd : FuncData} (d : Def K mg "is_heard_pair" s_is_heard_pair ["sounder", "value"] f fd) (T : Nm K mg t_LEAST_PERIOD t_MOST_PERIOD t_MOST_RANGE t_MOST_RESTS t_SOUNDER_SIZE) (c_check_sounder : Cal P w K mg base "check_sounder" s_check_sounder ["sounder"] 5 1 m_check_sounder) (c_is_heard_pair_of : Cal P w K mg base "is_heard_pair_of" s_is_heard_pair_of ["sounder", "value"] 5 2 m_is_heard_pair_of) : Cal P w K mg base "is_heard_pair" s_is_heard_pair ["sounder", "value"] 6 2 m_is_heard_pair := by
  show Cal P w K mg base "is_heard_pair" s_is_heard_pair ["sounder", "value"] (5 + 1) 2 (fnD 2 b_is_heard_pair)
  refine cal_of d sc_is_heard_pair rfl rfl fun cdv A outer s H E hr => ?_
  have tk : Tk (cxOf (L2.CX P w) P w K mg base ["sounder", "value"] "is_heard_pair" (defScope s_is_heard_pair) f cdv A outer s H E) (fun c d _ H => E c d H) := tk_of (takes_of rfl rfl rfl rfl)
  have pw : PassesOwn (model P w) (cxOf (L2.CX P w) P w K mg base ["sounder", "value"] "is_heard_pair" (defScope s_is_heard_pair) f cdv A outer s H E).A (cxOf (L2.CX P w) P w K mg base ["sounder", "value"] "is_heard_pair" (defScope s_is_heard_pair) f cdv A outer s H E).env (cxOf (L2.CX P w) P w K mg base ["sounder", "value"] "is_heard_pair" (defScope s_is_heard_pair) f cdv A outer s H E).xe := passes_of rfl
  have u64 := hr.units
  have u65 := room65 hr
  have nd := sc_is_heard_pair.nd
  exact (ds_cons (ds_expr (cc c_check_sounder hr tk (da_cons (de_var (i := 0)) da_nil)))
    (ds_cons (ds_ret (cc c_is_heard_pair_of hr tk (da_cons (de_var (i := 0)) (da_cons (de_var (i := 1)) da_nil)))) ds_nil))
theorem sc_law_tells : FnScope ["told", "due"] ["told", "due"] (defScope s_law_tells) := ⟨rfl, rfl, rfl, by decide +kernel, rfl, by decide +kernel, by decide +kernel⟩
theorem ok_law_tells {f : Addr} {fd : FuncData} (d : Def K mg "_law_tells" s_law_tells ["told", "due"] f fd) (T : Nm K mg t_LEAST_PERIOD t_MOST_PERIOD t_MOST_RANGE t_MOST_RESTS t_SOUNDER_SIZE) : Cal P w K mg base "_law_tells" s_law_tells ["told", "due"] 1 2 m_law_tells := by
  show Cal P w K mg base "_law_tells" s_law_tells ["told", "due"] (0 + 1) 2 (fnD 2 b_law_tells)
  refine cal_of d sc_law_tells rfl rfl fun cdv A outer s H E hr => ?_
  have tk : Tk (cxOf (L2.CX P w) P w K mg base ["told", "due"] "_law_tells" (defScope s_law_tells) f cdv A outer s H E) (fun c d _ H => E c d H) := tk_of (takes_of rfl rfl rfl rfl)
  have pw : PassesOwn (model P w) (cxOf (L2.CX P w) P w K mg base ["told", "due"] "_law_tells" (defScope s_law_tells) f cdv A outer s H E).A (cxOf (L2.CX P w) P w K mg base ["told", "due"] "_law_tells" (defScope s_law_tells) f cdv A outer s H E).env (cxOf (L2.CX P w) P w K mg base ["told", "due"] "_law_tells" (defScope s_law_tells) f cdv A outer s H E).xe := passes_of rfl
  have u64 := hr.units
  have u65 := room65 hr
  have nd := sc_law_tells.nd
  exact (ds_cons (ds_ret (de_if (dt_truth (de_var (i := 1))) (de_cmp r_isB (de_var (i := 0)) de_bl) (de_cmp r_isB (de_var (i := 0)) de_bl))) ds_nil)
theorem sc_law_is_whole : FnScope ["told"] ["told"] (defScope s_law_is_whole) := ⟨rfl, rfl, rfl, by decide +kernel, rfl, by decide +kernel, by decide +kernel⟩
theorem ok_law_is_whole {f : Addr} {fd : FuncData} (d : Def K mg "_law_is_whole" s_law_is_whole ["told"] f fd) (T : Nm K mg t_LEAST_PERIOD t_MOST_PERIOD t_MOST_RANGE t_MOST_RESTS t_SOUNDER_SIZE) : Cal P w K mg base "_law_is_whole" s_law_is_whole ["told"] 1 1 m_law_is_whole := by
  show Cal P w K mg base "_law_is_whole" s_law_is_whole ["told"] (0 + 1) 1 (fnD 1 b_law_is_whole)
  refine cal_of d sc_law_is_whole rfl rfl fun cdv A outer s H E hr => ?_
  have tk : Tk (cxOf (L2.CX P w) P w K mg base ["told"] "_law_is_whole" (defScope s_law_is_whole) f cdv A outer s H E) (fun c d _ H => E c d H) := tk_of (takes_of rfl rfl rfl rfl)
  have pw : PassesOwn (model P w) (cxOf (L2.CX P w) P w K mg base ["told"] "_law_is_whole" (defScope s_law_is_whole) f cdv A outer s H E).A (cxOf (L2.CX P w) P w K mg base ["told"] "_law_is_whole" (defScope s_law_is_whole) f cdv A outer s H E).env (cxOf (L2.CX P w) P w K mg base ["told"] "_law_is_whole" (defScope s_law_is_whole) f cdv A outer s H E).xe := passes_of rfl
  have u64 := hr.units
  have u65 := room65 hr
  have nd := sc_law_is_whole.nd
  exact (ds_cons (ds_ret (de_and (de_blt (c_isi .n1) (by rfl) T.n_isinstance (by decide +kernel) (da_cons (de_var (i := 0)) (da_cons (de_ty (by rfl) T.n_int (by decide +kernel)) da_nil))) (de_one (de_not (de_blt (c_isi .n2) (by rfl) T.n_isinstance (by decide +kernel) (da_cons (de_var (i := 0)) (da_cons (de_ty (by rfl) T.n_bool (by decide +kernel)) da_nil))))))) ds_nil)
theorem sc_law_is_heard : FnScope ["sounder", "told", "side", "row", "spot"] ["sounder", "told"] (defScope s_law_is_heard) := ⟨rfl, rfl, rfl, by decide +kernel, rfl, by decide +kernel, by decide +kernel⟩
theorem ok_law_is_heard {f : Addr} {fd : FuncData} (d : Def K mg "_law_is_heard" s_law_is_heard ["sounder", "told"] f fd) (T : Nm K mg t_LEAST_PERIOD t_MOST_PERIOD t_MOST_RANGE t_MOST_RESTS t_SOUNDER_SIZE) (c_law_is_whole : Cal P w K mg base "_law_is_whole" s_law_is_whole ["told"] 1 1 m_law_is_whole) : Cal P w K mg base "_law_is_heard" s_law_is_heard ["sounder", "told"] 2 2 m_law_is_heard := by
  show Cal P w K mg base "_law_is_heard" s_law_is_heard ["sounder", "told"] (1 + 1) 2 (fnD 5 b_law_is_heard)
  refine cal_of d sc_law_is_heard rfl rfl fun cdv A outer s H E hr => ?_
  have tk : Tk (cxOf (L2.CX P w) P w K mg base ["sounder", "told", "side", "row", "spot"] "_law_is_heard" (defScope s_law_is_heard) f cdv A outer s H E) (fun c d _ H => E c d H) := tk_of (takes_of rfl rfl rfl rfl)
  have pw : PassesOwn (model P w) (cxOf (L2.CX P w) P w K mg base ["sounder", "told", "side", "row", "spot"] "_law_is_heard" (defScope s_law_is_heard) f cdv A outer s H E).A (cxOf (L2.CX P w) P w K mg base ["sounder", "told", "side", "row", "spot"] "_law_is_heard" (defScope s_law_is_heard) f cdv A outer s H E).env (cxOf (L2.CX P w) P w K mg base ["sounder", "told", "side", "row", "spot"] "_law_is_heard" (defScope s_law_is_heard) f cdv A outer s H E).xe := passes_of rfl
  have u64 := hr.units
  have u65 := room65 hr
  have nd := sc_law_is_heard.nd
  exact (ds_cons (ds_if (PW.pt (dw_or (dt_not (dt_truth (de_blt (c_isi .n4) (by rfl) T.n_isinstance (by decide +kernel) (da_cons (de_var (i := 1)) (da_cons (de_ty (by rfl) T.n_tuple (by decide +kernel)) da_nil))))) (dw_or1 (dt_cmp (r_ne u64) (de_blt c_len (by rfl) T.n_len (by decide +kernel) (da_cons (de_var (i := 1)) da_nil)) de_int)))) (ds_cons (ds_ret de_bl) ds_nil) ds_nil)
    (ds_cons (ds_for pw rfl (di_seq (de_tupN (n := 2) (da_cons de_int (da_cons de_int da_nil)) (lenCons (lenCons lenNil)))) (dg_name nd) ne_name (ds_cons (ds_set nd (de_ix r_ix (de_var (i := 1)) (de_var (i := 2))))
    (ds_cons (ds_if (PW.pt (dw_or (dt_not (dt_truth (de_blt (c_isi .n4) (by rfl) T.n_isinstance (by decide +kernel) (da_cons (de_var (i := 3)) (da_cons (de_ty (by rfl) T.n_tuple (by decide +kernel)) da_nil))))) (dw_or (dt_cmp r_gt (de_blt c_len (by rfl) T.n_len (by decide +kernel) (da_cons (de_var (i := 3)) da_nil)) de_int) (dw_or (dt_cmp (r_ne u64) (de_lc [("spot", 4)] rfl nd (di_seq (de_var (i := 3))) (fun _ _ _ _ _ => (dg_name nd)) (fun _ _ _ _ _ => (dts_one (PW.pt (dw_or (dt_not (dt_truth (cc c_law_is_whole hr tk0 (da_cons (de_var (i := 4)) da_nil)))) (dw_or1 (dt_not (dt_ch r_le r_lt (de_ix r_ix (de_var (i := 0)) de_int) (de_var (i := 4)) (de_ix r_ix (de_var (i := 0)) (de_var (i := 2)))))))))) (fun _ _ _ _ _ => (de_var (i := 4))) (ok := by show blkC ["sounder", "told", "side", "row", "spot"] (defScope s_law_is_heard) _ [("spot", 4)] = true; decide +kernel)) (de_lstN (n := 0) da_nil lenNil)) (dw_or1 (dt_cmp (r_ne u64) (de_bty c_list (by rfl) T.n_list (by decide +kernel) (da_cons (de_var (i := 3)) da_nil)) (de_sset rfl T.n_sorted T.n_set (de_var (i := 3))))))))) (ds_cons (ds_ret de_bl) ds_nil) ds_nil) ds_nil)))
    (ds_cons (ds_ret de_bl) ds_nil)))
theorem sc_law_right : FnScope ["pool", "lap", "plain", "sounder", "heard", "value", "told", "each"] ["pool"] (defScope s_law_right) := ⟨rfl, rfl, rfl, by decide +kernel, rfl, by decide +kernel, by decide +kernel⟩
theorem ok_law_right {f : Addr} {fd : FuncData} (d : Def K mg "_law_right" s_law_right ["pool"] f fd) (T : Nm K mg t_LEAST_PERIOD t_MOST_PERIOD t_MOST_RANGE t_MOST_RESTS t_SOUNDER_SIZE) (c_law_sounder : Cal P w K mg base "_law_sounder" s_law_sounder ["pool"] 3 1 m_law_sounder) (c_law_draw : Cal P w K mg base "_law_draw" s_law_draw ["pool", "many"] 1 2 m_law_draw) (c_law_heard : Cal P w K mg base "_law_heard" s_law_heard ["pool", "sounder"] 4 2 m_law_heard) (c_is_heard_pair : Cal P w K mg base "is_heard_pair" s_is_heard_pair ["sounder", "value"] 6 2 m_is_heard_pair) (c_law_same : Cal P w K mg base "_law_same" s_law_same ["one", "other"] 12 2 (m_law_same 12)) (c_rest_count : Cal P w K mg base "rest_count" s_rest_count ["heard_pair"] 6 1 m_rest_count) (c_law_near : Cal P w K mg base "_law_near" s_law_near ["pool", "sounder", "heard"] 2 3 m_law_near) (c_law_tells : Cal P w K mg base "_law_tells" s_law_tells ["told", "due"] 1 2 m_law_tells) (c_law_is_heard : Cal P w K mg base "_law_is_heard" s_law_is_heard ["sounder", "told"] 2 2 m_law_is_heard) : Cal P w K mg base "_law_right" s_law_right ["pool"] 13 1 m_law_right := by
  show Cal P w K mg base "_law_right" s_law_right ["pool"] (12 + 1) 1 (fnD 8 b_law_right)
  refine cal_of d sc_law_right rfl rfl fun cdv A outer s H E hr => ?_
  have tk : Tk (cxOf (L2.CX P w) P w K mg base ["pool", "lap", "plain", "sounder", "heard", "value", "told", "each"] "_law_right" (defScope s_law_right) f cdv A outer s H E) (fun c d _ H => E c d H) := tk_of (takes_of rfl rfl rfl rfl)
  have pw : PassesOwn (model P w) (cxOf (L2.CX P w) P w K mg base ["pool", "lap", "plain", "sounder", "heard", "value", "told", "each"] "_law_right" (defScope s_law_right) f cdv A outer s H E).A (cxOf (L2.CX P w) P w K mg base ["pool", "lap", "plain", "sounder", "heard", "value", "told", "each"] "_law_right" (defScope s_law_right) f cdv A outer s H E).env (cxOf (L2.CX P w) P w K mg base ["pool", "lap", "plain", "sounder", "heard", "value", "told", "each"] "_law_right" (defScope s_law_right) f cdv A outer s H E).xe := passes_of rfl
  have u64 := hr.units
  have u65 := room65 hr
  have nd := sc_law_right.nd
  exact (ds_cons (ds_for pw rfl (di_r1 T.n_range (da_cons de_int da_nil)) (dg_name nd) ne_name (ds_cons (ds_set nd (de_if (dt_cmp r_lt (de_var (i := 1)) de_int) (cc c_law_sounder hr tk (da_cons (de_var (i := 0)) da_nil)) (de_tupN (n := 4) (da_cons (de_bin r_add de_int (cc c_law_draw hr tk (da_cons (de_var (i := 0)) (da_cons de_int da_nil)))) (da_cons (de_bin r_add de_int (cc c_law_draw hr tk (da_cons (de_var (i := 0)) (da_cons de_int da_nil)))) (da_cons (cc c_law_draw hr tk (da_cons (de_var (i := 0)) (da_cons de_int da_nil))) (da_cons de_int da_nil)))) (lenCons (lenCons (lenCons (lenCons lenNil)))))))
    (ds_cons (ds_set nd (cc c_law_heard hr tk (da_cons (de_var (i := 0)) (da_cons (de_var (i := 3)) da_nil))))
    (ds_cons (ds_if (PW.pt (dw_or (dt_cmp r_notB (cc c_is_heard_pair hr tk (da_cons (de_var (i := 3)) (da_cons (de_var (i := 4)) da_nil))) de_bl) (dw_or1 (dt_not (dt_truth (cc c_law_same hr tk (da_cons (de_lstN (n := 2) (da_cons (cc c_rest_count hr tk (da_cons (de_var (i := 4)) da_nil)) (da_cons (cc0 (ks := ["heard_pair"]) [0] c_rest_count hr tk (dk_cons (de_var (i := 4)) dk_nil) (fun _ _ _ _ _ _ us ws h1 h2 => match us, ws, h1, h2 with | [], [_], _, _ => rfl)) da_nil)) (lenCons (lenCons lenNil))) (da_cons (de_bin r_mul (de_lstN (n := 1) (da_cons (de_bin r_add (de_blt c_len (by rfl) T.n_len (by decide +kernel) (da_cons (de_ix r_ix (de_var (i := 4)) de_int) da_nil)) (de_blt c_len (by rfl) T.n_len (by decide +kernel) (da_cons (de_ix r_ix (de_var (i := 4)) de_int) da_nil))) da_nil) (lenCons lenNil)) de_int) da_nil)))))))) (ds_cons (ds_ret de_bl) ds_nil) ds_nil)
    (ds_cons (ds_for pw rfl (di_seq (cc c_law_near hr tk (da_cons (de_var (i := 0)) (da_cons (de_var (i := 3)) (da_cons (de_var (i := 4)) da_nil))))) (dg_name nd) ne_name (ds_cons (ds_set nd (de_if (dt_cmp (r_eq u64) (cc c_law_draw hr tk (da_cons (de_var (i := 0)) (da_cons de_int da_nil))) de_int) (cc0 (ks := ["value", "sounder"]) [1, 0] c_is_heard_pair hr tk (dk_cons (de_var (i := 5)) (dk_cons (de_var (i := 3)) dk_nil)) (fun _ _ _ _ _ _ us ws h1 h2 => match us, ws, h1, h2 with | [], [_, _], _, _ => rfl)) (cc c_is_heard_pair hr tk (da_cons (de_var (i := 3)) (da_cons (de_var (i := 5)) da_nil)))))
    (ds_cons (ds_if (dt_not (dt_truth (cc c_law_tells hr tk (da_cons (de_var (i := 6)) (da_cons (cc c_law_is_heard hr tk (da_cons (de_var (i := 3)) (da_cons (de_var (i := 5)) da_nil))) da_nil))))) (ds_cons (ds_ret de_bl) ds_nil) ds_nil) ds_nil))) ds_nil)))))
    (ds_cons (ds_set nd (de_tupN (n := 4) (da_cons de_int (da_cons de_int (da_cons de_int (da_cons de_int da_nil)))) (lenCons (lenCons (lenCons (lenCons lenNil))))))
    (ds_cons (ds_if (dt_not (dt_truth (cc c_law_same hr tk (da_cons (de_lc [("each", 7)] rfl nd (di_seq (de_lstN (n := 5) (da_cons (de_tupN (n := 2) (da_cons (de_tupN (n := 2) (da_cons de_int (da_cons de_int da_nil)) (lenCons (lenCons lenNil))) (da_cons (de_tupN (n := 0) da_nil lenNil) da_nil)) (lenCons (lenCons lenNil))) (da_cons (de_tupN (n := 2) (da_cons (de_tupN (n := 2) (da_cons de_int (da_cons de_int da_nil)) (lenCons (lenCons lenNil))) (da_cons (de_tupN (n := 2) (da_cons de_int (da_cons de_int da_nil)) (lenCons (lenCons lenNil))) da_nil)) (lenCons (lenCons lenNil))) (da_cons (de_tupN (n := 2) (da_cons (de_tupN (n := 2) (da_cons de_int (da_cons de_int da_nil)) (lenCons (lenCons lenNil))) (da_cons (de_tupN (n := 0) da_nil lenNil) da_nil)) (lenCons (lenCons lenNil))) (da_cons (de_tupN (n := 2) (da_cons (de_tupN (n := 0) da_nil lenNil) (da_cons (de_tupN (n := 1) (da_cons de_int da_nil) (lenCons lenNil)) da_nil)) (lenCons (lenCons lenNil))) (da_cons (de_tupN (n := 2) (da_cons (de_tupN (n := 0) da_nil lenNil) (da_cons (de_tupN (n := 2) (da_cons de_int (da_cons de_int da_nil)) (lenCons (lenCons lenNil))) da_nil)) (lenCons (lenCons lenNil))) da_nil))))) (lenCons (lenCons (lenCons (lenCons (lenCons lenNil))))))) (fun _ _ _ _ _ => (dg_name nd)) (fun _ _ _ _ _ => dts_nil) (fun _ _ _ _ _ => (cc c_is_heard_pair hr tk0 (da_cons (de_var (i := 2)) (da_cons (de_var (i := 7)) da_nil)))) (ok := by show blkC ["pool", "lap", "plain", "sounder", "heard", "value", "told", "each"] (defScope s_law_right) _ [("each", 7)] = true; decide +kernel)) (da_cons (de_lstN (n := 5) (da_cons de_bl (da_cons de_bl (da_cons de_bl (da_cons de_bl (da_cons de_bl da_nil))))) (lenCons (lenCons (lenCons (lenCons (lenCons lenNil)))))) da_nil))))) (ds_cons (ds_ret de_bl) ds_nil) ds_nil)
    (ds_cons (ds_ret (de_and (de_cmp (r_eq u64) (cc c_rest_count hr tk (da_cons (de_tupN (n := 2) (da_cons (de_tupN (n := 2) (da_cons de_int (da_cons de_int da_nil)) (lenCons (lenCons lenNil))) (da_cons (de_tupN (n := 3) (da_cons de_int (da_cons de_int (da_cons de_int da_nil))) (lenCons (lenCons (lenCons lenNil)))) da_nil)) (lenCons (lenCons lenNil))) da_nil)) de_int) (de_one (de_cmp (r_eq u64) (cc c_rest_count hr tk (da_cons (de_tupN (n := 2) (da_cons (de_tupN (n := 0) da_nil lenNil) (da_cons (de_tupN (n := 0) da_nil lenNil) da_nil)) (lenCons (lenCons lenNil))) da_nil)) de_int)))) ds_nil))))
theorem sc_law_pool : FnScope ["script", "lap", "cell", "own", "stirred"] ["script", "lap"] (defScope s_law_pool) := ⟨rfl, rfl, rfl, by decide +kernel, rfl, by decide +kernel, by decide +kernel⟩
theorem ok_law_pool {f : Addr} {fd : FuncData} (d : Def K mg "_law_pool" s_law_pool ["script", "lap"] f fd) (T : Nm K mg t_LEAST_PERIOD t_MOST_PERIOD t_MOST_RANGE t_MOST_RESTS t_SOUNDER_SIZE) : Cal P w K mg base "_law_pool" s_law_pool ["script", "lap"] 1 2 m_law_pool := by
  show Cal P w K mg base "_law_pool" s_law_pool ["script", "lap"] (0 + 1) 2 (fnD 5 b_law_pool)
  refine cal_of d sc_law_pool rfl rfl fun cdv A outer s H E hr => ?_
  have tk : Tk (cxOf (L2.CX P w) P w K mg base ["script", "lap", "cell", "own", "stirred"] "_law_pool" (defScope s_law_pool) f cdv A outer s H E) (fun c d _ H => E c d H) := tk_of (takes_of rfl rfl rfl rfl)
  have pw : PassesOwn (model P w) (cxOf (L2.CX P w) P w K mg base ["script", "lap", "cell", "own", "stirred"] "_law_pool" (defScope s_law_pool) f cdv A outer s H E).A (cxOf (L2.CX P w) P w K mg base ["script", "lap", "cell", "own", "stirred"] "_law_pool" (defScope s_law_pool) f cdv A outer s H E).env (cxOf (L2.CX P w) P w K mg base ["script", "lap", "cell", "own", "stirred"] "_law_pool" (defScope s_law_pool) f cdv A outer s H E).xe := passes_of rfl
  have u64 := hr.units
  have u65 := room65 hr
  have nd := sc_law_pool.nd
  exact (ds_cons (ds_par rfl nd (by decide) (da_cons (de_if (dt_cmp r_lt (de_var (i := 1)) (de_blt c_len (by rfl) T.n_len (by decide +kernel) (da_cons (de_var (i := 0)) da_nil))) (de_bty c_int (by rfl) T.n_int (by decide +kernel) (da_cons (de_ix r_ix (de_var (i := 0)) (de_var (i := 1))) da_nil)) (de_bin r_add (de_bin r_mul de_int (de_var (i := 1))) de_int)) (da_cons (de_bin r_add de_int (de_bin r_mul de_int (de_var (i := 1)))) da_nil)))
    (ds_cons (ds_for pw rfl (di_seq (de_sl (de_var (i := 0)) do_none (do_some de_int))) (dg_name nd) ne_name (ds_cons (ds_set nd (de_bin r_mod (de_bty c_int (by rfl) T.n_int (by decide +kernel) (da_cons (de_bin r_add (de_bin r_add (de_bin r_mul (de_var (i := 4)) de_int) (de_bin r_mod (de_bty c_int (by rfl) T.n_int (by decide +kernel) (da_cons (de_var (i := 2)) da_nil)) de_int)) de_int) da_nil)) de_int)) ds_nil))
    (ds_cons (ds_ret (de_cellN (n := 3) (da_cons (de_bin r_mod (de_bty c_int (by rfl) T.n_int (by decide +kernel) (da_cons (de_bin r_add (de_var (i := 4)) (de_bin r_mul (de_var (i := 3)) de_int)) da_nil)) de_int) (da_cons (de_if (PW.pt (dw_or (dt_cmp r_lt (de_var (i := 3)) de_int) (dw_or1 (dt_cmp r_ge (de_var (i := 3)) (de_bin r_pow de_int de_int))))) (de_blt c_abs (by rfl) T.n_abs (by decide +kernel) (da_cons (de_var (i := 3)) da_nil)) de_int) (da_cons de_int da_nil))) (lenCons (lenCons (lenCons lenNil))))) ds_nil)))
theorem sc_law : FnScope ["script", "lap"] ["script"] (defScope s_law) := ⟨rfl, rfl, rfl, by decide +kernel, rfl, by decide +kernel, by decide +kernel⟩
theorem ok_law {f : Addr} {fd : FuncData} (d : Def K mg "law" s_law ["script"] f fd) (T : Nm K mg t_LEAST_PERIOD t_MOST_PERIOD t_MOST_RANGE t_MOST_RESTS t_SOUNDER_SIZE) (c_law_right : Cal P w K mg base "_law_right" s_law_right ["pool"] 13 1 m_law_right) (c_law_pool : Cal P w K mg base "_law_pool" s_law_pool ["script", "lap"] 1 2 m_law_pool) : FnOk P w K mg base (L2.CX P w) 14 f fd ["script"] (spD K mg 1 m_law) := by
  show FnOk P w K mg base (L2.CX P w) (13 + 1) f fd ["script"] (spD K mg 1 (fnD (List.length (["script", "lap"] : List Str)) b_law))
  refine fn_ok b_law d.1 sc_law rfl fun cdv A outer s H E hr => ?_
  have tk : Tk (cxOf (L2.CX P w) P w K mg base ["script", "lap"] "law" (defScope s_law) f cdv A outer s H E) (fun c d _ H => E c d H) := tk_of (takes_of rfl rfl rfl rfl)
  have pw : PassesOwn (model P w) (cxOf (L2.CX P w) P w K mg base ["script", "lap"] "law" (defScope s_law) f cdv A outer s H E).A (cxOf (L2.CX P w) P w K mg base ["script", "lap"] "law" (defScope s_law) f cdv A outer s H E).env (cxOf (L2.CX P w) P w K mg base ["script", "lap"] "law" (defScope s_law) f cdv A outer s H E).xe := passes_of rfl
  have u64 := hr.units
  have u65 := room65 hr
  have nd := sc_law.nd
  exact (ds_cons (ds_for pw rfl (di_r1 T.n_range (da_cons (de_blt (c_max2 rfl) (by rfl) T.n_max (by decide +kernel) (da_cons de_int (da_cons (de_blt (c_min2 rfl) (by rfl) T.n_min (by decide +kernel) (da_cons (de_blt c_len (by rfl) T.n_len (by decide +kernel) (da_cons (de_var (i := 0)) da_nil)) (da_cons de_int da_nil))) da_nil))) da_nil)) (dg_name nd) ne_name (ds_cons (ds_if (dt_not (dt_truth (cc c_law_right hr tk (da_cons (cc c_law_pool hr tk (da_cons (de_var (i := 0)) (da_cons (de_var (i := 1)) da_nil))) da_nil)))) (ds_cons (ds_ret de_bl) ds_nil) ds_nil) ds_nil))
    (ds_cons (ds_ret de_bl) ds_nil))
end
end Law

namespace Law
open PySem L2 DL
theorem all_mk {P : Program} {w : World} {K : PySem.W.Frag} {h : Heap} {mg : Str → Option Value} {fa : Addr} (X : K.In h) (G : h.Ns mainGlobals mg) (hfa : mg "law" = some (.ref fa)) {f0 f1 f2 f3 f4 f5 f6 f7 f8 f9 f10 f11 f12 f13 f14 f15 f16 f17 f18 f19 f20 f21 f22 f23 f24 f25 f26 f27 f28 f29 f30 f31 f32 : Addr}
    {od0 an0 od1 an1 od2 an2 od3 an3 od4 an4 od5 an5 od6 an6 od7 an7 od8 an8 od9 an9 od10 an10 od11 an11 od12 an12 od13 an13 od14 an14 od15 an15 od16 an16 od17 an17 od18 an18 od19 an19 od20 an20 od21 an21 od22 an22 od23 an23 od24 an24 od25 an25 od26 an26 od27 an27 od28 an28 od29 an29 od30 an30 od31 an31 od32 an32 : Option Addr} {sl0 sl1 sl2 sl3 sl4 sl5 sl6 sl7 sl8 sl9 sl10 sl11 sl12 sl13 sl14 sl15 sl16 sl17 sl18 sl19 sl20 sl21 sl22 sl23 sl24 sl25 sl26 sl27 sl28 sl29 sl30 sl31 sl32 : Array (Option Value)} {oc0 kV0 dc0 pm0 cd0 ct0 oc1 kV1 dc1 pm1 cd1 ct1 oc2 kV2 dc2 pm2 cd2 ct2 oc3 kV3 dc3 pm3 cd3 ct3 oc4 kV4 dc4 pm4 cd4 ct4 oc5 kV5 dc5 pm5 cd5 ct5 oc6 kV6 dc6 pm6 cd6 ct6 oc7 kV7 dc7 pm7 cd7 ct7 oc8 kV8 dc8 pm8 cd8 ct8 oc9 kV9 dc9 pm9 cd9 ct9 oc10 kV10 dc10 pm10 cd10 ct10 oc11 kV11 dc11 pm11 cd11 ct11 oc12 kV12 dc12 pm12 cd12 ct12 oc13 kV13 dc13 pm13 cd13 ct13 oc14 kV14 dc14 pm14 cd14 ct14 oc15 kV15 dc15 pm15 cd15 ct15 oc16 kV16 dc16 pm16 cd16 ct16 oc17 kV17 dc17 pm17 cd17 ct17 oc18 kV18 dc18 pm18 cd18 ct18 oc19 kV19 dc19 pm19 cd19 ct19 oc20 kV20 dc20 pm20 cd20 ct20 oc21 kV21 dc21 pm21 cd21 ct21 oc22 kV22 dc22 pm22 cd22 ct22 oc23 kV23 dc23 pm23 cd23 ct23 oc24 kV24 dc24 pm24 cd24 ct24 oc25 kV25 dc25 pm25 cd25 ct25 oc26 kV26 dc26 pm26 cd26 ct26 oc27 kV27 dc27 pm27 cd27 ct27 oc28 kV28 dc28 pm28 cd28 ct28 oc29 kV29 dc29 pm29 cd29 ct29 oc30 kV30 dc30 pm30 cd30 ct30 oc31 kV31 dc31 pm31 cd31 ct31 oc32 kV32 dc32 pm32 cd32 ct32 : Value} {t_LEAST_PERIOD t_MOST_PERIOD t_MOST_RANGE t_MOST_RESTS t_SOUNDER_SIZE : Tok}
    (a0 : PySem.W.nsIn K mainGlobals "_law_draw" = some (some (.ref f0))) (l0 : K.lookup f0 = some ⟨oc0, od0, .func (PySem.W.fnOf "_law_draw" "_law_draw" (defArgs s_law_draw) (defBody s_law_draw) (defScope s_law_draw) .none kV0 dc0 pm0 an0 cd0 ct0), sl0⟩) (c0 : PySem.W.codeIn K cd0 "_law_draw" = true) (k0 : PySem.W.keepIn K (.ref f0) = true)
    (a1 : PySem.W.nsIn K mainGlobals "_law_hears" = some (some (.ref f1))) (l1 : K.lookup f1 = some ⟨oc1, od1, .func (PySem.W.fnOf "_law_hears" "_law_hears" (defArgs s_law_hears) (defBody s_law_hears) (defScope s_law_hears) .none kV1 dc1 pm1 an1 cd1 ct1), sl1⟩) (c1 : PySem.W.codeIn K cd1 "_law_hears" = true) (k1 : PySem.W.keepIn K (.ref f1) = true)
    (a2 : PySem.W.nsIn K mainGlobals "_law_marks" = some (some (.ref f2))) (l2 : K.lookup f2 = some ⟨oc2, od2, .func (PySem.W.fnOf "_law_marks" "_law_marks" (defArgs s_law_marks) (defBody s_law_marks) (defScope s_law_marks) .none kV2 dc2 pm2 an2 cd2 ct2), sl2⟩) (c2 : PySem.W.codeIn K cd2 "_law_marks" = true) (k2 : PySem.W.keepIn K (.ref f2) = true)
    (a3 : PySem.W.nsIn K mainGlobals "_law_made" = some (some (.ref f3))) (l3 : K.lookup f3 = some ⟨oc3, od3, .func (PySem.W.fnOf "_law_made" "_law_made" (defArgs s_law_made) (defBody s_law_made) (defScope s_law_made) .none kV3 dc3 pm3 an3 cd3 ct3), sl3⟩) (c3 : PySem.W.codeIn K cd3 "_law_made" = true) (k3 : PySem.W.keepIn K (.ref f3) = true)
    (a4 : PySem.W.nsIn K mainGlobals "_law_heard" = some (some (.ref f4))) (l4 : K.lookup f4 = some ⟨oc4, od4, .func (PySem.W.fnOf "_law_heard" "_law_heard" (defArgs s_law_heard) (defBody s_law_heard) (defScope s_law_heard) .none kV4 dc4 pm4 an4 cd4 ct4), sl4⟩) (c4 : PySem.W.codeIn K cd4 "_law_heard" = true) (k4 : PySem.W.keepIn K (.ref f4) = true)
    (a5 : PySem.W.nsIn K mainGlobals "_law_put" = some (some (.ref f5))) (l5 : K.lookup f5 = some ⟨oc5, od5, .func (PySem.W.fnOf "_law_put" "_law_put" (defArgs s_law_put) (defBody s_law_put) (defScope s_law_put) .none kV5 dc5 pm5 an5 cd5 ct5), sl5⟩) (c5 : PySem.W.codeIn K cd5 "_law_put" = true) (k5 : PySem.W.keepIn K (.ref f5) = true)
    (a6 : PySem.W.nsIn K mainGlobals "_law_near" = some (some (.ref f6))) (l6 : K.lookup f6 = some ⟨oc6, od6, .func (PySem.W.fnOf "_law_near" "_law_near" (defArgs s_law_near) (defBody s_law_near) (defScope s_law_near) .none kV6 dc6 pm6 an6 cd6 ct6), sl6⟩) (c6 : PySem.W.codeIn K cd6 "_law_near" = true) (k6 : PySem.W.keepIn K (.ref f6) = true)
    (a7 : PySem.W.nsIn K mainGlobals "_law_same" = some (some (.ref f7))) (l7 : K.lookup f7 = some ⟨oc7, od7, .func (PySem.W.fnOf "_law_same" "_law_same" (defArgs s_law_same) (defBody s_law_same) (defScope s_law_same) .none kV7 dc7 pm7 an7 cd7 ct7), sl7⟩) (c7 : PySem.W.codeIn K cd7 "_law_same" = true) (k7 : PySem.W.keepIn K (.ref f7) = true)
    (a8 : PySem.W.nsIn K mainGlobals "_law_pick" = some (some (.ref f8))) (l8 : K.lookup f8 = some ⟨oc8, od8, .func (PySem.W.fnOf "_law_pick" "_law_pick" (defArgs s_law_pick) (defBody s_law_pick) (defScope s_law_pick) .none kV8 dc8 pm8 an8 cd8 ct8), sl8⟩) (c8 : PySem.W.codeIn K cd8 "_law_pick" = true) (k8 : PySem.W.keepIn K (.ref f8) = true)
    (a9 : PySem.W.nsIn K mainGlobals "_law_sounder" = some (some (.ref f9))) (l9 : K.lookup f9 = some ⟨oc9, od9, .func (PySem.W.fnOf "_law_sounder" "_law_sounder" (defArgs s_law_sounder) (defBody s_law_sounder) (defScope s_law_sounder) .none kV9 dc9 pm9 an9 cd9 ct9), sl9⟩) (c9 : PySem.W.codeIn K cd9 "_law_sounder" = true) (k9 : PySem.W.keepIn K (.ref f9) = true)
    (a10 : PySem.W.nsIn K mainGlobals "is_tuple_up_to" = some (some (.ref f10))) (l10 : K.lookup f10 = some ⟨oc10, od10, .func (PySem.W.fnOf "is_tuple_up_to" "is_tuple_up_to" (defArgs s_is_tuple_up_to) (defBody s_is_tuple_up_to) (defScope s_is_tuple_up_to) .none kV10 dc10 pm10 an10 cd10 ct10), sl10⟩) (c10 : PySem.W.codeIn K cd10 "is_tuple_up_to" = true) (k10 : PySem.W.keepIn K (.ref f10) = true)
    (a11 : PySem.W.nsIn K mainGlobals "is_tuple_of" = some (some (.ref f11))) (l11 : K.lookup f11 = some ⟨oc11, od11, .func (PySem.W.fnOf "is_tuple_of" "is_tuple_of" (defArgs s_is_tuple_of) (defBody s_is_tuple_of) (defScope s_is_tuple_of) .none kV11 dc11 pm11 an11 cd11 ct11), sl11⟩) (c11 : PySem.W.codeIn K cd11 "is_tuple_of" = true) (k11 : PySem.W.keepIn K (.ref f11) = true)
    (a12 : PySem.W.nsIn K mainGlobals "is_pair" = some (some (.ref f12))) (l12 : K.lookup f12 = some ⟨oc12, od12, .func (PySem.W.fnOf "is_pair" "is_pair" (defArgs s_is_pair) (defBody s_is_pair) (defScope s_is_pair) .none kV12 dc12 pm12 an12 cd12 ct12), sl12⟩) (c12 : PySem.W.codeIn K cd12 "is_pair" = true) (k12 : PySem.W.keepIn K (.ref f12) = true)
    (a13 : PySem.W.nsIn K mainGlobals "are_rising" = some (some (.ref f13))) (l13 : K.lookup f13 = some ⟨oc13, od13, .func (PySem.W.fnOf "are_rising" "are_rising" (defArgs s_are_rising) (defBody s_are_rising) (defScope s_are_rising) .none kV13 dc13 pm13 an13 cd13 ct13), sl13⟩) (c13 : PySem.W.codeIn K cd13 "are_rising" = true) (k13 : PySem.W.keepIn K (.ref f13) = true)
    (a14 : PySem.W.nsIn K mainGlobals "is_whole" = some (some (.ref f14))) (l14 : K.lookup f14 = some ⟨oc14, od14, .func (PySem.W.fnOf "is_whole" "is_whole" (defArgs s_is_whole) (defBody s_is_whole) (defScope s_is_whole) .none kV14 dc14 pm14 an14 cd14 ct14), sl14⟩) (c14 : PySem.W.codeIn K cd14 "is_whole" = true) (k14 : PySem.W.keepIn K (.ref f14) = true)
    (a15 : PySem.W.nsIn K mainGlobals "is_between" = some (some (.ref f15))) (l15 : K.lookup f15 = some ⟨oc15, od15, .func (PySem.W.fnOf "is_between" "is_between" (defArgs s_is_between) (defBody s_is_between) (defScope s_is_between) .none kV15 dc15 pm15 an15 cd15 ct15), sl15⟩) (c15 : PySem.W.codeIn K cd15 "is_between" = true) (k15 : PySem.W.keepIn K (.ref f15) = true)
    (a16 : PySem.W.nsIn K mainGlobals "blind_of" = some (some (.ref f16))) (l16 : K.lookup f16 = some ⟨oc16, od16, .func (PySem.W.fnOf "blind_of" "blind_of" (defArgs s_blind_of) (defBody s_blind_of) (defScope s_blind_of) .none kV16 dc16 pm16 an16 cd16 ct16), sl16⟩) (c16 : PySem.W.codeIn K cd16 "blind_of" = true) (k16 : PySem.W.keepIn K (.ref f16) = true)
    (a17 : PySem.W.nsIn K mainGlobals "period_by" = some (some (.ref f17))) (l17 : K.lookup f17 = some ⟨oc17, od17, .func (PySem.W.fnOf "period_by" "period_by" (defArgs s_period_by) (defBody s_period_by) (defScope s_period_by) .none kV17 dc17 pm17 an17 cd17 ct17), sl17⟩) (c17 : PySem.W.codeIn K cd17 "period_by" = true) (k17 : PySem.W.keepIn K (.ref f17) = true)
    (a18 : PySem.W.nsIn K mainGlobals "is_rest_of" = some (some (.ref f18))) (l18 : K.lookup f18 = some ⟨oc18, od18, .func (PySem.W.fnOf "is_rest_of" "is_rest_of" (defArgs s_is_rest_of) (defBody s_is_rest_of) (defScope s_is_rest_of) .none kV18 dc18 pm18 an18 cd18 ct18), sl18⟩) (c18 : PySem.W.codeIn K cd18 "is_rest_of" = true) (k18 : PySem.W.keepIn K (.ref f18) = true)
    (a19 : PySem.W.nsIn K mainGlobals "are_rests_of" = some (some (.ref f19))) (l19 : K.lookup f19 = some ⟨oc19, od19, .func (PySem.W.fnOf "are_rests_of" "are_rests_of" (defArgs s_are_rests_of) (defBody s_are_rests_of) (defScope s_are_rests_of) .none kV19 dc19 pm19 an19 cd19 ct19), sl19⟩) (c19 : PySem.W.codeIn K cd19 "are_rests_of" = true) (k19 : PySem.W.keepIn K (.ref f19) = true)
    (a20 : PySem.W.nsIn K mainGlobals "is_heard_pair_of" = some (some (.ref f20))) (l20 : K.lookup f20 = some ⟨oc20, od20, .func (PySem.W.fnOf "is_heard_pair_of" "is_heard_pair_of" (defArgs s_is_heard_pair_of) (defBody s_is_heard_pair_of) (defScope s_is_heard_pair_of) .none kV20 dc20 pm20 an20 cd20 ct20), sl20⟩) (c20 : PySem.W.codeIn K cd20 "is_heard_pair_of" = true) (k20 : PySem.W.keepIn K (.ref f20) = true)
    (a21 : PySem.W.nsIn K mainGlobals "rest_count" = some (some (.ref f21))) (l21 : K.lookup f21 = some ⟨oc21, od21, .func (PySem.W.fnOf "rest_count" "rest_count" (defArgs s_rest_count) (defBody s_rest_count) (defScope s_rest_count) .none kV21 dc21 pm21 an21 cd21 ct21), sl21⟩) (c21 : PySem.W.codeIn K cd21 "rest_count" = true) (k21 : PySem.W.keepIn K (.ref f21) = true)
    (a22 : PySem.W.nsIn K mainGlobals "is_up_to" = some (some (.ref f22))) (l22 : K.lookup f22 = some ⟨oc22, od22, .func (PySem.W.fnOf "is_up_to" "is_up_to" (defArgs s_is_up_to) (defBody s_is_up_to) (defScope s_is_up_to) .none kV22 dc22 pm22 an22 cd22 ct22), sl22⟩) (c22 : PySem.W.codeIn K cd22 "is_up_to" = true) (k22 : PySem.W.keepIn K (.ref f22) = true)
    (a23 : PySem.W.nsIn K mainGlobals "is_period" = some (some (.ref f23))) (l23 : K.lookup f23 = some ⟨oc23, od23, .func (PySem.W.fnOf "is_period" "is_period" (defArgs s_is_period) (defBody s_is_period) (defScope s_is_period) .none kV23 dc23 pm23 an23 cd23 ct23), sl23⟩) (c23 : PySem.W.codeIn K cd23 "is_period" = true) (k23 : PySem.W.keepIn K (.ref f23) = true)
    (a24 : PySem.W.nsIn K mainGlobals "is_sounder_of" = some (some (.ref f24))) (l24 : K.lookup f24 = some ⟨oc24, od24, .func (PySem.W.fnOf "is_sounder_of" "is_sounder_of" (defArgs s_is_sounder_of) (defBody s_is_sounder_of) (defScope s_is_sounder_of) .none kV24 dc24 pm24 an24 cd24 ct24), sl24⟩) (c24 : PySem.W.codeIn K cd24 "is_sounder_of" = true) (k24 : PySem.W.keepIn K (.ref f24) = true)
    (a25 : PySem.W.nsIn K mainGlobals "check_sounder" = some (some (.ref f25))) (l25 : K.lookup f25 = some ⟨oc25, od25, .func (PySem.W.fnOf "check_sounder" "check_sounder" (defArgs s_check_sounder) (defBody s_check_sounder) (defScope s_check_sounder) .none kV25 dc25 pm25 an25 cd25 ct25), sl25⟩) (c25 : PySem.W.codeIn K cd25 "check_sounder" = true) (k25 : PySem.W.keepIn K (.ref f25) = true)
    (a26 : PySem.W.nsIn K mainGlobals "is_heard_pair" = some (some (.ref f26))) (l26 : K.lookup f26 = some ⟨oc26, od26, .func (PySem.W.fnOf "is_heard_pair" "is_heard_pair" (defArgs s_is_heard_pair) (defBody s_is_heard_pair) (defScope s_is_heard_pair) .none kV26 dc26 pm26 an26 cd26 ct26), sl26⟩) (c26 : PySem.W.codeIn K cd26 "is_heard_pair" = true) (k26 : PySem.W.keepIn K (.ref f26) = true)
    (a27 : PySem.W.nsIn K mainGlobals "_law_tells" = some (some (.ref f27))) (l27 : K.lookup f27 = some ⟨oc27, od27, .func (PySem.W.fnOf "_law_tells" "_law_tells" (defArgs s_law_tells) (defBody s_law_tells) (defScope s_law_tells) .none kV27 dc27 pm27 an27 cd27 ct27), sl27⟩) (c27 : PySem.W.codeIn K cd27 "_law_tells" = true) (k27 : PySem.W.keepIn K (.ref f27) = true)
    (a28 : PySem.W.nsIn K mainGlobals "_law_is_whole" = some (some (.ref f28))) (l28 : K.lookup f28 = some ⟨oc28, od28, .func (PySem.W.fnOf "_law_is_whole" "_law_is_whole" (defArgs s_law_is_whole) (defBody s_law_is_whole) (defScope s_law_is_whole) .none kV28 dc28 pm28 an28 cd28 ct28), sl28⟩) (c28 : PySem.W.codeIn K cd28 "_law_is_whole" = true) (k28 : PySem.W.keepIn K (.ref f28) = true)
    (a29 : PySem.W.nsIn K mainGlobals "_law_is_heard" = some (some (.ref f29))) (l29 : K.lookup f29 = some ⟨oc29, od29, .func (PySem.W.fnOf "_law_is_heard" "_law_is_heard" (defArgs s_law_is_heard) (defBody s_law_is_heard) (defScope s_law_is_heard) .none kV29 dc29 pm29 an29 cd29 ct29), sl29⟩) (c29 : PySem.W.codeIn K cd29 "_law_is_heard" = true) (k29 : PySem.W.keepIn K (.ref f29) = true)
    (a30 : PySem.W.nsIn K mainGlobals "_law_right" = some (some (.ref f30))) (l30 : K.lookup f30 = some ⟨oc30, od30, .func (PySem.W.fnOf "_law_right" "_law_right" (defArgs s_law_right) (defBody s_law_right) (defScope s_law_right) .none kV30 dc30 pm30 an30 cd30 ct30), sl30⟩) (c30 : PySem.W.codeIn K cd30 "_law_right" = true) (k30 : PySem.W.keepIn K (.ref f30) = true)
    (a31 : PySem.W.nsIn K mainGlobals "_law_pool" = some (some (.ref f31))) (l31 : K.lookup f31 = some ⟨oc31, od31, .func (PySem.W.fnOf "_law_pool" "_law_pool" (defArgs s_law_pool) (defBody s_law_pool) (defScope s_law_pool) .none kV31 dc31 pm31 an31 cd31 ct31), sl31⟩) (c31 : PySem.W.codeIn K cd31 "_law_pool" = true) (k31 : PySem.W.keepIn K (.ref f31) = true)
    (a32 : PySem.W.nsIn K mainGlobals "law" = some (some (.ref f32))) (l32 : K.lookup f32 = some ⟨oc32, od32, .func (PySem.W.fnOf "law" "law" (defArgs s_law) (defBody s_law) (defScope s_law) .none kV32 dc32 pm32 an32 cd32 ct32), sl32⟩) (c32 : PySem.W.codeIn K cd32 "law" = true) (k32 : PySem.W.keepIn K (.ref f32) = true)
    (n_abs : PySem.W.nsIn K mainGlobals "abs" = some none)
    (n_all : PySem.W.nsIn K mainGlobals "all" = some none)
    (n_bool : PySem.W.nsIn K mainGlobals "bool" = some none)
    (n_divmod : PySem.W.nsIn K mainGlobals "divmod" = some none)
    (n_int : PySem.W.nsIn K mainGlobals "int" = some none)
    (n_isinstance : PySem.W.nsIn K mainGlobals "isinstance" = some none)
    (n_len : PySem.W.nsIn K mainGlobals "len" = some none)
    (n_list : PySem.W.nsIn K mainGlobals "list" = some none)
    (n_max : PySem.W.nsIn K mainGlobals "max" = some none)
    (n_min : PySem.W.nsIn K mainGlobals "min" = some none)
    (n_range : PySem.W.nsIn K mainGlobals "range" = some none)
    (n_set : PySem.W.nsIn K mainGlobals "set" = some none)
    (n_sorted : PySem.W.nsIn K mainGlobals "sorted" = some none)
    (n_str : PySem.W.nsIn K mainGlobals "str" = some none)
    (n_tuple : PySem.W.nsIn K mainGlobals "tuple" = some none)
    (n_zip : PySem.W.nsIn K mainGlobals "zip" = some none)
    (k_LEAST_PERIOD : PySem.W.nsIn K mainGlobals "LEAST_PERIOD" = some (some (.int 2 t_LEAST_PERIOD)))
    (k_MOST_PERIOD : PySem.W.nsIn K mainGlobals "MOST_PERIOD" = some (some (.int 40 t_MOST_PERIOD)))
    (k_MOST_RANGE : PySem.W.nsIn K mainGlobals "MOST_RANGE" = some (some (.int 1600 t_MOST_RANGE)))
    (k_MOST_RESTS : PySem.W.nsIn K mainGlobals "MOST_RESTS" = some (some (.int 12 t_MOST_RESTS)))
    (k_SOUNDER_SIZE : PySem.W.nsIn K mainGlobals "SOUNDER_SIZE" = some (some (.int 4 t_SOUNDER_SIZE)))
    {c_SIDES_0_t : Tok} {c_SIDES_1_t : Tok} {c_SIDES : Addr} {c_SIDES_dd : Option Addr} {c_SIDES_n : Nat} {c_SIDES_sl : Array (Option Value)}
    (k_SIDES : PySem.W.nsIn K mainGlobals "SIDES" = some (some (.ref c_SIDES))) (l_c_SIDES : K.lookup c_SIDES = some ⟨.type "tuple", c_SIDES_dd, .seq [.int 0 c_SIDES_0_t, .int 1 c_SIDES_1_t].toArray c_SIDES_n, c_SIDES_sl⟩)
    {c_WIDEST_0_t : Tok} {c_WIDEST_1_t : Tok} {c_WIDEST_2_t : Tok} {c_WIDEST_3_t : Tok} {c_WIDEST : Addr} {c_WIDEST_dd : Option Addr} {c_WIDEST_n : Nat} {c_WIDEST_sl : Array (Option Value)}
    (k_WIDEST : PySem.W.nsIn K mainGlobals "WIDEST" = some (some (.ref c_WIDEST))) (l_c_WIDEST : K.lookup c_WIDEST = some ⟨.type "tuple", c_WIDEST_dd, .seq [.int 40 c_WIDEST_0_t, .int 40 c_WIDEST_1_t, .int 0 c_WIDEST_2_t, .int 1600 c_WIDEST_3_t].toArray c_WIDEST_n, c_WIDEST_sl⟩)
    (plain : ∀ ns : List Int, ns.length ≤ 63 → ∃ C, m_law [.scr (ns.map D.int)] [] = .ok (.bl true, C)) :
    ∃ fd : FuncData, (∀ (s : Shared) (v : Value), BindsTo s fd ⟨[v], []⟩ [("script", v)]) ∧ ∀ base : Heap, K.In base → base.Ns mainGlobals mg → FnOk P w K mg base (L2.CX P w) 14 fa fd ["script"] (spLaw K) := by
  have e := hfa.symm.trans (PySem.W.mg_of X G a32)
  cases e
  have T : Nm K mg t_LEAST_PERIOD t_MOST_PERIOD t_MOST_RANGE t_MOST_RESTS t_SOUNDER_SIZE := ⟨PySem.W.mg_none_of X G n_abs, PySem.W.mg_none_of X G n_all, PySem.W.mg_none_of X G n_bool, PySem.W.mg_none_of X G n_divmod, PySem.W.mg_none_of X G n_int, PySem.W.mg_none_of X G n_isinstance, PySem.W.mg_none_of X G n_len, PySem.W.mg_none_of X G n_list, PySem.W.mg_none_of X G n_max, PySem.W.mg_none_of X G n_min, PySem.W.mg_none_of X G n_range, PySem.W.mg_none_of X G n_set, PySem.W.mg_none_of X G n_sorted, PySem.W.mg_none_of X G n_str, PySem.W.mg_none_of X G n_tuple, PySem.W.mg_none_of X G n_zip, PySem.W.mg_of X G k_LEAST_PERIOD, PySem.W.mg_of X G k_MOST_PERIOD, PySem.W.mg_of X G k_MOST_RANGE, PySem.W.mg_of X G k_MOST_RESTS, PySem.W.mg_of X G k_SOUNDER_SIZE, ⟨_, PySem.W.mg_of X G k_SIDES, (.tup l_c_SIDES (by simp) (.cons (.int _ _) (.cons (.int _ _) .nil)))⟩, ⟨_, PySem.W.mg_of X G k_WIDEST, (.tup l_c_WIDEST (by simp) (.cons (.int _ _) (.cons (.int _ _) (.cons (.int _ _) (.cons (.int _ _) .nil)))))⟩⟩
  have F0 := fun_mk (st := s_law_draw) l0 c0 k0
  have d0 : Def K mg "_law_draw" s_law_draw ["pool", "many"] f0 _ := ⟨F0, PySem.W.mg_of X G a0, F0.binds (ps := ["pool", "many"]) fun _ _ _ _ _ _ us hl => match us, hl with | [_, _], _ => rfl⟩
  have F1 := fun_mk (st := s_law_hears) l1 c1 k1
  have d1 : Def K mg "_law_hears" s_law_hears ["sounder", "side", "delay"] f1 _ := ⟨F1, PySem.W.mg_of X G a1, F1.binds (ps := ["sounder", "side", "delay"]) fun _ _ _ _ _ _ us hl => match us, hl with | [_, _, _], _ => rfl⟩
  have F2 := fun_mk (st := s_law_marks) l2 c2 k2
  have d2 : Def K mg "_law_marks" s_law_marks ["sounder", "delay"] f2 _ := ⟨F2, PySem.W.mg_of X G a2, F2.binds (ps := ["sounder", "delay"]) fun _ _ _ _ _ _ us hl => match us, hl with | [_, _], _ => rfl⟩
  have F3 := fun_mk (st := s_law_made) l3 c3 k3
  have d3 : Def K mg "_law_made" s_law_made ["sounder", "delays"] f3 _ := ⟨F3, PySem.W.mg_of X G a3, F3.binds (ps := ["sounder", "delays"]) fun _ _ _ _ _ _ us hl => match us, hl with | [_, _], _ => rfl⟩
  have F4 := fun_mk (st := s_law_heard) l4 c4 k4
  have d4 : Def K mg "_law_heard" s_law_heard ["pool", "sounder"] f4 _ := ⟨F4, PySem.W.mg_of X G a4, F4.binds (ps := ["pool", "sounder"]) fun _ _ _ _ _ _ us hl => match us, hl with | [_, _], _ => rfl⟩
  have F5 := fun_mk (st := s_law_put) l5 c5 k5
  have d5 : Def K mg "_law_put" s_law_put ["some", "at", "each"] f5 _ := ⟨F5, PySem.W.mg_of X G a5, F5.binds (ps := ["some", "at", "each"]) fun _ _ _ _ _ _ us hl => match us, hl with | [_, _, _], _ => rfl⟩
  have F6 := fun_mk (st := s_law_near) l6 c6 k6
  have d6 : Def K mg "_law_near" s_law_near ["pool", "sounder", "heard"] f6 _ := ⟨F6, PySem.W.mg_of X G a6, F6.binds (ps := ["pool", "sounder", "heard"]) fun _ _ _ _ _ _ us hl => match us, hl with | [_, _, _], _ => rfl⟩
  have F7 := fun_mk (st := s_law_same) l7 c7 k7
  have d7 : Def K mg "_law_same" s_law_same ["one", "other"] f7 _ := ⟨F7, PySem.W.mg_of X G a7, F7.binds (ps := ["one", "other"]) fun _ _ _ _ _ _ us hl => match us, hl with | [_, _], _ => rfl⟩
  have F8 := fun_mk (st := s_law_pick) l8 c8 k8
  have d8 : Def K mg "_law_pick" s_law_pick ["pool", "some"] f8 _ := ⟨F8, PySem.W.mg_of X G a8, F8.binds (ps := ["pool", "some"]) fun _ _ _ _ _ _ us hl => match us, hl with | [_, _], _ => rfl⟩
  have F9 := fun_mk (st := s_law_sounder) l9 c9 k9
  have d9 : Def K mg "_law_sounder" s_law_sounder ["pool"] f9 _ := ⟨F9, PySem.W.mg_of X G a9, F9.binds (ps := ["pool"]) fun _ _ _ _ _ _ us hl => match us, hl with | [_], _ => rfl⟩
  have F10 := fun_mk (st := s_is_tuple_up_to) l10 c10 k10
  have d10 : Def K mg "is_tuple_up_to" s_is_tuple_up_to ["value", "low", "high"] f10 _ := ⟨F10, PySem.W.mg_of X G a10, F10.binds (ps := ["value", "low", "high"]) fun _ _ _ _ _ _ us hl => match us, hl with | [_, _, _], _ => rfl⟩
  have F11 := fun_mk (st := s_is_tuple_of) l11 c11 k11
  have d11 : Def K mg "is_tuple_of" s_is_tuple_of ["value", "many"] f11 _ := ⟨F11, PySem.W.mg_of X G a11, F11.binds (ps := ["value", "many"]) fun _ _ _ _ _ _ us hl => match us, hl with | [_, _], _ => rfl⟩
  have F12 := fun_mk (st := s_is_pair) l12 c12 k12
  have d12 : Def K mg "is_pair" s_is_pair ["value"] f12 _ := ⟨F12, PySem.W.mg_of X G a12, F12.binds (ps := ["value"]) fun _ _ _ _ _ _ us hl => match us, hl with | [_], _ => rfl⟩
  have F13 := fun_mk (st := s_are_rising) l13 c13 k13
  have d13 : Def K mg "are_rising" s_are_rising ["values"] f13 _ := ⟨F13, PySem.W.mg_of X G a13, F13.binds (ps := ["values"]) fun _ _ _ _ _ _ us hl => match us, hl with | [_], _ => rfl⟩
  have F14 := fun_mk (st := s_is_whole) l14 c14 k14
  have d14 : Def K mg "is_whole" s_is_whole ["value"] f14 _ := ⟨F14, PySem.W.mg_of X G a14, F14.binds (ps := ["value"]) fun _ _ _ _ _ _ us hl => match us, hl with | [_], _ => rfl⟩
  have F15 := fun_mk (st := s_is_between) l15 c15 k15
  have d15 : Def K mg "is_between" s_is_between ["value", "low", "high"] f15 _ := ⟨F15, PySem.W.mg_of X G a15, F15.binds (ps := ["value", "low", "high"]) fun _ _ _ _ _ _ us hl => match us, hl with | [_, _, _], _ => rfl⟩
  have F16 := fun_mk (st := s_blind_of) l16 c16 k16
  have d16 : Def K mg "blind_of" s_blind_of ["sounder"] f16 _ := ⟨F16, PySem.W.mg_of X G a16, F16.binds (ps := ["sounder"]) fun _ _ _ _ _ _ us hl => match us, hl with | [_], _ => rfl⟩
  have F17 := fun_mk (st := s_period_by) l17 c17 k17
  have d17 : Def K mg "period_by" s_period_by ["sounder", "side"] f17 _ := ⟨F17, PySem.W.mg_of X G a17, F17.binds (ps := ["sounder", "side"]) fun _ _ _ _ _ _ us hl => match us, hl with | [_, _], _ => rfl⟩
  have F18 := fun_mk (st := s_is_rest_of) l18 c18 k18
  have d18 : Def K mg "is_rest_of" s_is_rest_of ["sounder", "side", "value"] f18 _ := ⟨F18, PySem.W.mg_of X G a18, F18.binds (ps := ["sounder", "side", "value"]) fun _ _ _ _ _ _ us hl => match us, hl with | [_, _, _], _ => rfl⟩
  have F19 := fun_mk (st := s_are_rests_of) l19 c19 k19
  have d19 : Def K mg "are_rests_of" s_are_rests_of ["sounder", "side", "value"] f19 _ := ⟨F19, PySem.W.mg_of X G a19, F19.binds (ps := ["sounder", "side", "value"]) fun _ _ _ _ _ _ us hl => match us, hl with | [_, _, _], _ => rfl⟩
  have F20 := fun_mk (st := s_is_heard_pair_of) l20 c20 k20
  have d20 : Def K mg "is_heard_pair_of" s_is_heard_pair_of ["sounder", "value"] f20 _ := ⟨F20, PySem.W.mg_of X G a20, F20.binds (ps := ["sounder", "value"]) fun _ _ _ _ _ _ us hl => match us, hl with | [_, _], _ => rfl⟩
  have F21 := fun_mk (st := s_rest_count) l21 c21 k21
  have d21 : Def K mg "rest_count" s_rest_count ["heard_pair"] f21 _ := ⟨F21, PySem.W.mg_of X G a21, F21.binds (ps := ["heard_pair"]) fun _ _ _ _ _ _ us hl => match us, hl with | [_], _ => rfl⟩
  have F22 := fun_mk (st := s_is_up_to) l22 c22 k22
  have d22 : Def K mg "is_up_to" s_is_up_to ["value", "most"] f22 _ := ⟨F22, PySem.W.mg_of X G a22, F22.binds (ps := ["value", "most"]) fun _ _ _ _ _ _ us hl => match us, hl with | [_, _], _ => rfl⟩
  have F23 := fun_mk (st := s_is_period) l23 c23 k23
  have d23 : Def K mg "is_period" s_is_period ["value"] f23 _ := ⟨F23, PySem.W.mg_of X G a23, F23.binds (ps := ["value"]) fun _ _ _ _ _ _ us hl => match us, hl with | [_], _ => rfl⟩
  have F24 := fun_mk (st := s_is_sounder_of) l24 c24 k24
  have d24 : Def K mg "is_sounder_of" s_is_sounder_of ["value"] f24 _ := ⟨F24, PySem.W.mg_of X G a24, F24.binds (ps := ["value"]) fun _ _ _ _ _ _ us hl => match us, hl with | [_], _ => rfl⟩
  have F25 := fun_mk (st := s_check_sounder) l25 c25 k25
  have d25 : Def K mg "check_sounder" s_check_sounder ["sounder"] f25 _ := ⟨F25, PySem.W.mg_of X G a25, F25.binds (ps := ["sounder"]) fun _ _ _ _ _ _ us hl => match us, hl with | [_], _ => rfl⟩
  have F26 := fun_mk (st := s_is_heard_pair) l26 c26 k26
  have d26 : Def K mg "is_heard_pair" s_is_heard_pair ["sounder", "value"] f26 _ := ⟨F26, PySem.W.mg_of X G a26, F26.binds (ps := ["sounder", "value"]) fun _ _ _ _ _ _ us hl => match us, hl with | [_, _], _ => rfl⟩
  have F27 := fun_mk (st := s_law_tells) l27 c27 k27
  have d27 : Def K mg "_law_tells" s_law_tells ["told", "due"] f27 _ := ⟨F27, PySem.W.mg_of X G a27, F27.binds (ps := ["told", "due"]) fun _ _ _ _ _ _ us hl => match us, hl with | [_, _], _ => rfl⟩
  have F28 := fun_mk (st := s_law_is_whole) l28 c28 k28
  have d28 : Def K mg "_law_is_whole" s_law_is_whole ["told"] f28 _ := ⟨F28, PySem.W.mg_of X G a28, F28.binds (ps := ["told"]) fun _ _ _ _ _ _ us hl => match us, hl with | [_], _ => rfl⟩
  have F29 := fun_mk (st := s_law_is_heard) l29 c29 k29
  have d29 : Def K mg "_law_is_heard" s_law_is_heard ["sounder", "told"] f29 _ := ⟨F29, PySem.W.mg_of X G a29, F29.binds (ps := ["sounder", "told"]) fun _ _ _ _ _ _ us hl => match us, hl with | [_, _], _ => rfl⟩
  have F30 := fun_mk (st := s_law_right) l30 c30 k30
  have d30 : Def K mg "_law_right" s_law_right ["pool"] f30 _ := ⟨F30, PySem.W.mg_of X G a30, F30.binds (ps := ["pool"]) fun _ _ _ _ _ _ us hl => match us, hl with | [_], _ => rfl⟩
  have F31 := fun_mk (st := s_law_pool) l31 c31 k31
  have d31 : Def K mg "_law_pool" s_law_pool ["script", "lap"] f31 _ := ⟨F31, PySem.W.mg_of X G a31, F31.binds (ps := ["script", "lap"]) fun _ _ _ _ _ _ us hl => match us, hl with | [_, _], _ => rfl⟩
  have F32 := fun_mk (st := s_law) l32 c32 k32
  have d32 : Def K mg "law" s_law ["script"] fa _ := ⟨F32, PySem.W.mg_of X G a32, F32.binds (ps := ["script"]) fun _ _ _ _ _ _ us hl => match us, hl with | [_], _ => rfl⟩
  refine ⟨PySem.W.fnOf "law" "law" (defArgs s_law) (defBody s_law) (defScope s_law) .none kV32 dc32 pm32 an32 cd32 ct32, fun s v => .of_eq rfl, fun base _ _ => ?_⟩
  have C0 := ok_law_draw (P := P) (w := w) (base := base) d0 T 
  have C1 := ok_law_hears (P := P) (w := w) (base := base) d1 T 
  have C2 := ok_law_marks (P := P) (w := w) (base := base) d2 T C1
  have C3 := ok_law_made (P := P) (w := w) (base := base) d3 T C2
  have C4 := ok_law_heard (P := P) (w := w) (base := base) d4 T C0 C3
  have C5 := ok_law_put (P := P) (w := w) (base := base) d5 T 
  have C6 := ok_law_near (P := P) (w := w) (base := base) d6 T C0 C5
  have C7 := ok_law_same (P := P) (w := w) (base := base) d7 T  12
  have C8 := ok_law_pick (P := P) (w := w) (base := base) d8 T C0
  have C9 := ok_law_sounder (P := P) (w := w) (base := base) d9 T C0 C8
  have C10 := ok_is_tuple_up_to (P := P) (w := w) (base := base) d10 T 
  have C11 := ok_is_tuple_of (P := P) (w := w) (base := base) d11 T C10
  have C12 := ok_is_pair (P := P) (w := w) (base := base) d12 T C11
  have C13 := ok_are_rising (P := P) (w := w) (base := base) d13 T 
  have C14 := ok_is_whole (P := P) (w := w) (base := base) d14 T 
  have C15 := ok_is_between (P := P) (w := w) (base := base) d15 T C14
  have C16 := ok_blind_of (P := P) (w := w) (base := base) d16 T 
  have C17 := ok_period_by (P := P) (w := w) (base := base) d17 T 
  have C18 := ok_is_rest_of (P := P) (w := w) (base := base) d18 T C15 C17 C16
  have C19 := ok_are_rests_of (P := P) (w := w) (base := base) d19 T C18 C13
  have C20 := ok_is_heard_pair_of (P := P) (w := w) (base := base) d20 T C12 C19
  have C21 := ok_rest_count (P := P) (w := w) (base := base) d21 T C20
  have C22 := ok_is_up_to (P := P) (w := w) (base := base) d22 T C15
  have C23 := ok_is_period (P := P) (w := w) (base := base) d23 T C15
  have C24 := ok_is_sounder_of (P := P) (w := w) (base := base) d24 T C11 C23 C22 C15
  have C25 := ok_check_sounder (P := P) (w := w) (base := base) d25 T C24
  have C26 := ok_is_heard_pair (P := P) (w := w) (base := base) d26 T C25 C20
  have C27 := ok_law_tells (P := P) (w := w) (base := base) d27 T 
  have C28 := ok_law_is_whole (P := P) (w := w) (base := base) d28 T 
  have C29 := ok_law_is_heard (P := P) (w := w) (base := base) d29 T C28
  have C30 := ok_law_right (P := P) (w := w) (base := base) d30 T C9 C0 C4 C26 C7 C21 C6 C27 C29
  have C31 := ok_law_pool (P := P) (w := w) (base := base) d31 T 
  exact law_fn (ok_law (P := P) (w := w) (base := base) d32 T C30 C31) plain
end Law
open PySem PySem.W PyProof.Rows in
set_option maxRecDepth 100000 in
set_option maxHeartbeats 0 in
theorem PySem.Challenge.cw_echofolds_k06_whole_heard_of_anything_holds : PySem.Challenge.rw_echofolds_k06_whole_heard_of_anything.Holds := by
  w_on; o_law; k_head; (case hw => w_witness2)
  k_fill
  refine DL.walkD (l := PySem.Challenge.rw_echofolds_k06_whole_heard_of_anything) (k := 14) rfl rfl ⟨rfl, by decide, by decide⟩ (fun w h Y => PySem.W.kIn_of Y) ?F
  case F =>
    intro w mg fa h KX G hmg
    refine' Law.all_mk KX G hmg ?a0 ?l0 ?c0 ?k0 ?a1 ?l1 ?c1 ?k1 ?a2 ?l2 ?c2 ?k2 ?a3 ?l3 ?c3 ?k3 ?a4 ?l4 ?c4 ?k4 ?a5 ?l5 ?c5 ?k5 ?a6 ?l6 ?c6 ?k6 ?a7 ?l7 ?c7 ?k7 ?a8 ?l8 ?c8 ?k8 ?a9 ?l9 ?c9 ?k9 ?a10 ?l10 ?c10 ?k10 ?a11 ?l11 ?c11 ?k11 ?a12 ?l12 ?c12 ?k12 ?a13 ?l13 ?c13 ?k13 ?a14 ?l14 ?c14 ?k14 ?a15 ?l15 ?c15 ?k15 ?a16 ?l16 ?c16 ?k16 ?a17 ?l17 ?c17 ?k17 ?a18 ?l18 ?c18 ?k18 ?a19 ?l19 ?c19 ?k19 ?a20 ?l20 ?c20 ?k20 ?a21 ?l21 ?c21 ?k21 ?a22 ?l22 ?c22 ?k22 ?a23 ?l23 ?c23 ?k23 ?a24 ?l24 ?c24 ?k24 ?a25 ?l25 ?c25 ?k25 ?a26 ?l26 ?c26 ?k26 ?a27 ?l27 ?c27 ?k27 ?a28 ?l28 ?c28 ?k28 ?a29 ?l29 ?c29 ?k29 ?a30 ?l30 ?c30 ?k30 ?a31 ?l31 ?c31 ?k31 ?a32 ?l32 ?c32 ?k32 ?n_abs ?n_all ?n_bool ?n_divmod ?n_int ?n_isinstance ?n_len ?n_list ?n_max ?n_min ?n_range ?n_set ?n_sorted ?n_str ?n_tuple ?n_zip ?k_LEAST_PERIOD ?k_MOST_PERIOD ?k_MOST_RANGE ?k_MOST_RESTS ?k_SOUNDER_SIZE ?k_SIDES ?l_c_SIDES ?k_WIDEST ?l_c_WIDEST Law.plain
    (case a0 => k_is)
    (case l0 => k_is)
    (case c0 => k_is)
    (case k0 => k_is)
    (case a1 => k_is)
    (case l1 => k_is)
    (case c1 => k_is)
    (case k1 => k_is)
    (case a2 => k_is)
    (case l2 => k_is)
    (case c2 => k_is)
    (case k2 => k_is)
    (case a3 => k_is)
    (case l3 => k_is)
    (case c3 => k_is)
    (case k3 => k_is)
    (case a4 => k_is)
    (case l4 => k_is)
    (case c4 => k_is)
    (case k4 => k_is)
    (case a5 => k_is)
    (case l5 => k_is)
    (case c5 => k_is)
    (case k5 => k_is)
    (case a6 => k_is)
    (case l6 => k_is)
    (case c6 => k_is)
    (case k6 => k_is)
    (case a7 => k_is)
    (case l7 => k_is)
    (case c7 => k_is)
    (case k7 => k_is)
    (case a8 => k_is)
    (case l8 => k_is)
    (case c8 => k_is)
    (case k8 => k_is)
    (case a9 => k_is)
    (case l9 => k_is)
    (case c9 => k_is)
    (case k9 => k_is)
    (case a10 => k_is)
    (case l10 => k_is)
    (case c10 => k_is)
    (case k10 => k_is)
    (case a11 => k_is)
    (case l11 => k_is)
    (case c11 => k_is)
    (case k11 => k_is)
    (case a12 => k_is)
    (case l12 => k_is)
    (case c12 => k_is)
    (case k12 => k_is)
    (case a13 => k_is)
    (case l13 => k_is)
    (case c13 => k_is)
    (case k13 => k_is)
    (case a14 => k_is)
    (case l14 => k_is)
    (case c14 => k_is)
    (case k14 => k_is)
    (case a15 => k_is)
    (case l15 => k_is)
    (case c15 => k_is)
    (case k15 => k_is)
    (case a16 => k_is)
    (case l16 => k_is)
    (case c16 => k_is)
    (case k16 => k_is)
    (case a17 => k_is)
    (case l17 => k_is)
    (case c17 => k_is)
    (case k17 => k_is)
    (case a18 => k_is)
    (case l18 => k_is)
    (case c18 => k_is)
    (case k18 => k_is)
    (case a19 => k_is)
    (case l19 => k_is)
    (case c19 => k_is)
    (case k19 => k_is)
    (case a20 => k_is)
    (case l20 => k_is)
    (case c20 => k_is)
    (case k20 => k_is)
    (case a21 => k_is)
    (case l21 => k_is)
    (case c21 => k_is)
    (case k21 => k_is)
    (case a22 => k_is)
    (case l22 => k_is)
    (case c22 => k_is)
    (case k22 => k_is)
    (case a23 => k_is)
    (case l23 => k_is)
    (case c23 => k_is)
    (case k23 => k_is)
    (case a24 => k_is)
    (case l24 => k_is)
    (case c24 => k_is)
    (case k24 => k_is)
    (case a25 => k_is)
    (case l25 => k_is)
    (case c25 => k_is)
    (case k25 => k_is)
    (case a26 => k_is)
    (case l26 => k_is)
    (case c26 => k_is)
    (case k26 => k_is)
    (case a27 => k_is)
    (case l27 => k_is)
    (case c27 => k_is)
    (case k27 => k_is)
    (case a28 => k_is)
    (case l28 => k_is)
    (case c28 => k_is)
    (case k28 => k_is)
    (case a29 => k_is)
    (case l29 => k_is)
    (case c29 => k_is)
    (case k29 => k_is)
    (case a30 => k_is)
    (case l30 => k_is)
    (case c30 => k_is)
    (case k30 => k_is)
    (case a31 => k_is)
    (case l31 => k_is)
    (case c31 => k_is)
    (case k31 => k_is)
    (case a32 => k_is)
    (case l32 => k_is)
    (case c32 => k_is)
    (case k32 => k_is)
    (case n_abs => k_is)
    (case n_all => k_is)
    (case n_bool => k_is)
    (case n_divmod => k_is)
    (case n_int => k_is)
    (case n_isinstance => k_is)
    (case n_len => k_is)
    (case n_list => k_is)
    (case n_max => k_is)
    (case n_min => k_is)
    (case n_range => k_is)
    (case n_set => k_is)
    (case n_sorted => k_is)
    (case n_str => k_is)
    (case n_tuple => k_is)
    (case n_zip => k_is)
    (case k_LEAST_PERIOD => k_is)
    (case k_MOST_PERIOD => k_is)
    (case k_MOST_RANGE => k_is)
    (case k_MOST_RESTS => k_is)
    (case k_SOUNDER_SIZE => k_is)
    (case k_SIDES => k_is)
    (case l_c_SIDES => k_is)
    (case k_WIDEST => k_is)
    (case l_c_WIDEST => k_is)

