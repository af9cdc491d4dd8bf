import PyProof.Rows.All
import Wide.All
import OpenK.AllK
import Wide.FinOn
import HandS.ForMost
import HandS.Wide
import HandS.TupAny
import HandS.TupMul
import HandS.TupLe
import HandS.Style
import HandS.IsInst
import HandS.Conv
import HandS.SortInts
import HandS.Gcd
import HandS.Zip
import HandS.Text
import HandS.Rev
import HandS.ExcValue
import KE.KDictZip
import HandS.Strs
import HandS.More
import PyProof.Rows.SetFrom
import HandS.Words
import HandS.TupSets
import HandS.SetFor
import HandS.Exc
import KE.GoesEnum
import HandS.RaiseMore
import HandS.Flt
import KE.KTupSum
import PySem.Challenge.RW_looksdrawn_k43_whole_rows_of_bits
set_option Elab.async false
set_option linter.all false
set_option maxRecDepth 100000
/-! Fx1: values with what they own, the abstract state -/
noncomputable section
namespace Fx
open PySem PySem.Spec PyProof.Rows L2

/-- a value of a slot: plain data, or an object that the slot owns -/
inductive MD where
  | dat (d : PyData)
  | lst (xs : List PyData)
  | lls (xss : List (List PyData))
  | bag (c : List Int) (b m : Int)
  | dcK (kvs : List (Key × PyData))
  | dcT (kvs : List (List Key × PyData))
  | scr (ns : List Int)
def MD.own : MD → Bool
  | .dat _ => false
  | .scr _ => false
  | _ => true

inductive Tag where
  | out | slot (i : Nat) | tmp (i : Nat)
  deriving DecidableEq
abbrev Own := Addr → Option Tag

mutual
/-- data that nobody changes -/
inductive Fz (K : PySem.W.Frag) (O : Own) (H : Hp) : PyData → V → Prop
  | non : Fz K O H .none .non
  | bl (b : Bool) : Fz K O H (.bool b) (.bl b)
  | int (i : Int) : Fz K O H (.int i) (.int i)
  | str (x : Str) : Fz K O H (.str x) (.str x)
  | lst {a : Addr} {xs : List V} {ds : List PyData} : H a = some (.lst xs) → O a = none → FzA K O H ds xs → Fz K O H (.list ds) (.ref a)
  | tup {a : Addr} {xs : List V} {ds : List PyData} : Rd H a (.tup xs) → O a = none → FzA K O H ds xs → Fz K O H (.tuple ds) (.ref a)
  | tupK {a : Addr} {xs : List V} {ds : List PyData} : SqT K (fun _ => none) a xs → FzA K O H ds xs → Fz K O H (.tuple ds) (.ref a)
  | dct {a : Addr} {od : Obj} {kvs : List (Key × V)} {ds : List (PyData × PyData)} : H a = some (.frz od (.dK kvs)) → O a = none → FzD K O H ds kvs → Fz K O H (.dict ds) (.ref a)
inductive FzA (K : PySem.W.Frag) (O : Own) (H : Hp) : List PyData → List V → Prop
  | nil : FzA K O H [] []
  | cons {v : V} {vs : List V} {d : PyData} {ds : List PyData} : Fz K O H d v → FzA K O H ds vs → FzA K O H (d :: ds) (v :: vs)
inductive FzD (K : PySem.W.Frag) (O : Own) (H : Hp) : List (PyData × PyData) → List (Key × V) → Prop
  | nil : FzD K O H [] []
  | cons {k : Key} {v : V} {vs : List (Key × V)} {e d : PyData} {ds : List (PyData × PyData)} : Fz K O H e (kV k) → Fz K O H d v → FzD K O H ds vs → FzD K O H ((e, d) :: ds) ((k, v) :: vs)
end

def Kp (O : Own) (H : Hp) (O' : Own) (H' : Hp) : Prop := ∀ b o, H b = some o → O b = none → H' b = some o ∧ O' b = none
theorem Kp.refl (O : Own) (H : Hp) : Kp O H O H := fun _ _ h n => ⟨h, n⟩
theorem Kp.trans {O O' O'' : Own} {H H' H'' : Hp} (a : Kp O H O' H') (b : Kp O' H' O'' H'') : Kp O H O'' H'' := fun c o h n =>
  b c o (a c o h n).1 (a c o h n).2

section
variable {K : PySem.W.Frag} {O O' : Own} {H H' : Hp}
theorem Kp.rd (k : Kp O H O' H') {a : Addr} {u : HO} (r : Rd H a u) (n : O a = none) : Rd H' a u ∧ O' a = none := by
  rcases r with r | ⟨o, r⟩
  · exact ⟨.inl (k _ _ r n).1, (k _ _ r n).2⟩
  · exact ⟨.inr ⟨o, (k _ _ r n).1⟩, (k _ _ r n).2⟩
mutual
theorem Fz.kp (k : Kp O H O' H') : ∀ (d : PyData) (v : V), Fz K O H d v → Fz K O' H' d v
  | .none, _, h => by cases h; exact .non
  | .bool b, _, h => by cases h; exact .bl b
  | .int i, _, h => by cases h; exact .int i
  | .str x, _, h => by cases h; exact .str x
  | .list ds, _, h => by
    cases h with
    | lst hr n ha => exact .lst (k _ _ hr n).1 (k _ _ hr n).2 (FzA.kp k ds _ ha)
  | .tuple ds, _, h => by
    cases h with
    | tup hr n ha => exact .tup (k.rd hr n).1 (k.rd hr n).2 (FzA.kp k ds _ ha)
    | tupK hr ha => exact .tupK hr (FzA.kp k ds _ ha)
  | .dict ds, _, h => by
    cases h with
    | dct hr n ha => exact .dct (k _ _ hr n).1 (k _ _ hr n).2 (FzD.kp k ds _ ha)
theorem FzA.kp (k : Kp O H O' H') : ∀ (ds : List PyData) (vs : List V), FzA K O H ds vs → FzA K O' H' ds vs
  | [], _, h => by cases h; exact .nil
  | d :: ds, _, h => by
    cases h with
    | cons h1 h2 => exact .cons (Fz.kp k d _ h1) (FzA.kp k ds _ h2)
theorem FzD.kp (k : Kp O H O' H') : ∀ (ds : List (PyData × PyData)) (vs : List (Key × V)), FzD K O H ds vs → FzD K O' H' ds vs
  | [], _, h => by cases h; exact .nil
  | (e, d) :: ds, _, h => by
    cases h with
    | cons h1 h2 h3 => exact .cons (Fz.kp k e _ h1) (Fz.kp k d _ h2) (FzD.kp k ds _ h3)
end
theorem FzA.length : ∀ {ds : List PyData} {vs : List V}, FzA K O H ds vs → ds.length = vs.length
  | [], _, h => by cases h; rfl
  | d :: ds, _, h => by
    cases h with
    | cons h1 h2 => simp [FzA.length h2]
theorem FzA.get : ∀ {ds : List PyData} {vs : List V} {i : Nat} {d : PyData}, FzA K O H ds vs → ds[i]? = some d → ∃ v, vs[i]? = some v ∧ Fz K O H d v
  | [], _, i, _, _, e => by simp at e
  | _ :: _, _, 0, _, h, e => by
    cases h with
    | cons h1 h2 =>
      simp at e
      subst e
      exact ⟨_, rfl, h1⟩
  | _ :: ds, _, i + 1, _, h, e => by
    cases h with
    | cons h1 h2 =>
      obtain ⟨v, e1, e2⟩ := FzA.get (i := i) h2 (by simpa using e)
      exact ⟨v, by simpa using e1, e2⟩
theorem FzA.append : ∀ {ds es : List PyData} {vs ws : List V}, FzA K O H ds vs → FzA K O H es ws → FzA K O H (ds ++ es) (vs ++ ws)
  | [], _, _, _, h, g => by cases h; exact g
  | _ :: _, _, _, _, h, g => by
    cases h with
    | cons h1 h2 => exact .cons h1 (FzA.append h2 g)
theorem FzA.take : ∀ {ds : List PyData} {vs : List V} (n : Nat), FzA K O H ds vs → FzA K O H (ds.take n) (vs.take n)
  | _, _, 0, _ => .nil
  | [], _, n + 1, h => by cases h; exact .nil
  | _ :: _, _, n + 1, h => by
    cases h with
    | cons h1 h2 => exact .cons h1 (FzA.take n h2)
theorem FzA.drop : ∀ {ds : List PyData} {vs : List V} (n : Nat), FzA K O H ds vs → FzA K O H (ds.drop n) (vs.drop n)
  | _, _, 0, h => h
  | [], _, n + 1, h => by cases h; exact .nil
  | _ :: _, _, n + 1, h => by
    cases h with
    | cons h1 h2 => exact FzA.drop n h2
theorem FzA.set {d : PyData} {v : V} (r : Fz K O H d v) : ∀ {ds : List PyData} {vs : List V} (i : Nat), FzA K O H ds vs → FzA K O H (ds.set i d) (vs.set i v)
  | [], _, _, h => by cases h; exact .nil
  | _ :: _, _, 0, h => by
    cases h with
    | cons h1 h2 => exact .cons r h2
  | _ :: _, _, i + 1, h => by
    cases h with
    | cons h1 h2 => exact .cons h1 (FzA.set r i h2)
theorem FzA.reverse {ds : List PyData} {vs : List V} (h : FzA K O H ds vs) : FzA K O H ds.reverse vs.reverse := by
  induction ds generalizing vs with
  | nil => cases h; exact .nil
  | cons d ds ih =>
    cases h with
    | cons h1 h2 =>
      rw [List.reverse_cons, List.reverse_cons]
      exact FzA.append (ih h2) (.cons h1 .nil)
theorem FzA.of_get : ∀ {ds : List PyData} {vs : List V}, ds.length = vs.length → (∀ (i : Nat) (d : PyData) (v : V), ds[i]? = some d → vs[i]? = some v → Fz K O H d v) → FzA K O H ds vs
  | [], [], _, _ => .nil
  | [], _ :: _, e, _ => by simp at e
  | _ :: _, [], e, _ => by simp at e
  | d :: ds, v :: vs, e, h => .cons (h 0 d v rfl rfl) (FzA.of_get (by simpa using e) fun i d v e1 e2 => h (i + 1) d v (by simpa using e1) (by simpa using e2))
theorem FzA.ints : ∀ (ns : List Int), FzA K O H (ns.map .int) (ns.map .int)
  | [] => .nil
  | n :: ns => .cons (.int n) (FzA.ints ns)
/-- a frozen list, tuple as the rules read it -/
theorem Fz.sqL {ds : List PyData} {v : V} (h : Fz K O H (.list ds) v) : ∃ a xs, v = .ref a ∧ H a = some (.lst xs) ∧ FzA K O H ds xs ∧ O a = none := by
  cases h with
  | lst hr n ha => exact ⟨_, _, rfl, hr, ha, n⟩
theorem Fz.sqT {ds : List PyData} {v : V} (h : Fz K O H (.tuple ds) v) : ∃ a xs, v = .ref a ∧ SqT K H a xs ∧ FzA K O H ds xs := by
  cases h with
  | tup hr n ha => exact ⟨_, _, rfl, .inl hr, ha⟩
  | tupK hr ha =>
    refine ⟨_, _, rfl, ?_, ha⟩
    rcases hr with hr | hr
    · rcases hr with hr | ⟨o, hr⟩ <;> cases hr
    · exact .inr hr
end

def PDict (K : PySem.W.Frag) (O : Own) (H : Hp) {κ : Type} (kvs : List (κ × PyData)) (ws : List (κ × V)) : Prop := Paired (fun p q => p.1 = q.1 ∧ Fz K O H p.2 q.2) kvs ws

/-- a value as its slot (or temporary) holds it; t: the tag of what it owns -/
def MR (K : PySem.W.Frag) (O : Own) (H : Hp) (t : Tag) : MD → V → Prop
  | .dat d, v => Fz K O H d v
  | .lst xs, v => ∃ a vs, v = .ref a ∧ O a = some t ∧ H a = some (.lst vs) ∧ FzA K O H xs vs
  | .lls xss, v => ∃ a as vss, v = .ref a ∧ O a = some t ∧ a ∉ as ∧ as.Nodup ∧ H a = some (.lst (as.map .ref)) ∧
      Paired (fun b vs => O b = some t ∧ H b = some (.lst vs)) as vss ∧ Paired (fun xs vs => FzA K O H xs vs) xss vss
  | .bag c b m, v => ∃ a e, v = .ref a ∧ a ≠ e ∧ O a = some t ∧ O e = some t ∧ H a = some (.lst [.ref e, .int b, .int m]) ∧ H e = some (.lst (c.map .int))
  | .dcK kvs, v => ∃ a ws, v = .ref a ∧ O a = some t ∧ H a = some (.dK ws) ∧ PDict K O H kvs ws
  | .dcT kvs, v => ∃ a ws, v = .ref a ∧ O a = some t ∧ H a = some (.dT ws) ∧ PDict K O H kvs ws
  | .scr ns, v => ∃ a, v = .ref a ∧ (Rd H a (.lst (ns.map .int)) ∧ O a = none ∨ SqL K (fun _ => none) a (ns.map .int))

/-- a step of the state that touches what has a tag in J alone -/
structure Ev (J : Tag → Prop) (O : Own) (H : Hp) (O' : Own) (H' : Hp) : Prop where
  kp : ∀ b o, H b = some o → (∀ t, O b = some t → ¬ J t) → H' b = some o ∧ O' b = O b
  dom : ∀ b t, O' b = some t → H' b ≠ none
  out : ∀ b, O' b = some .out → O b = some .out
abbrev J0 : Tag → Prop := fun _ => False
section
variable {K : PySem.W.Frag} {J J' : Tag → Prop} {O O' O'' : Own} {H H' H'' : Hp}
theorem Ev.refl (dom : ∀ b t, O b = some t → H b ≠ none) : Ev J O H O H := ⟨fun _ _ h _ => ⟨h, rfl⟩, dom, fun _ h => h⟩
theorem Ev.trans (a : Ev J O H O' H') (b : Ev J O' H' O'' H'') : Ev J O H O'' H'' :=
  ⟨fun c o h n => by
    obtain ⟨h1, e1⟩ := a.kp c o h n
    obtain ⟨h2, e2⟩ := b.kp c o h1 (by rw [e1]; exact n)
    exact ⟨h2, e2.trans e1⟩, b.dom, fun c h => a.out c (b.out c h)⟩
theorem Ev.mono (a : Ev J O H O' H') (h : ∀ t, J t → J' t) : Ev J' O H O' H' :=
  ⟨fun b o e n => a.kp b o e fun t q z => n t q (h t z), a.dom, a.out⟩
theorem Ev.k (a : Ev J O H O' H') : Kp O H O' H' := fun b o h n => by
  obtain ⟨h1, e1⟩ := a.kp b o h fun t q => by rw [n] at q; cases q
  exact ⟨h1, e1.trans n⟩
theorem Ev.ownd (a : Ev J O H O' H') {b : Addr} {o : HO} {t : Tag} (h : H b = some o) (q : O b = some t) (n : ¬ J t) : H' b = some o ∧ O' b = some t := by
  obtain ⟨h1, e1⟩ := a.kp b o h fun t' q' => by rw [q] at q'; cases q'; exact n
  exact ⟨h1, e1.trans q⟩
theorem PDict.kp {κ : Type} (k : Kp O H O' H') {kvs : List (κ × PyData)} {ws : List (κ × V)} (h : PDict K O H kvs ws) : PDict K O' H' kvs ws :=
  Paired.mapP h fun p q z => ⟨z.1, Fz.kp k _ _ z.2⟩
theorem MR.ev (a : Ev J O H O' H') {t : Tag} (n : ¬ J t) : ∀ {m : MD} {v : V}, MR K O H t m v → MR K O' H' t m v
  | .dat d, v, h => Fz.kp a.k _ _ h
  | .lst xs, v, h => by
    obtain ⟨b, vs, e, q, h1, h2⟩ := h
    exact ⟨b, vs, e, (a.ownd h1 q n).2, (a.ownd h1 q n).1, FzA.kp a.k _ _ h2⟩
  | .lls xss, v, h => by
    obtain ⟨b, as, vss, e, q, h0, h1, h2, h3, h4⟩ := h
    exact ⟨b, as, vss, e, (a.ownd h2 q n).2, h0, h1, (a.ownd h2 q n).1, Paired.mapP h3 fun c vs z => ⟨(a.ownd z.2 z.1 n).2, (a.ownd z.2 z.1 n).1⟩, Paired.mapP h4 fun xs vs z => FzA.kp a.k _ _ z⟩
  | .bag c b m, v, h => by
    obtain ⟨x, y, e, ne, q1, q2, h1, h2⟩ := h
    exact ⟨x, y, e, ne, (a.ownd h1 q1 n).2, (a.ownd h2 q2 n).2, (a.ownd h1 q1 n).1, (a.ownd h2 q2 n).1⟩
  | .dcK kvs, v, h => by
    obtain ⟨b, ws, e, q, h1, h2⟩ := h
    exact ⟨b, ws, e, (a.ownd h1 q n).2, (a.ownd h1 q n).1, h2.kp a.k⟩
  | .dcT kvs, v, h => by
    obtain ⟨b, ws, e, q, h1, h2⟩ := h
    exact ⟨b, ws, e, (a.ownd h1 q n).2, (a.ownd h1 q n).1, h2.kp a.k⟩
  | .scr ns, v, h => by
    obtain ⟨b, e, h1 | h1⟩ := h
    · exact ⟨b, e, .inl (a.k.rd h1.1 h1.2)⟩
    · exact ⟨b, e, .inr h1⟩

/-- a new object that nobody owns -/
theorem Ev.new {p : Addr} {o : HO} (dom : ∀ b t, O b = some t → H b ≠ none) (hp : H p = none) : Ev J0 O H O (upd H p o) :=
  ⟨fun b u h _ => ⟨by rw [upd_ne (ne_of_none h hp)]; exact h, rfl⟩, fun b t q => by
    rw [upd_ne (fun z => by subst z; exact dom _ _ q hp)]
    exact dom b t q, fun _ h => h⟩
theorem own_none {p : Addr} (dom : ∀ b t, O b = some t → H b ≠ none) (hp : H p = none) : O p = none := by
  cases q : O p with
  | none => rfl
  | some t => exact absurd hp (dom _ _ q)
/-- O with p owned by t -/
def put (O : Own) (p : Addr) (t : Tag) : Own := fun b => if b = p then some t else O b
theorem put_same {O : Own} {p : Addr} {t : Tag} : put O p t p = some t := by simp [put]
theorem put_ne {O : Own} {p b : Addr} {t : Tag} (h : b ≠ p) : put O p t b = O b := by simp [put, h]
theorem Ev.newOwn {p : Addr} {o : HO} {t : Tag} (ht : t ≠ .out) (dom : ∀ b t, O b = some t → H b ≠ none) (hp : H p = none) : Ev J0 O H (put O p t) (upd H p o) :=
  ⟨fun b u h _ => ⟨by rw [upd_ne (ne_of_none h hp)]; exact h, put_ne (ne_of_none h hp)⟩, fun b t' q => by
    by_cases e : b = p
    · subst e; rw [upd_same]; exact fun z => by cases z
    · rw [put_ne e] at q; rw [upd_ne e]; exact dom b _ q, fun b q => by
    by_cases e : b = p
    · subst e; rw [put_same] at q; exact absurd (Option.some.inj q) ht
    · rwa [put_ne e] at q⟩
/-- what had the tag t has r -/
def retag (O : Own) (t : Tag) (r : Option Tag) : Own := fun b => if O b = some t then r else O b
theorem retag_of {O : Own} {t : Tag} {r : Option Tag} {b : Addr} (h : O b = some t) : retag O t r b = r := by simp [retag, h]
theorem retag_ne {O : Own} {t : Tag} {r : Option Tag} {b : Addr} (h : O b ≠ some t) : retag O t r b = O b := by simp [retag, h]
theorem Ev.retag {t : Tag} {r : Option Tag} (hr : r ≠ some .out) (dom : ∀ b t, O b = some t → H b ≠ none) : Ev (· = t) O H (retag O t r) H :=
  ⟨fun b o h n => ⟨h, retag_ne fun q => n t q rfl⟩, fun b t' q => by
    by_cases e : O b = some t
    · exact dom b _ e
    · rw [retag_ne e] at q; exact dom b _ q, fun b q => by
    by_cases e : O b = some t
    · rw [retag_of e] at q; exact absurd q hr
    · rwa [retag_ne e] at q⟩
/-- an owned object is written -/
theorem Ev.write {p : Addr} {o : HO} {t : Tag} (dom : ∀ b t, O b = some t → H b ≠ none) (hp : O p = some t) : Ev (· = t) O H O (upd H p o) :=
  ⟨fun b u h n => by
    have e : b ≠ p := fun z => by subst z; exact n t hp rfl
    exact ⟨by rw [upd_ne e]; exact h, rfl⟩, fun b t' q => by
    by_cases e : b = p
    · subst e; rw [upd_same]; exact fun z => by cases z
    · rw [upd_ne e]; exact dom b _ q, fun _ h => h⟩
/-- what is owned is moved from the tag t to r -/
theorem MR.move {t r : Tag} (dom : ∀ b t, O b = some t → H b ≠ none) (hr : r ≠ .out) {m : MD} {v : V} (h : MR K O H t m v) : MR K (Fx.retag O t (some r)) H r m v := by
  have k : Kp O H (Fx.retag O t (some r)) H := (Ev.retag (by simpa using hr) dom).k
  cases m with
  | dat d => exact Fz.kp k _ _ h
  | lst xs =>
    obtain ⟨b, vs, e, q, h1, h2⟩ := h
    exact ⟨b, vs, e, retag_of q, h1, FzA.kp k _ _ h2⟩
  | lls xss =>
    obtain ⟨b, as, vss, e, q, h0, h1, h2, h3, h4⟩ := h
    exact ⟨b, as, vss, e, retag_of q, h0, h1, h2, Paired.mapP h3 fun c vs z => ⟨retag_of z.1, z.2⟩, Paired.mapP h4 fun xs vs z => FzA.kp k _ _ z⟩
  | bag c b m =>
    obtain ⟨x, y, e, ne, q1, q2, h1, h2⟩ := h
    exact ⟨x, y, e, ne, retag_of q1, retag_of q2, h1, h2⟩
  | dcK kvs =>
    obtain ⟨b, ws, e, q, h1, h2⟩ := h
    exact ⟨b, ws, e, retag_of q, h1, h2.kp k⟩
  | dcT kvs =>
    obtain ⟨b, ws, e, q, h1, h2⟩ := h
    exact ⟨b, ws, e, retag_of q, h1, h2.kp k⟩
  | scr ns =>
    obtain ⟨b, e, h1 | h1⟩ := h
    · exact ⟨b, e, .inl (k.rd h1.1 h1.2)⟩
    · exact ⟨b, e, .inr h1⟩
/-- as plain data -/
def MD.flat : MD → Option PyData
  | .dat d => some d
  | .lst xs => some (.list xs)
  | .lls xss => some (.list (xss.map .list))
  | _ => none
theorem lls_flat {t : Tag} {as : List Addr} {vss : List (List V)} {xss : List (List PyData)} (dom : ∀ b t, O b = some t → H b ≠ none) (h3 : Paired (fun b vs => O b = some t ∧ H b = some (.lst vs)) as vss)
    (h4 : Paired (fun xs vs => FzA K O H xs vs) xss vss) : FzA K (Fx.retag O t none) H (xss.map .list) (as.map .ref) := by
  have k : Kp O H (Fx.retag O t none) H := (Ev.retag (by simp) dom).k
  induction h3 generalizing xss with
  | nil => cases h4; exact .nil
  | cons r _ ih =>
    cases h4 with
    | cons s s' => exact .cons (.lst r.2 (retag_of r.1) (FzA.kp k _ _ s)) (ih s')
theorem MR.freeze {t : Tag} (dom : ∀ b t, O b = some t → H b ≠ none) {m : MD} {v : V} {d : PyData} (h : MR K O H t m v) (e : m.flat = some d) : Fz K (Fx.retag O t none) H d v := by
  have k : Kp O H (Fx.retag O t none) H := (Ev.retag (by simp) dom).k
  cases m with
  | dat d' =>
    cases e
    exact Fz.kp k _ _ h
  | lst xs =>
    cases e
    obtain ⟨b, vs, e, q, h1, h2⟩ := h
    subst e
    exact .lst h1 (retag_of q) (FzA.kp k _ _ h2)
  | lls xss =>
    cases e
    obtain ⟨b, as, vss, e, q, h0, h1, h2, h3, h4⟩ := h
    subst e
    exact .lst h2 (retag_of q) (lls_flat dom h3 h4)
  | _ => cases e
end
end Fx

end

/-! Fx2: the state of a body: slots and temporaries -/
noncomputable section
namespace Fx
open PySem PySem.Spec PyProof.Rows L2

abbrev Gm := List (Option MD)
/-- a temporary: a value, or the very object that a slot owns -/
inductive TV where
  | md (m : MD)
  | al (i : Nat)
def dv (Γ : Gm) : TV → Option PyData
  | .md (.dat d) => some d
  | .md (.lst xs) => some (.list xs)
  | .al i => match Γ[i]? with
    | some (some (.lst xs)) => some (.list xs)
    | _ => none
  | _ => none

def TR (K : PySem.W.Frag) (O : Own) (H : Hp) (σ : L2.St) (Γ : Gm) (t : Tag) : TV → V → Prop
  | .md m, v => MR K O H t m v
  | .al i, v => σ[i]? = some (some v) ∧ ∃ m, Γ[i]? = some (some m) ∧ m.own = true
def Tm (K : PySem.W.Frag) (O : Own) (H : Hp) (σ : L2.St) (Γ : Gm) : List V → List TV → Prop
  | [], [] => True
  | v :: vs, t :: ts => TR K O H σ Γ (.tmp ts.length) t v ∧ Tm K O H σ Γ vs ts
  | _, _ => False

/-- a def's entry -/
structure Wd where
  H : Hp
  O : Own
  σ : L2.St
structure Cf (K : PySem.W.Frag) (np : Nat) (W : Wd) (O : Own) (σ : L2.St) (H : Hp) (Γ : Gm) (vs : List V) (ts : List TV) : Prop where
  dom : ∀ b t, O b = some t → H b ≠ none
  sl : ∀ (i : Nat) (m : MD), Γ[i]? = some (some m) → ∃ v, σ[i]? = some (some v) ∧ MR K O H (.slot i) m v
  tm : Tm K O H σ Γ vs ts
  keep : ∀ b o, W.H b = some o → (∀ k, W.O b ≠ some (.slot k)) → H b = some o ∧ O b = W.O b
  out : ∀ b, O b = some .out → W.O b = some .out
  wt : ∀ b k, W.O b ≠ some (.tmp k)
  arg : ∀ (i : Nat) (m : MD), i < np → Γ[i]? = some (some m) → m.own = true → σ[i]? = W.σ[i]?
  len : Γ.length = σ.length
def Cfg (K : PySem.W.Frag) (np : Nat) (W : Wd) (σ : L2.St) (H : Hp) (Γ : Gm) (vs : List V) (ts : List TV) : Prop := ∃ O, Cf K np W O σ H Γ vs ts

section
variable {K : PySem.W.Frag} {np : Nat} {W : Wd} {O O' : Own} {σ σ' : L2.St} {H H' : Hp} {Γ Γ' : Gm} {vs : List V} {ts : List TV} {J : Tag → Prop}
theorem Tm.ev (a : Ev J O H O' H') (hJ : ∀ k, J (.tmp k) → ts.length ≤ k) (hΓ : ∀ (i : Nat) (m : MD), Γ[i]? = some (some m) → m.own = true → ∃ m' : MD, Γ'[i]? = some (some m') ∧ m'.own = true) :
    ∀ {vs : List V} {us : List TV}, us.length ≤ ts.length → Tm K O H σ Γ vs us → Tm K O' H' σ Γ' vs us
  | [], [], _, _ => True.intro
  | v :: vs, t :: us, hl, h => by
    refine ⟨?_, Tm.ev a hJ hΓ (by simp at hl; omega) h.2⟩
    have h1 := h.1
    cases t with
    | md m => exact MR.ev a (fun z => by have := hJ _ z; simp at hl; omega) h1
    | al i =>
      obtain ⟨e, m, e1, e2⟩ := h1
      exact ⟨e, hΓ i m e1 e2⟩
  | [], _ :: _, _, h => h.elim
  | _ :: _, [], _, h => h.elim
/-- a step of the objects, the slots as they are -/
theorem Cf.ev (c : Cf K np W O σ H Γ vs ts) (a : Ev J O H O' H') (ho : ¬ J .out) (hs : ∀ (i : Nat) (m : MD), Γ[i]? = some (some m) → m.own = true → ¬ J (.slot i)) (ht : ∀ k, J (.tmp k) → ts.length ≤ k) : Cf K np W O' σ H' Γ vs ts where
  dom := a.dom
  sl := fun i m e => by
    obtain ⟨v, e1, r⟩ := c.sl i m e
    refine ⟨v, e1, ?_⟩
    cases h : m.own with
    | true => exact r.ev a (hs i m e h)
    | false =>
      cases m with
      | dat d => exact Fz.kp a.k _ _ r
      | scr ns =>
        obtain ⟨b, e, h1 | h1⟩ := r
        · exact ⟨b, e, .inl (a.k.rd h1.1 h1.2)⟩
        · exact ⟨b, e, .inr h1⟩
      | _ => cases h
  tm := Tm.ev (ts := ts) a ht (fun i m e h => ⟨m, e, h⟩) (Nat.le_refl _) c.tm
  keep := fun b o h n => by
    obtain ⟨h1, e1⟩ := c.keep b o h n
    obtain ⟨h2, e2⟩ := a.kp b o h1 fun t q z => by
      rw [e1] at q
      cases t with
      | out => exact ho z
      | slot k => exact n k q
      | tmp k => exact c.wt b k q
    exact ⟨h2, e2.trans e1⟩
  out := fun b h => c.out b (a.out b h)
  wt := c.wt
  arg := c.arg
  len := c.len
theorem Cf.ev0 (c : Cf K np W O σ H Γ vs ts) (a : Ev J0 O H O' H') : Cf K np W O' σ H' Γ vs ts := c.ev a (fun z => z) (fun _ _ _ _ z => z) fun _ z => z.elim
/-- one more temporary -/
theorem Cf.push (c : Cf K np W O σ H Γ vs ts) {v : V} {t : TV} (r : TR K O H σ Γ (.tmp ts.length) t v) : Cf K np W O σ H Γ (v :: vs) (t :: ts) :=
  ⟨c.dom, c.sl, ⟨r, c.tm⟩, c.keep, c.out, c.wt, c.arg, c.len⟩
theorem Cf.pop {v : V} {t : TV} (c : Cf K np W O σ H Γ (v :: vs) (t :: ts)) : Cf K np W O σ H Γ vs ts :=
  ⟨c.dom, c.sl, c.tm.2, c.keep, c.out, c.wt, c.arg, c.len⟩
theorem Cf.top {v : V} {t : TV} (c : Cf K np W O σ H Γ (v :: vs) (t :: ts)) : TR K O H σ Γ (.tmp ts.length) t v := c.tm.1
theorem Cf.lens : ∀ {vs : List V} {ts : List TV}, Tm K O H σ Γ vs ts → vs.length = ts.length
  | [], [], _ => rfl
  | _ :: _, _ :: _, h => by simp [Cf.lens h.2]
  | [], _ :: _, h => h.elim
  | _ :: _, [], h => h.elim

/-- a value as it is read -/
def Vw (K : PySem.W.Frag) (O : Own) (H : Hp) : PyData → V → Prop
  | .list ds, v => ∃ a xs, v = .ref a ∧ H a = some (.lst xs) ∧ FzA K O H ds xs
  | d, v => Fz K O H d v
theorem Vw.of {d : PyData} {v : V} (h : Fz K O H d v) : Vw K O H d v := by
  cases d with
  | list ds =>
    obtain ⟨a, xs, e, q, r, _⟩ := h.sqL
    exact ⟨a, xs, e, q, r⟩
  | _ => exact h
theorem Vw.ofLst {t : Tag} {xs : List PyData} {v : V} (h : MR K O H t (.lst xs) v) : Vw K O H (.list xs) v := by
  obtain ⟨a, vs, e, _, h1, h2⟩ := h
  exact ⟨a, vs, e, h1, h2⟩
theorem Cf.view (c : Cf K np W O σ H Γ vs ts) {v : V} {t : TV} {g : Tag} {d : PyData} (r : TR K O H σ Γ g t v) (e : dv Γ t = some d) : Vw K O H d v := by
  cases t with
  | md m =>
    cases m with
    | dat d' => cases e; exact Vw.of r
    | lst xs => cases e; exact Vw.ofLst r
    | _ => cases e
  | al i =>
    obtain ⟨e1, m, e2, _⟩ := r
    obtain ⟨v', e3, r'⟩ := c.sl i m e2
    rw [e1] at e3
    cases e3
    simp only [dv, e2] at e
    cases m with
    | lst xs => cases e; exact Vw.ofLst r'
    | _ => cases e
/-- what an operation makes: data, or a new list -/
inductive Res where
  | val (d : PyData)
  | new (ds : List PyData)
def Res.fin (ow : Bool) : Res → TV
  | .val d => .md (.dat d)
  | .new ds => .md (if ow then .lst ds else .dat (.list ds))
def ResOk (K : PySem.W.Frag) (O : Own) (H : Hp) : Res → V → Hp → Prop
  | .val d, v, H' => Ev J0 O H O H' ∧ Fz K O H' d v
  | .new ds, v, H' => ∃ p ws, v = .ref p ∧ H p = none ∧ H' = upd H p (.lst ws) ∧ FzA K O H ds ws
theorem Cf.res (c : Cf K np W O σ H Γ vs ts) {ow : Bool} {r : Res} {v : V} (h : ResOk K O H r v H') : Cfg K np W σ H' Γ (v :: vs) (r.fin ow :: ts) := by
  cases r with
  | val d => exact ⟨O, (c.ev0 h.1).push h.2⟩
  | new ds =>
    obtain ⟨p, ws, rfl, hp, rfl, hd⟩ := h
    cases ow with
    | false =>
      have a := Ev.new (o := .lst ws) c.dom hp
      exact ⟨O, (c.ev0 a).push (.lst upd_same (own_none c.dom hp) (FzA.kp a.k _ _ hd))⟩
    | true =>
      have a := Ev.newOwn (o := .lst ws) (t := .tmp ts.length) (by simp) c.dom hp
      exact ⟨_, (c.ev0 a).push ⟨p, ws, rfl, put_same, upd_same, FzA.kp a.k _ _ hd⟩⟩
end

/-! ### the judgements -/
abbrev FE := Gm → Option (TV × Gm)
def up (K : PySem.W.Frag) (np : Nat) (f : FE) : TE := fun σ H Q => ∃ W Γ vs ts t Γ', Cfg K np W σ H Γ vs ts ∧ f Γ = some (t, Γ') ∧ ∀ v H', Cfg K np W σ H' Γ' (v :: vs) (t :: ts) → Q v H'
def FX (X : Cx) (np : Nat) (e : Expr) (f : FE) : Prop := PE X e (up X.K np f)
abbrev FT := Gm → Option (Bool × Gm)
def upT (K : PySem.W.Frag) (np : Nat) (f : FT) : TT := fun σ H Q => ∃ W Γ vs ts b Γ', Cfg K np W σ H Γ vs ts ∧ f Γ = some (b, Γ') ∧ ∀ H', Cfg K np W σ H' Γ' vs ts → Q b H'
def FTX (X : Cx) (np : Nat) (e : Expr) (f : FT) : Prop := PT X e (upT X.K np f)
abbrev FA := Gm → Option (List TV × Gm)
/-- the arguments, pushed one on the other -/
def upA (K : PySem.W.Frag) (np : Nat) (f : FA) : TA := fun σ H Q => ∃ W Γ vs ts us Γ', Cfg K np W σ H Γ vs ts ∧ f Γ = some (us, Γ') ∧ ∀ xs H', Cfg K np W σ H' Γ' (xs.reverse ++ vs) (us.reverse ++ ts) → xs.length = us.length → Q xs H'
def FAX (X : Cx) (np : Nat) (es : List Expr) (f : FA) : Prop := PA X es (upA X.K np f)
inductive Out where
  | nx (Γ : Gm) | rt (m : MD) (Γ : Gm) | bk (Γ : Gm) | ct (Γ : Gm)
abbrev FS := Gm → Option Out
def tsd (ds : List PyData) : List TV := ds.map fun d => .md (.dat d)
def EndOk (K : PySem.W.Frag) (np : Nat) (W : Wd) (vs : List V) (ds : List PyData) (D : Ends) : Out → Prop
  | .nx Γ => ∀ σ H, Cfg K np W σ H Γ vs (tsd ds) → D.nx σ H
  | .bk Γ => ∀ σ H, Cfg K np W σ H Γ vs (tsd ds) → D.bk σ H
  | .ct Γ => ∀ σ H, Cfg K np W σ H Γ vs (tsd ds) → D.ct σ H
  | .rt m Γ => ∀ v σ H, Cfg K np W σ H Γ (v :: vs) (.md m :: tsd ds) → D.rt v H
def upS (K : PySem.W.Frag) (np : Nat) (g : FS) : TS := fun D σ H => ∃ W Γ vs ds o, Cfg K np W σ H Γ vs (tsd ds) ∧ g Γ = some o ∧ EndOk K np W vs ds D o
def FSX (X : Cx) (np : Nat) (s : Stmt) (g : FS) : Prop := PS X s (upS X.K np g)
def FSsX (X : Cx) (np : Nat) (ss : List Stmt) (g : FS) : Prop := PSs X ss (upS X.K np g)

theorem PE.weak {X : Cx} {e : Expr} {t t' : TE} (h : PE X e t) (w : ∀ σ H Q, t' σ H Q → t σ H Q) : PE X e t' := ⟨fun pins s σ H Q I q => h.run pins s σ H Q I (w σ H Q q)⟩
theorem PT.weak {X : Cx} {e : Expr} {t t' : TT} (h : PT X e t) (w : ∀ σ H Q, t' σ H Q → t σ H Q) : PT X e t' := ⟨fun pins s σ H Q I q => h.run pins s σ H Q I (w σ H Q q)⟩
theorem PA.weak {X : Cx} {e : List Expr} {t t' : TA} (h : PA X e t) (w : ∀ σ H Q, t' σ H Q → t σ H Q) : PA X e t' := ⟨fun pos pins s σ H Q I q => h.run pos pins s σ H Q I (w σ H Q q)⟩
theorem PS.weak {X : Cx} {e : Stmt} {t t' : TS} (h : PS X e t) (w : ∀ D σ H, t' D σ H → t D σ H) : PS X e t' := ⟨fun pins s σ H D I q => h.run pins s σ H D I (w D σ H q)⟩
theorem PSs.weak {X : Cx} {e : List Stmt} {t t' : TS} (h : PSs X e t) (w : ∀ D σ H, t' D σ H → t D σ H) : PSs X e t' := ⟨fun pins s σ H D I q => h.run pins s σ H D I (w D σ H q)⟩
end Fx

end

/-! Fx3: names, constants, operators, comparisons, tests -/
noncomputable section
namespace Fx
open PySem PySem.Spec PyProof.Rows L2

section
variable {X : Cx} {np : Nat} {e a b : Expr} {pos : Pos} {f fa fb : FE}

def fVar (i : Nat) : FE := fun Γ => match Γ[i]? with
  | some (some m) => some (if m.own then .al i else .md m, Γ)
  | _ => none
theorem fx_var (i : Nat) {x : Str} (hN : X.N[i]? = some x := by rfl) (hv : Vis X.env.scope x := by first | exact Or.inl rfl | exact Or.inr (Or.inl rfl) | exact Or.inr (Or.inr rfl)) (hd : (x == ("__debug__" : Str)) = false := by decide)
    (hcd : (x == ("__classdict__" : Str)) = false := by decide) : FX X np (.Name x pos) (fVar i) := by
  refine PE.weak (pe_var hN hv hd hcd) fun σ H Q h => ?_
  obtain ⟨W, Γ, vs, ts, t, Γ', ⟨O, c⟩, e, q⟩ := h
  unfold fVar at e
  split at e
  · rename_i m hm
    obtain ⟨v, hv, r⟩ := c.sl i m hm
    cases e
    refine ⟨v, hv, q v H ⟨O, c.push ?_⟩⟩
    cases ho : m.own with
    | true => exact ⟨hv, m, hm, ho⟩
    | false =>
      have a := Ev.refl c.dom (J := J0)
      cases m with
      | dat d => exact r
      | scr ns => exact r
      | _ => cases ho
  · cases e

def fC (d : PyData) : FE := fun Γ => some (.md (.dat d), Γ)
theorem fx_c {v : V} {d : PyData} (h : PE X e (tC v)) (r : ∀ O H, Fz X.K O H d v) : FX X np e (fC d) := by
  refine PE.weak h fun σ H Q h => ?_
  obtain ⟨W, Γ, vs, ts, t, Γ', ⟨O, c⟩, e, q⟩ := h
  cases e
  exact q v H ⟨O, c.push (r O H)⟩
theorem fx_int {i j} : FX X np (.Constant (.int i) j pos) (fC (.int i)) := fx_c pe_int fun _ _ => .int _
theorem fx_bl {b j} : FX X np (.Constant (.bool b) j pos) (fC (.bool b)) := fx_c pe_bl fun _ _ => .bl _
theorem fx_non {j} : FX X np (.Constant .none j pos) (fC .none) := fx_c pe_non fun _ _ => .non
theorem fx_str {x j} : FX X np (.Constant (.str x) j pos) (fC (.str x)) := fx_c pe_str fun _ _ => .str _
/-- a constant of the module -/
theorem fx_glob {x : Str} {v : V} {u : Value} {d : PyData} (hg : Gl X x) (hm : X.mg x = some u) (r : RelV v u) (rd : ∀ O H, Fz X.K O H d v) (hd : (x == ("__debug__" : Str)) = false := by decide) : FX X np (.Name x pos) (fC d) := fx_c (pe_glob hg hm r hd) rd

/-! ### two operands -/
def fOp2 (g : PyData → PyData → Option Res) (ow : Bool) (fa fb : FE) : FE := fun Γ =>
  (fa Γ).bind fun p => (fb p.2).bind fun q => (dv q.2 p.1).bind fun d => (dv q.2 q.1).bind fun e => (g d e).map fun r => (r.fin ow, q.2)
def Snd2 (K : PySem.W.Frag) (r : R2) (g : PyData → PyData → Option Res) : Prop :=
  ∀ (O : Own) (H : Hp) (x y : V) (d e : PyData) (s : Res) (Q : VK), (∀ b t, O b = some t → H b ≠ none) → Vw K O H d x → Vw K O H e y → g d e = some s → (∀ v H', ResOk K O H s v H' → Q v H') → r x y H Q
theorem two {r : R2} {g : PyData → PyData → Option Res} {ow : Bool} (hg : Snd2 X.K r g) {σ : L2.St} {H : Hp} {Q : VK} (h : up X.K np (fOp2 g ow fa fb) σ H Q) : tOp r (up X.K np fa) (up X.K np fb) σ H Q := by
  obtain ⟨W, Γ, vs, ts, t, Γ', c, e, q⟩ := h
  unfold fOp2 at e
  obtain ⟨⟨t1, Γ1⟩, e1, e⟩ := Option.bind_eq_some_iff.mp e
  obtain ⟨⟨t2, Γ2⟩, e2, e⟩ := Option.bind_eq_some_iff.mp e
  obtain ⟨d1, e3, e⟩ := Option.bind_eq_some_iff.mp e
  obtain ⟨d2, e4, e⟩ := Option.bind_eq_some_iff.mp e
  obtain ⟨s, e5, e⟩ := Option.map_eq_some_iff.mp e
  cases e
  refine ⟨W, Γ, vs, ts, t1, Γ1, c, e1, fun x H1 c1 => ⟨W, Γ1, x :: vs, t1 :: ts, t2, Γ2, c1, e2, fun y H2 c2 => ?_⟩⟩
  obtain ⟨O, c2⟩ := c2
  exact hg O H2 x y d1 d2 s Q c2.dom (c2.view c2.tm.2.1 e3) (c2.view c2.tm.1 e4) e5 fun v H' ok => q v H' (c2.pop.pop.res ok)
theorem fx_op {op : Operator} {r : R2} {g : PyData → PyData → Option Res} {ow : Bool} (ho : OpR X (binaryOp op) r) (hg : Snd2 X.K r g) (ha : FX X np a fa) (hb : FX X np b fb) : FX X np (.BinOp a op b pos) (fOp2 g ow fa fb) :=
  PE.weak (pe_op ho ha hb) fun _ _ _ h => two hg h
theorem fx_cmp {op : CmpOp} {r : R2} {g : PyData → PyData → Option Res} (ho : OpR X (compareOp op) r) (hg : Snd2 X.K r g) (ha : FX X np a fa) (hb : FX X np b fb) (hm : behindInMarks op b = false) : FX X np (.Compare a [op] [b] pos) (fOp2 g false fa fb) :=
  PE.weak (pe_cmpR ho ha hb hm) fun _ _ _ h => two hg h
/-- a value as a test -/
def fT (f : FE) : FT := fun Γ => (f Γ).bind fun p => match p.1 with
  | .md (.dat (.bool b)) => some (b, p.2)
  | _ => none
theorem asTest {f : FE} {σ : L2.St} {H : Hp} {Q : Bool → Hp → Prop} (h : upT X.K np (fT f) σ H Q) : up X.K np f σ H fun x H' => ∃ k, x = .bl k ∧ Q k H' := by
  obtain ⟨W, Γ, vs, ts, b, Γ', c, e, q⟩ := h
  obtain ⟨⟨t1, Γ1⟩, e1, e⟩ := Option.bind_eq_some_iff.mp e
  refine ⟨W, Γ, vs, ts, t1, Γ1, c, e1, fun v H' c' => ?_⟩
  dsimp only at e
  split at e
  · cases e
    obtain ⟨O, c'⟩ := c'
    have r : Fz X.K O H' (.bool b) v := c'.top
    cases r
    exact ⟨b, rfl, q H' ⟨O, c'.pop⟩⟩
  · cases e
theorem ft_cmp {op : CmpOp} {r : R2} {g : PyData → PyData → Option Res} (ho : OpR X (compareOp op) r) (hg : Snd2 X.K r g) (ha : FX X np a fa) (hb : FX X np b fb) (hm : behindInMarks op b = false) : FTX X np (.Compare a [op] [b] pos) (fT (fOp2 g false fa fb)) := by
  refine PT.weak (pt_cmpR ho ha hb hm) fun σ H Q h => ?_
  exact two (np := np) (ow := false) hg (asTest h)
theorem ft_val (h : FX X np e f) (he : ∀ whole, isTrue e X.env whole = (do let v ← whole; standAt e.pos; holding [v] (truthy v)) := by intro _; rfl) : FTX X np e (fT f) :=
  PT.weak (pt_val h he) fun _ _ _ h => asTest h
/-- a value's truth -/
def truD : PyData → Option Bool
  | .none => some false
  | .bool b => some b
  | .int i => some (i != 0)
  | .str x => if x.length ≤ sizeLine then some ((x.length : Int) != 0) else none
  | .list xs => some (!xs.isEmpty)
  | .tuple xs => some (!xs.isEmpty)
  | _ => none
def fTru (f : FE) : FT := fun Γ => (f Γ).bind fun p => (dv p.2 p.1).bind fun d => (truD d).map fun b => (b, p.2)
theorem FzA.isEmpty {K : PySem.W.Frag} {O : Own} {H : Hp} {ds : List PyData} {vs : List V} (h : FzA K O H ds vs) : (!ds.isEmpty) = !vs.isEmpty := by
  cases h <;> rfl
theorem truV_of {K : PySem.W.Frag} {O : Own} {H : Hp} {d : PyData} {v : V} {k : Bool} (h : Vw K O H d v) (e : truD d = some k) : TruV K v H k := by
  cases d with
  | none => cases h; cases e; rfl
  | bool b => cases h; cases e; rfl
  | int i => cases h; cases e; rfl
  | str x =>
    cases h
    simp only [truD] at e
    by_cases hl : x.length ≤ sizeLine
    · rw [if_pos hl] at e
      cases e
      exact ⟨hl, rfl⟩
    · rw [if_neg hl] at e
      cases e
  | list ds =>
    obtain ⟨p, xs, rfl, hp, r⟩ := h
    cases e
    exact .inl ⟨xs, .of hp, r.isEmpty⟩
  | tuple ds =>
    obtain ⟨p, xs, rfl, hp, r⟩ := Fz.sqT h
    cases e
    exact .inr (.inl ⟨xs, hp, r.isEmpty⟩)
  | dict _ => cases e
theorem ft_truth (h : FX X np e f) (he : ∀ whole, isTrue e X.env whole = (do let v ← whole; standAt e.pos; holding [v] (truthy v)) := by intro _; rfl) : FTX X np e (fTru f) := by
  refine PT.weak (pt_truth h he) fun σ H Q h => ?_
  obtain ⟨W, Γ, vs, ts, b, Γ', c, e, q⟩ := h
  obtain ⟨⟨t1, Γ1⟩, e1, e⟩ := Option.bind_eq_some_iff.mp e
  obtain ⟨d, e2, e⟩ := Option.bind_eq_some_iff.mp e
  obtain ⟨k, e3, e⟩ := Option.map_eq_some_iff.mp e
  cases e
  refine ⟨W, Γ, vs, ts, t1, _, c, e1, fun v H' c' => ?_⟩
  obtain ⟨O, c'⟩ := c'
  exact ⟨_, truV_of (c'.view c'.top e2) e3, q H' ⟨O, c'.pop⟩⟩

/-! ### and, or, not, if -/
variable {ta tb : FT} {rest : List Expr}
def fAnd (ta tb : FT) : FT := fun Γ => (ta Γ).bind fun p => if p.1 = true then tb p.2 else some (false, p.2)
def fOr (ta tb : FT) : FT := fun Γ => (ta Γ).bind fun p => if p.1 = true then some (true, p.2) else tb p.2
def fNot (ta : FT) : FT := fun Γ => (ta Γ).map fun p => (!p.1, p.2)
def FWX (X : Cx) (np : Nat) (e : Expr) (f : FT) : Prop := PW X e (upT X.K np f)
theorem PW.weak {X : Cx} {e : Expr} {t t' : TT} (h : PW X e t) (w : ∀ σ H Q, t' σ H Q → t σ H Q) : PW X e t' := ⟨fun wh pins s σ H Q I q => h.run wh pins s σ H Q I (w σ H Q q)⟩
theorem FWX.ft {f : FT} (h : FWX X np e f) : FTX X np e f := PW.pt h
theorem fw_and1 (h : FTX X np a ta) : FWX X np (.BoolOp .And [a] pos) ta := pw_and1 h
theorem fw_or1 (h : FTX X np a ta) : FWX X np (.BoolOp .Or [a] pos) ta := pw_or1 h
theorem fw_and (h : FTX X np a ta) (hb : FWX X np (.BoolOp .And (b :: rest) pos) tb) : FWX X np (.BoolOp .And (a :: b :: rest) pos) (fAnd ta tb) := by
  refine PW.weak (pw_and h hb) fun σ H Q h => ?_
  obtain ⟨W, Γ, vs, ts, b, Γ', c, e, q⟩ := h
  obtain ⟨⟨b1, Γ1⟩, e1, e⟩ := Option.bind_eq_some_iff.mp e
  refine ⟨W, Γ, vs, ts, b1, Γ1, c, e1, fun H1 c1 => ?_⟩
  cases b1 with
  | true => exact iteT ⟨W, Γ1, vs, ts, b, Γ', c1, by simpa using e, q⟩
  | false =>
    have e' : (false, Γ1) = (b, Γ') := by simpa using e
    cases e'
    exact iteF (q H1 c1)
theorem fw_or (h : FTX X np a ta) (hb : FWX X np (.BoolOp .Or (b :: rest) pos) tb) : FWX X np (.BoolOp .Or (a :: b :: rest) pos) (fOr ta tb) := by
  refine PW.weak (pw_or h hb) fun σ H Q h => ?_
  obtain ⟨W, Γ, vs, ts, b, Γ', c, e, q⟩ := h
  obtain ⟨⟨b1, Γ1⟩, e1, e⟩ := Option.bind_eq_some_iff.mp e
  refine ⟨W, Γ, vs, ts, b1, Γ1, c, e1, fun H1 c1 => ?_⟩
  cases b1 with
  | false => exact iteF ⟨W, Γ1, vs, ts, b, Γ', c1, by simpa using e, q⟩
  | true =>
    have e' : (true, Γ1) = (b, Γ') := by simpa using e
    cases e'
    exact iteT (q H1 c1)
theorem ft_not (h : FTX X np a ta) : FTX X np (.UnaryOp .Not a pos) (fNot ta) := by
  refine PT.weak (pt_not h) fun σ H Q h => ?_
  obtain ⟨W, Γ, vs, ts, b, Γ', c, e, q⟩ := h
  obtain ⟨⟨b1, Γ1⟩, e1, e⟩ := Option.map_eq_some_iff.mp e
  cases e
  exact ⟨W, Γ, vs, ts, b1, Γ1, c, e1, q⟩
def fIfE (tc : FT) (fa fb : FE) : FE := fun Γ => (tc Γ).bind fun p => if p.1 = true then fa p.2 else fb p.2
theorem fx_ifE {c : Expr} {tc : FT} (hc : FTX X np c tc) (ha : FX X np a fa) (hb : FX X np b fb) : FX X np (.IfExp c a b pos) (fIfE tc fa fb) := by
  refine PE.weak (pe_ifExp hc ha hb) fun σ H Q h => ?_
  obtain ⟨W, Γ, vs, ts, t, Γ', c, e, q⟩ := h
  obtain ⟨⟨b1, Γ1⟩, e1, e⟩ := Option.bind_eq_some_iff.mp e
  refine ⟨W, Γ, vs, ts, b1, Γ1, c, e1, fun H1 c1 => ?_⟩
  cases b1 with
  | true => exact iteT ⟨W, Γ1, vs, ts, t, Γ', c1, by simpa using e, q⟩
  | false => exact iteF ⟨W, Γ1, vs, ts, t, Γ', c1, by simpa using e, q⟩
/-- and, or, not of truth values, as values -/
def asB (fa : FE) : FT := fT fa
def fAndV (fa fb : FE) : FE := fun Γ => (fT fa Γ).bind fun p => if p.1 = true then fb p.2 else some (.md (.dat (.bool false)), p.2)
def fOrV (fa fb : FE) : FE := fun Γ => (fT fa Γ).bind fun p => if p.1 = true then some (.md (.dat (.bool true)), p.2) else fb p.2
def fNotV (fa : FE) : FE := fun Γ => (fT fa Γ).map fun p => (.md (.dat (.bool (!p.1))), p.2)
theorem asBool {f : FE} {σ : L2.St} {H : Hp} {W : Wd} {Γ Γ1 : Gm} {vs : List V} {ts : List TV} {k : Bool} {R : Bool → Hp → Prop} (c : Cfg X.K np W σ H Γ vs ts) (e : fT f Γ = some (k, Γ1))
    (q : ∀ H', Cfg X.K np W σ H' Γ1 vs ts → R k H') : up X.K np f σ H fun x H' => ∃ k, x = .bl k ∧ R k H' := asTest ⟨W, Γ, vs, ts, k, Γ1, c, e, q⟩
theorem fx_one {op} (h : FX X np a fa) : FX X np (.BoolOp op [a] pos) fa := pe_one h
theorem fx_and (ha : FX X np a fa) (hb : FX X np (.BoolOp .And (b :: rest) pos) fb) : FX X np (.BoolOp .And (a :: b :: rest) pos) (fAndV fa fb) := by
  refine PE.weak (pe_and ha hb) fun σ H Q h => ?_
  obtain ⟨W, Γ, vs, ts, t, Γ', c, e, q⟩ := h
  obtain ⟨⟨k, Γ1⟩, e1, e⟩ := Option.bind_eq_some_iff.mp e
  refine asBool c e1 fun H1 c1 => ?_
  cases k with
  | true => exact iteT ⟨W, Γ1, vs, ts, t, Γ', c1, by simpa using e, q⟩
  | false =>
    have e' : (TV.md (.dat (.bool false)), Γ1) = (t, Γ') := by simpa using e
    cases e'
    obtain ⟨O, c1⟩ := c1
    exact iteF (q _ H1 ⟨O, c1.push (.bl false)⟩)
theorem fx_or (ha : FX X np a fa) (hb : FX X np (.BoolOp .Or (b :: rest) pos) fb) : FX X np (.BoolOp .Or (a :: b :: rest) pos) (fOrV fa fb) := by
  refine PE.weak (pe_or ha hb) fun σ H Q h => ?_
  obtain ⟨W, Γ, vs, ts, t, Γ', c, e, q⟩ := h
  obtain ⟨⟨k, Γ1⟩, e1, e⟩ := Option.bind_eq_some_iff.mp e
  refine asBool c e1 fun H1 c1 => ?_
  cases k with
  | false => exact iteF ⟨W, Γ1, vs, ts, t, Γ', c1, by simpa using e, q⟩
  | true =>
    have e' : (TV.md (.dat (.bool true)), Γ1) = (t, Γ') := by simpa using e
    cases e'
    obtain ⟨O, c1⟩ := c1
    exact iteT (q _ H1 ⟨O, c1.push (.bl true)⟩)
theorem fx_not (ha : FX X np a fa) : FX X np (.UnaryOp .Not a pos) (fNotV fa) := by
  refine PE.weak (pe_not ha) fun σ H Q h => ?_
  obtain ⟨W, Γ, vs, ts, t, Γ', c, e, q⟩ := h
  obtain ⟨⟨k, Γ1⟩, e1, e⟩ := Option.map_eq_some_iff.mp e
  cases e
  refine asBool c e1 fun H1 c1 => ?_
  obtain ⟨O, c1⟩ := c1
  exact q _ H1 ⟨O, c1.push (.bl _)⟩
end
end Fx

end

/-! Fx4: operators by kinds, arguments, displays, subscripts, slices, built-ins -/
noncomputable section
namespace Fx
open PySem PySem.Spec PyProof.Rows L2

section
variable {K : PySem.W.Frag} {O : Own} {H : Hp} {Q : VK}
theorem okv {d : PyData} {v : V} (dom : ∀ b t, O b = some t → H b ≠ none) (q : ∀ v H', ResOk K O H (.val d) v H' → Q v H') (h : Fz K O H d v) : Q v H := q v H ⟨Ev.refl dom, h⟩
theorem okt {ds : List PyData} {p : Addr} {ws : List V} (dom : ∀ b t, O b = some t → H b ≠ none) (q : ∀ v H', ResOk K O H (.val (.tuple ds)) v H' → Q v H') (hp : H p = none) (h : FzA K O H ds ws) : Q (.ref p) (upd H p (.tup ws)) :=
  q _ _ ⟨Ev.new dom hp, .tup (.inl upd_same) (own_none dom hp) (FzA.kp (Ev.new dom hp).k _ _ h)⟩
theorem okn {ds : List PyData} {p : Addr} {ws : List V} (q : ∀ v H', ResOk K O H (.new ds) v H' → Q v H') (hp : H p = none) (h : FzA K O H ds ws) : Q (.ref p) (upd H p (.lst ws)) := q _ _ ⟨p, ws, rfl, hp, rfl, h⟩

/-! ### arithmetic -/
def gInt2 (g : Int → Int → Int) : PyData → PyData → Option Res
  | .int i, .int j => some (.val (.int (g i j)))
  | _, _ => none
def gInt2C (C : Int → Int → Bool) (g : Int → Int → Int) : PyData → PyData → Option Res
  | .int i, .int j => if C i j = true then some (.val (.int (g i j))) else none
  | _, _ => none
def gRel (g : Int → Int → Bool) : PyData → PyData → Option Res
  | .int i, .int j => some (.val (.bool (g i j)))
  | _, _ => none
theorem snd_int2 {g : Int → Int → Int} : Snd2 K (rI0 fun i j => .int (g i j)) (gInt2 g) := by
  intro O H x y d e s Q dom hx hy hg q
  unfold gInt2 at hg
  split at hg
  · cases hg
    cases hx
    cases hy
    exact ⟨_, _, rfl, rfl, okv dom q (.int _)⟩
  · cases hg
theorem snd_rel {g : Int → Int → Bool} : Snd2 K (rI0 fun i j => .bl (g i j)) (gRel g) := by
  intro O H x y d e s Q dom hx hy hg q
  unfold gRel at hg
  split at hg
  · cases hg
    cases hx
    cases hy
    exact ⟨_, _, rfl, rfl, okv dom q (.bl _)⟩
  · cases hg
theorem snd_int2C {C : Int → Int → Bool} {C' : Int → Int → Prop} {g : Int → Int → Int} (hC : ∀ i j, C i j = true → C' i j) : Snd2 K (rI C' fun i j => .int (g i j)) (gInt2C C g) := by
  intro O H x y d e s Q dom hx hy hg q
  unfold gInt2C at hg
  split at hg
  · split at hg
    · rename_i h
      cases hg
      cases hx
      cases hy
      exact ⟨_, _, rfl, rfl, hC _ _ h, okv dom q (.int _)⟩
    · cases hg
  · cases hg
theorem Snd2.or {r r' : R2} {g g' h : PyData → PyData → Option Res} (a : Snd2 K r g) (b : Snd2 K r' g') (e : ∀ d e s, h d e = some s → g d e = some s ∨ g' d e = some s) : Snd2 K (fun x y H Q => r x y H Q ∨ r' x y H Q) h := by
  intro O H x y d d' s Q dom hx hy hg q
  rcases e d d' s hg with z | z
  · exact .inl (a O H x y d d' s Q dom hx hy z q)
  · exact .inr (b O H x y d d' s Q dom hx hy z q)

def gAddS : PyData → PyData → Option Res
  | .str x, .str y => if x.length + y.length ≤ sizeLine then some (.val (.str (x ++ y))) else none
  | _, _ => none
def gCat : PyData → PyData → Option Res
  | .list xs, .list ys => if xs.length + ys.length ≤ sizeLine then some (.new (xs ++ ys)) else none
  | _, _ => none
def gCatT : PyData → PyData → Option Res
  | .tuple xs, .tuple ys => if xs.length + ys.length ≤ sizeLine then some (.val (.tuple (xs ++ ys))) else none
  | _, _ => none
theorem snd_addS : Snd2 K (fun x y H Q => ∃ i j, x = .str i ∧ y = .str j ∧ i.length + j.length ≤ sizeLine ∧ Q (.str (i ++ j)) H) gAddS := by
  intro O H x y d e s Q dom hx hy hg q
  unfold gAddS at hg
  split at hg
  · split at hg
    · rename_i h
      cases hg
      cases hx
      cases hy
      exact ⟨_, _, rfl, rfl, h, okv dom q (.str _)⟩
    · cases hg
  · cases hg
theorem snd_cat : Snd2 K rCat gCat := by
  intro O H x y d e s Q dom hx hy hg q
  unfold gCat at hg
  split at hg
  · split at hg
    · rename_i h
      cases hg
      obtain ⟨a, xs, rfl, ha, fa⟩ := hx
      obtain ⟨b, ys, rfl, hb, fb⟩ := hy
      exact ⟨a, b, xs, ys, rfl, rfl, ha, hb, by rw [← fa.length, ← fb.length]; exact h, fun p hp => okn q hp (fa.append fb)⟩
    · cases hg
  · cases hg
theorem FzA.nil_iff {ds : List PyData} {vs : List V} (h : FzA K O H ds vs) : vs = [] → ds = [] := fun e => by
  subst e; cases h; rfl
theorem snd_catT : Snd2 K (rCatA K) gCatT := by
  intro O H x y d e s Q dom hx hy hg q
  unfold gCatT at hg
  split at hg
  · split at hg
    · rename_i h
      cases hg
      have hx' := hx
      have hy' := hy
      obtain ⟨a, xs, rfl, ha, fa⟩ := Fz.sqT hx
      obtain ⟨b, ys, rfl, hb, fb⟩ := Fz.sqT hy
      refine ⟨a, b, xs, ys, rfl, rfl, ha, hb, by rw [← fa.length, ← fb.length]; exact h, fun e => ?_, fun _ e => ?_, fun _ _ p hp => okt dom q hp (fa.append fb)⟩
      · rw [fa.nil_iff e, List.nil_append] at q
        exact okv dom q hy'
      · rw [fb.nil_iff e, List.append_nil] at q
        exact okv dom q hx'
    · cases hg
  · cases hg
def gAdd : PyData → PyData → Option Res
  | .int i, .int j => some (.val (.int (i + j)))
  | .tuple xs, .tuple ys => if xs.length + ys.length ≤ sizeLine then some (.val (.tuple (xs ++ ys))) else none
  | .list xs, .list ys => if xs.length + ys.length ≤ sizeLine then some (.new (xs ++ ys)) else none
  | .str x, .str y => if x.length + y.length ≤ sizeLine then some (.val (.str (x ++ y))) else none
  | _, _ => none
def rAddA (K : PySem.W.Frag) : R2 := fun x y H Q => rI0 (fun i j => .int (i + j)) x y H Q ∨ (rCatA K x y H Q ∨ (rCat x y H Q ∨ (∃ i j, x = .str i ∧ y = .str j ∧ i.length + j.length ≤ sizeLine ∧ Q (.str (i ++ j)) H)))
theorem snd_add : Snd2 K (rAddA K) gAdd := by
  intro O H x y d e s Q dom hx hy hg q
  unfold gAdd at hg
  split at hg
  · exact .inl (snd_int2 (g := fun i j => i + j) O H x y _ _ s Q dom hx hy hg q)
  · exact .inr (.inl (snd_catT O H x y _ _ s Q dom hx hy hg q))
  · exact .inr (.inr (.inl (snd_cat O H x y _ _ s Q dom hx hy hg q)))
  · exact .inr (.inr (.inr (snd_addS O H x y _ _ s Q dom hx hy hg q)))
  · cases hg
theorem op_addA {X : Cx} : OpR X (binaryOp .Add) (rAddA X.K) := OpR.or op_add (OpR.or op_catA (OpR.or op_cat op_add_str))
abbrev gSub := gInt2 fun i j => i - j
theorem dec1 {p : Prop} [Decidable p] (h : decide p = true) : p := of_decide_eq_true h
/-- products of any size that is still one of ours -/
def mulOk (i j : Int) : Bool := decide (i.natAbs.log2 + j.natAbs.log2 < 1000000)
theorem mulOk_to {i j : Int} (h : mulOk i j = true) : CMulW i j := by
  have h' := dec1 h
  exact h'
def gMul : PyData → PyData → Option Res
  | .int i, .int j => if mulOk i j = true then some (.val (.int (i * j))) else none
  | .list xs, .int k => @ite _ (k < 2 ^ 63 ∧ -(2 ^ 63) ≤ k ∧ xs.length * k.toNat ≤ sizeLine) (Classical.propDecidable _) (some (.new (List.replicate k.toNat xs).flatten)) none
  | .tuple xs, .int k => @ite _ (xs ≠ [] ∧ 2 ≤ k ∧ k ≤ 1000 ∧ xs.length ≤ 1000) (Classical.propDecidable _) (some (.val (.tuple (List.replicate k.toNat xs).flatten))) none
  | _, _ => none
def rMulA (K : PySem.W.Frag) : R2 := fun x y H Q => rI CMulW (fun i j => .int (i * j)) x y H Q ∨ (rRep x y H Q ∨ rRepT K x y H Q)
theorem op_mulA {X : Cx} : OpR X (binaryOp .Mult) (rMulA X.K) := OpR.or op_mulW (OpR.or op_rep op_repT)
theorem FzA.rep {K : PySem.W.Frag} {O : Own} {H : Hp} {ds : List PyData} {vs : List V} (h : FzA K O H ds vs) : ∀ n : Nat, FzA K O H (List.replicate n ds).flatten (List.replicate n vs).flatten
  | 0 => .nil
  | n + 1 => by
    rw [List.replicate_succ, List.replicate_succ, List.flatten_cons, List.flatten_cons]
    exact h.append (h.rep n)
theorem snd_mul : Snd2 K (rMulA K) gMul := by
  intro O H x y d e s Q dom hx hy hg q
  unfold gMul at hg
  split at hg
  · split at hg
    · rename_i h
      cases hg
      cases hx
      cases hy
      exact .inl ⟨_, _, rfl, rfl, mulOk_to h, okv dom q (.int _)⟩
    · cases hg
  · split at hg
    · rename_i h
      cases hg
      cases hy
      obtain ⟨a, xs, rfl, ha, fa⟩ := hx
      exact .inr (.inl ⟨a, _, xs, rfl, rfl, ha, h.2.1, h.1, by rw [← fa.length]; exact h.2.2, fun p hp => okn q hp (fa.rep _)⟩)
    · cases hg
  · split at hg
    · rename_i h
      cases hg
      cases hy
      obtain ⟨a, xs, rfl, ha, fa⟩ := Fz.sqT hx
      exact .inr (.inr ⟨a, _, xs, rfl, rfl, ha, fun e => h.1 (fa.nil_iff e), h.2.1, h.2.2.1, by rw [← fa.length]; exact h.2.2.2, fun p hp => okt dom q hp (fa.rep _)⟩)
    · cases hg
  · cases hg
/-- // and % -/
def divOk (_i j : Int) : Bool := decide (0 < j ∧ j.natAbs.log2 < 9000)
abbrev gDiv := gInt2C divOk fun i j => i / j
theorem snd_div : Snd2 K (rI CDivW fun i j => .int (i / j)) gDiv := snd_int2C fun _ _ h => by
  have h' := dec1 h
  exact h'
abbrev gMod := gInt2C (fun _ j => decide (0 < j)) fun i j => i % j
theorem snd_mod : Snd2 K (rI (fun _ j => 0 < j) fun i j => .int (i % j)) gMod := snd_int2C fun _ _ h => by
  have h' := dec1 h
  exact h'
def powOk (i j : Int) : Bool := decide (0 ≤ j ∧ j ≤ 1000000 ∧ i.natAbs < 2 ^ 64)
abbrev gPow := gInt2C powOk fun i j => i ^ j.toNat
theorem snd_pow : Snd2 K (rI CPow fun i j => .int (i ^ j.toNat)) gPow := snd_int2C fun _ _ h => by
  have h' := dec1 h
  exact h'
abbrev gShl := gInt2C powOk fun i j => i * 2 ^ j.toNat
theorem snd_shl : Snd2 K (rI CPow fun i j => .int (i * 2 ^ j.toNat)) gShl := snd_int2C fun _ _ h => by
  have h' := dec1 h
  exact h'
abbrev gShr := gInt2C (fun _ j => decide (0 ≤ j)) fun i j => i / 2 ^ j.toNat
theorem snd_shr : Snd2 K (rI (fun _ j => 0 ≤ j) fun i j => .int (i / 2 ^ j.toNat)) gShr := snd_int2C fun _ _ h => by
  have h' := dec1 h
  exact h'
abbrev gAndB := gInt2 Builtin.bitAnd
abbrev gOrB := gInt2 Builtin.bitOr
abbrev gXorB := gInt2 Builtin.bitXor
abbrev gLt := gRel fun i j => decide (i < j)
abbrev gLe := gRel fun i j => decide (i ≤ j)
abbrev gGt := gRel fun i j => decide (j < i)
abbrev gGe := gRel fun i j => decide (j ≤ i)

/-! ### == and != of data -/
mutual
theorem Fz.dp : ∀ (d : PyData) (v : V), Fz K O H d v → SeqAt.shaped d = true ∨ d.canLay0 = true → Dp K H v d
  | .none, _, h, _ => by cases h; exact .non
  | .bool _, _, h, _ => by cases h; exact .bl _
  | .int _, _, h, _ => by cases h; exact .int _
  | .str _, _, h, _ => by cases h; exact .str _
  | .list ds, _, h, e => by
    have e' : PyData.canLayAll0 ds = true := by
      rcases e with e | e
      · have := SeqAt.canLay_of_shaped e
        simpa only [PyData.canLay0] using this
      · simpa only [PyData.canLay0] using e
    cases h with
    | lst hr n ha => exact .lst (.of hr) (FzA.dp ds _ ha e')
  | .tuple ds, _, h, e => by
    have e' : PyData.canLayAll0 ds = true := by
      rcases e with e | e
      · have := SeqAt.canLay_of_shaped e
        simpa only [PyData.canLay0] using this
      · simpa only [PyData.canLay0] using e
    obtain ⟨a, xs, rfl, hs, ha⟩ := h.sqT
    exact .tup hs (FzA.dp ds _ ha e')
  | .dict ds, _, h, e => by
    rcases e with e | e
    · have := SeqAt.canLay_of_shaped e
      simp [PyData.canLay0] at this
    · simp [PyData.canLay0] at e
theorem FzA.dp : ∀ (ds : List PyData) (vs : List V), FzA K O H ds vs → PyData.canLayAll0 ds = true → DpAll K H vs ds
  | [], _, h, _ => by cases h; exact .nil
  | d :: ds, _, h, e => by
    cases h with
    | cons h1 h2 =>
      have e' : d.canLay0 = true ∧ PyData.canLayAll0 ds = true := by simpa only [PyData.canLayAll0, Bool.and_eq_true] using e
      exact .cons (Fz.dp d _ h1 (.inr e'.1)) (FzA.dp ds _ h2 e'.2)
end
theorem Vw.dp {d : PyData} {v : V} (h : Vw K O H d v) (e : SeqAt.shaped d = true) : Dp K H v d := by
  cases d with
  | list ds =>
    obtain ⟨a, xs, rfl, hs, ha⟩ := h
    exact .lst (.of hs) (FzA.dp ds _ ha (by simpa only [PyData.canLay0] using SeqAt.canLay_of_shaped e))
  | _ => exact Fz.dp _ _ h (.inl e)
def shp (d : PyData) : Bool := match d with
  | .int _ => true
  | .none => true
  | .bool _ => true
  | d => SeqAt.shaped d
theorem shp_ok {d : PyData} (h : shp d = true) : SeqAt.shaped d = true := by
  cases d <;> first | exact h | rfl
def gEq (neg : Bool) (d e : PyData) : Option Res := if shp d = true ∧ shp e = true then some (.val (.bool (if neg then !PyData.eqv d e else PyData.eqv d e))) else none
theorem snd_eq : Snd2 K (rEqD K) (gEq false) := by
  intro O H x y d e s Q dom hx hy hg q
  unfold gEq at hg
  split at hg
  · rename_i h
    cases hg
    exact ⟨d, e, hx.dp (shp_ok h.1), hy.dp (shp_ok h.2), shp_ok h.1, shp_ok h.2, okv dom q (.bl _)⟩
  · cases hg
theorem snd_ne : Snd2 K (rNeD K) (gEq true) := by
  intro O H x y d e s Q dom hx hy hg q
  unfold gEq at hg
  split at hg
  · rename_i h
    cases hg
    exact ⟨d, e, hx.dp (shp_ok h.1), hy.dp (shp_ok h.2), shp_ok h.1, shp_ok h.2, okv dom q (.bl _)⟩
  · cases hg

/-! ### is -/
def isNon : PyData → Bool
  | .none => true
  | _ => false
def gIs : PyData → PyData → Option Res
  | d, .none => some (.val (.bool (isNon d)))
  | .bool a, .bool b => some (.val (.bool (decide (a = b))))
  | _, _ => none
theorem non_iff {d : PyData} {v : V} (h : Vw K O H d v) : decide (v = V.non) = isNon d := by
  cases d with
  | list ds =>
    obtain ⟨a, xs, rfl, _, _⟩ := h
    rfl
  | _ => cases h <;> rfl
def rIsA : R2 := fun x y H Q => (y = .non ∧ Q (.bl (decide (x = .non))) H) ∨ (∃ a b, x = V.bl a ∧ y = V.bl b ∧ Q (.bl (decide (a = b))) H)
def rIsNotA : R2 := fun x y H Q => (y = .non ∧ Q (.bl (!decide (x = .non))) H)
theorem snd_is : Snd2 K rIsA gIs := by
  intro O H x y d e s Q dom hx hy hg q
  unfold gIs at hg
  split at hg
  · cases hg
    cases hy
    refine .inl ⟨rfl, ?_⟩
    rw [non_iff hx]
    exact okv dom q (.bl _)
  · cases hg
    cases hx
    cases hy
    exact .inr ⟨_, _, rfl, rfl, okv dom q (.bl _)⟩
  · cases hg
def gIsNot : PyData → PyData → Option Res
  | d, .none => some (.val (.bool (!isNon d)))
  | _, _ => none
theorem snd_isnot : Snd2 K rIsNotA gIsNot := by
  intro O H x y d e s Q dom hx hy hg q
  unfold gIsNot at hg
  split at hg
  · cases hg
    cases hy
    refine ⟨rfl, ?_⟩
    rw [non_iff hx]
    exact okv dom q (.bl _)
  · cases hg
theorem op_isA {X : Cx} : OpR X (compareOp .Is) rIsA := OpR.or op_isN op_is_bl

/-! ### in -/
def eqF : PyData → PyData → Bool
  | .none, .none => true
  | .bool a, .bool b => a == b
  | .bool a, .int b => (if a then 1 else 0) == b
  | .int a, .bool b => a == (if b then 1 else 0)
  | .int a, .int b => a == b
  | .str a, .str b => a == b
  | _, _ => false
def flatD : PyData → Bool
  | .none => true
  | .bool _ => true
  | .int _ => true
  | .str _ => true
  | _ => false
def gIn (neg : Bool) (d : PyData) : PyData → Option Res
  | .list xs => if flatD d = true ∧ xs.all flatD = true then some (.val (.bool (if neg then !(xs.any fun y => eqF y d) else xs.any fun y => eqF y d))) else none
  | .tuple xs => if flatD d = true ∧ xs.all flatD = true then some (.val (.bool (if neg then !(xs.any fun y => eqF y d) else xs.any fun y => eqF y d))) else none
  | _ => none
theorem Fz.flat {d : PyData} {v : V} (h : Fz K O H d v) (e : flatD d = true) : flatV v = true := by
  cases h <;> first | rfl | cases e
theorem Vw.flat {d : PyData} {v : V} (h : Vw K O H d v) (e : flatD d = true) : flatV v = true := by
  cases d with
  | list ds => cases e
  | _ => exact Fz.flat h e
theorem FzA.flat : ∀ {ds : List PyData} {vs : List V}, FzA K O H ds vs → ds.all flatD = true → vs.all flatV = true
  | [], _, h, _ => by cases h; rfl
  | d :: ds, _, h, e => by
    cases h with
    | cons h1 h2 =>
      rw [List.all_cons, Bool.and_eq_true] at e ⊢
      exact ⟨h1.flat e.1, FzA.flat h2 e.2⟩
theorem eqF_V {d e : PyData} {v u : V} (h : Fz K O H d v) (g : Fz K O H e u) (fd : flatD d = true) (fe : flatD e = true) : eqV v u = eqF d e := by
  cases h <;> first | (cases fd; done) | (cases g <;> first | (cases fe; done) | rfl)
theorem anyF_V {e : PyData} {u : V} (g : Fz K O H e u) (fe : flatD e = true) : ∀ {ds : List PyData} {vs : List V}, FzA K O H ds vs → ds.all flatD = true → inV u vs = ds.any fun y => eqF y e
  | [], _, h, _ => by cases h; rfl
  | d :: ds, _, h, e' => by
    cases h with
    | cons h1 h2 =>
      rw [List.all_cons, Bool.and_eq_true] at e'
      show (eqV _ u || inV u _) = _
      rw [List.any_cons, eqF_V h1 g e'.1 fe, anyF_V g fe h2 e'.2]
theorem Vw.fzFlat {d : PyData} {v : V} (h : Vw K O H d v) (e : flatD d = true) : Fz K O H d v := by
  cases d with
  | list ds => cases e
  | _ => exact h
theorem snd_in {neg : Bool} : Snd2 K (rIn K neg) (gIn neg) := by
  intro O H x y d e s Q dom hx hy hg q
  unfold gIn at hg
  split at hg
  · split at hg
    · rename_i h
      cases hg
      obtain ⟨a, xs, rfl, ha, fa⟩ := hy
      refine ⟨a, xs, rfl, .inl (.of ha), hx.flat h.1, fa.flat h.2, ?_⟩
      rw [anyF_V (hx.fzFlat h.1) h.1 fa h.2]
      have := okv dom q (.bl _)
      cases neg <;> exact this
    · cases hg
  · split at hg
    · rename_i h
      cases hg
      obtain ⟨a, xs, rfl, ha, fa⟩ := Fz.sqT hy
      refine ⟨a, xs, rfl, .inr ha, hx.flat h.1, fa.flat h.2, ?_⟩
      rw [anyF_V (hx.fzFlat h.1) h.1 fa h.2]
      have := okv dom q (.bl _)
      cases neg <;> exact this
    · cases hg
  · cases hg

/-! ### subscripts -/
def gIx : PyData → PyData → Option Res
  | .list xs, .int i => (atI xs i).map .val
  | .tuple xs, .int i => (atI xs i).map .val
  | .str z, .int i => if z.length ≤ sizeLine then (atI z.cps.toList i).map fun c => .val (.str ⟨#[c]⟩) else none
  | _, _ => none
def rIxA (K : PySem.W.Frag) : R2 := fun x y H Q => rIxL K x y H Q ∨ (rIxT K x y H Q ∨ rIxS x y H Q)
theorem FzA.at {ds : List PyData} {vs : List V} {i : Int} {d : PyData} (h : FzA K O H ds vs) (e : atI ds i = some d) : ∃ v, atI vs i = some v ∧ Fz K O H d v := by
  unfold atI at e ⊢
  rw [← h.length]
  obtain ⟨j, e1, e2⟩ := Option.bind_eq_some_iff.mp e
  obtain ⟨v, e3, r⟩ := h.get e2
  exact ⟨v, by rw [e1]; exact e3, r⟩
theorem snd_ix : Snd2 K (rIxA K) gIx := by
  intro O H x y d e s Q dom hx hy hg q
  unfold gIx at hg
  split at hg
  · obtain ⟨d, e1, e2⟩ := Option.map_eq_some_iff.mp hg
    cases e2
    cases hy
    obtain ⟨a, xs, rfl, ha, fa⟩ := hx
    obtain ⟨v, e3, r⟩ := fa.at e1
    exact .inl ⟨a, xs, _, v, rfl, rfl, .of ha, e3, okv dom q r⟩
  · obtain ⟨d, e1, e2⟩ := Option.map_eq_some_iff.mp hg
    cases e2
    cases hy
    obtain ⟨a, xs, rfl, ha, fa⟩ := Fz.sqT hx
    obtain ⟨v, e3, r⟩ := fa.at e1
    exact .inr (.inl ⟨a, xs, _, v, rfl, rfl, ha, e3, okv dom q r⟩)
  · split at hg
    · rename_i h
      obtain ⟨c, e1, e2⟩ := Option.map_eq_some_iff.mp hg
      cases e2
      cases hy
      cases hx
      exact .inr (.inr ⟨_, _, c, rfl, rfl, h, e1, okv dom q (.str _)⟩)
    · cases hg
  · cases hg
end
section
variable {X : Cx} {np : Nat} {e a b : Expr} {pos : Pos} {f fa fb : FE}
theorem ix_any : IxR X (rIxA X.K) := IxR.or ix_list (IxR.or ix_tup ix_str)
theorem fx_ix (ha : FX X np a fa) (hb : FX X np b fb) (hs : PlainIx b := by intro _ _; rfl) : FX X np (.Subscript a b pos) (fOp2 gIx false fa fb) :=
  PE.weak (pe_ix ix_any ha hb hs) fun _ _ _ h => two snd_ix h
end
end Fx

end

/-! Fx5: argument lists, displays, slices, built-ins -/
noncomputable section
namespace Fx
open PySem PySem.Spec PyProof.Rows L2

section
variable {K : PySem.W.Frag} {np : Nat} {W : Wd} {O O' : Own} {σ σ' : L2.St} {H H' : Hp} {Γ Γ' : Gm}
theorem Tm.args : ∀ {xs : List V} {us : List TV} {vs : List V} {ts : List TV}, xs.length = us.length → Tm K O H σ Γ (xs.reverse ++ vs) (us.reverse ++ ts) → Paired (fun x u => ∃ g, TR K O H σ Γ g u x) xs us ∧ Tm K O H σ Γ vs ts
  | [], [], _, _, _, h => ⟨.nil, h⟩
  | x :: xs, u :: us, vs, ts, e, h => by
    rw [List.reverse_cons, List.reverse_cons, List.append_assoc, List.append_assoc] at h
    obtain ⟨h1, h2⟩ := Tm.args (xs := xs) (us := us) (by simpa using e) h
    exact ⟨.cons ⟨_, h2.1⟩ h1, h2.2⟩
  | [], _ :: _, _, _, e, _ => by simp at e
  | _ :: _, [], _, _, e, _ => by simp at e
theorem Cf.args {xs : List V} {us : List TV} {vs : List V} {ts : List TV} (c : Cf K np W O σ H Γ (xs.reverse ++ vs) (us.reverse ++ ts)) (e : xs.length = us.length) : Paired (fun x u => ∃ g, TR K O H σ Γ g u x) xs us ∧ Cf K np W O σ H Γ vs ts :=
  ⟨(Tm.args e c.tm).1, c.dom, c.sl, (Tm.args e c.tm).2, c.keep, c.out, c.wt, c.arg, c.len⟩
def dvs (Γ : Gm) : List TV → Option (List PyData)
  | [] => some []
  | t :: ts => (dv Γ t).bind fun d => (dvs Γ ts).map fun ds => d :: ds
abbrev VwA (K : PySem.W.Frag) (O : Own) (H : Hp) : List PyData → List V → Prop := Paired fun d x => Vw K O H d x
theorem Cf.views {vs : List V} {ts : List TV} (c : Cf K np W O σ H Γ vs ts) : ∀ {xs : List V} {us : List TV} {ds : List PyData}, Paired (fun x u => ∃ g, TR K O H σ Γ g u x) xs us → dvs Γ us = some ds → VwA K O H ds xs
  | _, _, ds, .nil, e => by cases e; exact .nil
  | _, _, ds, .cons r t, e => by
    obtain ⟨d, e1, e⟩ := Option.bind_eq_some_iff.mp e
    obtain ⟨ds', e2, e⟩ := Option.map_eq_some_iff.mp e
    cases e
    obtain ⟨g, r⟩ := r
    exact .cons (c.view r e1) (Cf.views c t e2)
/-- frozen ones -/
def frz : TV → Option PyData
  | .md (.dat d) => some d
  | _ => none
def frzs : List TV → Option (List PyData)
  | [] => some []
  | t :: ts => (frz t).bind fun d => (frzs ts).map fun ds => d :: ds
theorem frz_to {t : TV} {d : PyData} (e : frz t = some d) : t = .md (.dat d) := by
  unfold frz at e
  split at e
  · cases e; rfl
  · cases e
theorem frzs_to : ∀ {ts : List TV} {ds : List PyData}, frzs ts = some ds → ts = ds.map fun d => .md (.dat d)
  | [], ds, e => by cases e; rfl
  | t :: ts, ds, e => by
    obtain ⟨d, e1, e⟩ := Option.bind_eq_some_iff.mp e
    obtain ⟨ds', e2, e⟩ := Option.map_eq_some_iff.mp e
    cases e
    rw [frz_to e1, frzs_to e2]
    rfl
theorem frzA : ∀ {xs : List V} {us : List TV} {ds : List PyData}, Paired (fun x u => ∃ g, TR K O H σ Γ g u x) xs us → frzs us = some ds → FzA K O H ds xs
  | _, _, ds, .nil, e => by cases e; exact .nil
  | _, _, ds, .cons r t, e => by
    obtain ⟨d, e1, e⟩ := Option.bind_eq_some_iff.mp e
    obtain ⟨ds', e2, e⟩ := Option.map_eq_some_iff.mp e
    cases e
    obtain ⟨g, r⟩ := r
    rw [frz_to e1] at r
    exact .cons r (frzA t e2)
end
section
variable {X : Cx} {np : Nat} {e a b : Expr} {es : List Expr} {pos : Pos} {f fa fb : FE} {fs : FA}
def fANil : FA := fun Γ => some ([], Γ)
def fACons (fa : FE) (fs : FA) : FA := fun Γ => (fa Γ).bind fun p => (fs p.2).map fun q => (p.1 :: q.1, q.2)
theorem fa_nil : FAX X np [] fANil := by
  refine PA.weak pa_nil fun σ H Q h => ?_
  obtain ⟨W, Γ, vs, ts, us, Γ', c, e, q⟩ := h
  cases e
  exact q [] H c rfl
theorem fa_cons (ha : FX X np e fa) (hr : FAX X np es fs) (hs : starEach (e :: es) X.env = (false, eval e X.env) :: starEach es X.env := by rfl) : FAX X np (e :: es) (fACons fa fs) := by
  refine PA.weak (pa_cons ha hr hs) fun σ H Q h => ?_
  obtain ⟨W, Γ, vs, ts, us, Γ', c, e, q⟩ := h
  obtain ⟨⟨t1, Γ1⟩, e1, e⟩ := Option.bind_eq_some_iff.mp e
  obtain ⟨⟨us', Γ2⟩, e2, e⟩ := Option.map_eq_some_iff.mp e
  cases e
  refine ⟨W, Γ, vs, ts, t1, Γ1, c, e1, fun x H1 c1 => ⟨W, Γ1, x :: vs, t1 :: ts, us', Γ2, c1, e2, fun xs H2 c2 hl => q (x :: xs) H2 ?_ (by simp [hl])⟩⟩
  rw [List.reverse_cons, List.reverse_cons, List.append_assoc, List.append_assoc]
  exact c2

/-- (a, b, ..) and [a, b, ..] of plain data -/
def fTup (fs : FA) : FE := fun Γ => (fs Γ).bind fun p => (frzs p.1).bind fun ds => if ds.length ≤ sizeLine then some (.md (.dat (.tuple ds)), p.2) else none
def fLst (ow : Bool) (fs : FA) : FE := fun Γ => (fs Γ).bind fun p => (frzs p.1).bind fun ds => if ds.length ≤ sizeLine then some ((Res.new ds).fin ow, p.2) else none
theorem fx_tup {k : Nat} (h : FAX X np es fs) : FX X np (.Tuple es k pos) (fTup fs) := by
  refine PE.weak (pe_tup h) fun σ H Q h => ?_
  obtain ⟨W, Γ, vs, ts, t, Γ', c, e, q⟩ := h
  obtain ⟨⟨us, Γ1⟩, e1, e⟩ := Option.bind_eq_some_iff.mp e
  obtain ⟨ds, e2, e⟩ := Option.bind_eq_some_iff.mp e
  by_cases hl : ds.length ≤ sizeLine
  · rw [if_pos hl] at e
    cases e
    refine ⟨W, Γ, vs, ts, us, Γ1, c, e1, fun xs H1 c1 el => ?_⟩
    obtain ⟨O, c1⟩ := c1
    obtain ⟨pr, c2⟩ := c1.args el
    have fa := frzA pr e2
    refine ⟨by rw [← fa.length]; exact hl, fun p hp => ?_⟩
    exact okt c2.dom (fun v H' ok => q v H' (c2.res (ow := false) ok)) hp fa
  · rw [if_neg hl] at e
    cases e
theorem fx_lst {ow : Bool} (h : FAX X np es fs) : FX X np (.List es pos) (fLst ow fs) := by
  refine PE.weak (pe_lst h) fun σ H Q h => ?_
  obtain ⟨W, Γ, vs, ts, t, Γ', c, e, q⟩ := h
  obtain ⟨⟨us, Γ1⟩, e1, e⟩ := Option.bind_eq_some_iff.mp e
  obtain ⟨ds, e2, e⟩ := Option.bind_eq_some_iff.mp e
  by_cases hl : ds.length ≤ sizeLine
  · rw [if_pos hl] at e
    cases e
    refine ⟨W, Γ, vs, ts, us, Γ1, c, e1, fun xs H1 c1 el => ?_⟩
    obtain ⟨O, c1⟩ := c1
    obtain ⟨pr, c2⟩ := c1.args el
    have fa := frzA pr e2
    refine ⟨by rw [← fa.length]; exact hl, fun p hp => ?_⟩
    exact okn (fun v H' ok => q v H' (c2.res ok)) hp fa
  · rw [if_neg hl] at e
    cases e

/-! ### built-ins by values -/
def SndN (K : PySem.W.Frag) (r : List V → Hp → VK → Prop) (g : List PyData → Option Res) : Prop :=
  ∀ (O : Own) (H : Hp) (xs : List V) (ds : List PyData) (s : Res) (Q : VK), (∀ b t, O b = some t → H b ≠ none) → VwA K O H ds xs → g ds = some s → (∀ v H', ResOk K O H s v H' → Q v H') → r xs H Q
def fB (g : List PyData → Option Res) (ow : Bool) (fs : FA) : FE := fun Γ => (fs Γ).bind fun p => (dvs p.2 p.1).bind fun ds => (g ds).map fun r => (r.fin ow, p.2)
theorem byVals {r : List V → Hp → VK → Prop} {g : List PyData → Option Res} {ow : Bool} (hg : SndN X.K r g) {σ : L2.St} {H : Hp} {Q : VK} (h : up X.K np (fB g ow fs) σ H Q) : tCB r (upA X.K np fs) σ H Q := by
  obtain ⟨W, Γ, vs, ts, t, Γ', c, e, q⟩ := h
  obtain ⟨⟨us, Γ1⟩, e1, e⟩ := Option.bind_eq_some_iff.mp e
  obtain ⟨ds, e2, e⟩ := Option.bind_eq_some_iff.mp e
  obtain ⟨s, e3, e⟩ := Option.map_eq_some_iff.mp e
  cases e
  refine ⟨W, Γ, vs, ts, us, Γ1, c, e1, fun xs H1 c1 el => ?_⟩
  obtain ⟨O, c1⟩ := c1
  obtain ⟨pr, c2⟩ := c1.args el
  exact hg O H1 xs ds s Q c2.dom (c2.views pr e2) e3 fun v H' ok => q v H' (c2.res ok)
theorem fx_B {id : String} {x : Str} {p : Pos} {r : List V → Hp → VK → Prop} {g : List PyData → Option Res} {ow : Bool} (hc : CallR X (.builtin id) r) (hg : SndN X.K r g) (hm : X.mg x = none) (ha : FAX X np (e :: es) fs) (hv : bootBuiltins x = some (.builtin id) := by decide +kernel)
    (hgl : Gl X x := by rfl) (hn : x ≠ "__name__" := by decide) (hdb : (x == ("__debug__" : Str)) = false := by decide)
    (he : starEach (e :: es) X.env = (false, eval e X.env) :: starEach es X.env := by rfl) (hpl : (backTo pos (starEach es X.env)).any (·.1) = false := by rfl) : FX X np (.Call (.Name x p) (e :: es) [] pos) (fB g ow fs) :=
  PE.weak (pe_callB hc hgl hm hv ha hn hdb he hpl) fun _ _ _ h => byVals hg h
theorem fx_Ty {T : String} {x : Str} {p : Pos} {r : List V → Hp → VK → Prop} {g : List PyData → Option Res} {ow : Bool} (hc : CallR X (.type T) r) (hg : SndN X.K r g) (hm : X.mg x = none) (ha : FAX X np (e :: es) fs) (hv : bootBuiltins x = some (.type T) := by decide +kernel)
    (hgl : Gl X x := by rfl) (hn : x ≠ "__name__" := by decide) (hdb : (x == ("__debug__" : Str)) = false := by decide)
    (he : starEach (e :: es) X.env = (false, eval e X.env) :: starEach es X.env := by rfl) (hpl : (backTo pos (starEach es X.env)).any (·.1) = false := by rfl) : FX X np (.Call (.Name x p) (e :: es) [] pos) (fB g ow fs) :=
  PE.weak (pe_callTy hc hgl hm hv ha hn hdb he hpl) fun _ _ _ h => byVals hg h
/-- gcd, imported by the module -/
theorem fx_Bfun {id : String} {x : Str} {p : Pos} {r : List V → Hp → VK → Prop} {g : List PyData → Option Res} {ow : Bool} (hc : CallR X (.builtin id) r) (hg : SndN X.K r g) (hm : X.mg x = some (.builtin id)) (ha : FAX X np (e :: es) fs)
    (hgl : Gl X x := by rfl) (hdb : (x == ("__debug__" : Str)) = false := by decide)
    (he : starEach (e :: es) X.env = (false, eval e X.env) :: starEach es X.env := by rfl) (hpl : (backTo pos (starEach es X.env)).any (·.1) = false := by rfl) : FX X np (.Call (.Name x p) (e :: es) [] pos) (fB g ow fs) :=
  PE.weak (pe_callBfun hc hgl hm ha hdb he hpl) fun _ _ _ h => byVals hg h
end

section
variable {K : PySem.W.Frag} {O : Own} {H : Hp}
theorem VwA.one {d : PyData} {xs : List V} (h : VwA K O H [d] xs) : ∃ x, xs = [x] ∧ Vw K O H d x := by
  cases h with
  | cons r t => cases t; exact ⟨_, rfl, r⟩
theorem VwA.two {d e : PyData} {xs : List V} (h : VwA K O H [d, e] xs) : ∃ x y, xs = [x, y] ∧ Vw K O H d x ∧ Vw K O H e y := by
  cases h with
  | cons r t =>
    cases t with
    | cons r' t => cases t; exact ⟨_, _, rfl, r, r'⟩
def gLen : List PyData → Option Res
  | [.list xs] => some (.val (.int xs.length))
  | [.tuple xs] => some (.val (.int xs.length))
  | [.str x] => if x.length ≤ sizeLine then some (.val (.int x.length)) else none
  | _ => none
theorem snd_len : SndN K (fun xs H Q => ∃ x n, xs = [x] ∧ LenV K x H n ∧ Q (.int n) H) gLen := by
  intro O H xs ds s Q dom hx hg q
  unfold gLen at hg
  split at hg
  · cases hg
    obtain ⟨x, rfl, h⟩ := hx.one
    obtain ⟨a, ys, rfl, ha, fa⟩ := h
    exact ⟨_, ys.length, rfl, .inl ⟨ys, .of ha, rfl⟩, by rw [← fa.length]; exact okv dom q (.int _)⟩
  · cases hg
    obtain ⟨x, rfl, h⟩ := hx.one
    obtain ⟨a, ys, rfl, ha, fa⟩ := Fz.sqT h
    exact ⟨_, ys.length, rfl, .inr ⟨ys, ha, rfl⟩, by rw [← fa.length]; exact okv dom q (.int _)⟩
  · split at hg
    · rename_i h
      cases hg
      obtain ⟨x, rfl, h'⟩ := hx.one
      cases h'
      exact ⟨_, _, rfl, ⟨h, rfl⟩, okv dom q (.int _)⟩
    · cases hg
  · cases hg
def intsOf : List PyData → Option (List Int)
  | [] => some []
  | .int i :: r => (intsOf r).map fun l => i :: l
  | _ :: _ => none
theorem intsOf_to : ∀ {ds : List PyData} {ns : List Int}, intsOf ds = some ns → ds = ns.map .int
  | [], ns, e => by cases e; rfl
  | .int i :: r, ns, e => by
    obtain ⟨l, e1, e2⟩ := Option.map_eq_some_iff.mp e
    cases e2
    rw [intsOf_to e1]
    rfl
  | .none :: _, _, e => by cases e
  | .bool _ :: _, _, e => by cases e
  | .str _ :: _, _, e => by cases e
  | .list _ :: _, _, e => by cases e
  | .tuple _ :: _, _, e => by cases e
  | .dict _ :: _, _, e => by cases e
theorem intsOf_map (ns : List Int) : intsOf (ns.map .int) = some ns := by
  induction ns with
  | nil => rfl
  | cons n ns ih => simp [intsOf, ih]
theorem FzA.intsV : ∀ {ns : List Int} {vs : List V}, FzA K O H (ns.map .int) vs → vs = ns.map .int
  | [], _, h => by cases h; rfl
  | n :: ns, _, h => by
    cases h with
    | cons h1 h2 =>
      cases h1
      rw [FzA.intsV h2]
      rfl
def boolsOf : List PyData → Option (List Bool)
  | [] => some []
  | .bool i :: r => (boolsOf r).map fun l => i :: l
  | _ :: _ => none
theorem boolsOf_to : ∀ {ds : List PyData} {ns : List Bool}, boolsOf ds = some ns → ds = ns.map .bool
  | [], ns, e => by cases e; rfl
  | .bool i :: r, ns, e => by
    obtain ⟨l, e1, e2⟩ := Option.map_eq_some_iff.mp e
    cases e2
    rw [boolsOf_to e1]
    rfl
  | .none :: _, _, e => by cases e
  | .int _ :: _, _, e => by cases e
  | .str _ :: _, _, e => by cases e
  | .list _ :: _, _, e => by cases e
  | .tuple _ :: _, _, e => by cases e
  | .dict _ :: _, _, e => by cases e
theorem boolsOf_map (ns : List Bool) : boolsOf (ns.map .bool) = some ns := by
  induction ns with
  | nil => rfl
  | cons n ns ih => simp [boolsOf, ih]
theorem FzA.boolsV : ∀ {ns : List Bool} {vs : List V}, FzA K O H (ns.map .bool) vs → vs = ns.map .bl
  | [], _, h => by cases h; rfl
  | n :: ns, _, h => by
    cases h with
    | cons h1 h2 =>
      cases h1
      rw [FzA.boolsV h2]
      rfl
def gSum : List PyData → Option Res
  | [.list ds] => (intsOf ds).map fun ns => .val (.int ns.sum)
  | _ => none
theorem snd_sum : SndN K (rSum K) gSum := by
  intro O H xs ds s Q dom hx hg q
  unfold gSum at hg
  split at hg
  · obtain ⟨ns, e1, e2⟩ := Option.map_eq_some_iff.mp hg
    cases e2
    obtain ⟨x, rfl, a, ys, rfl, ha, fa⟩ := hx.one
    rw [intsOf_to e1] at fa
    rw [fa.intsV] at ha
    exact ⟨a, ns, rfl, .of ha, okv dom q (.int _)⟩
  · cases hg
def gAll : List PyData → Option Res
  | [.list ds] => (boolsOf ds).map fun bs => .val (.bool (bs.all id))
  | _ => none
theorem snd_all : SndN K (rAll K) gAll := by
  intro O H xs ds s Q dom hx hg q
  unfold gAll at hg
  split at hg
  · obtain ⟨ns, e1, e2⟩ := Option.map_eq_some_iff.mp hg
    cases e2
    obtain ⟨x, rfl, a, ys, rfl, ha, fa⟩ := hx.one
    rw [boolsOf_to e1] at fa
    rw [fa.boolsV] at ha
    exact ⟨a, ns, rfl, .of ha, okv dom q (.bl _)⟩
  · cases hg
def gAny : List PyData → Option Res
  | [.list ds] => (boolsOf ds).map fun bs => .val (.bool (bs.any id))
  | _ => none
theorem snd_any : SndN K (rAny K) gAny := by
  intro O H xs ds s Q dom hx hg q
  unfold gAny at hg
  split at hg
  · obtain ⟨ns, e1, e2⟩ := Option.map_eq_some_iff.mp hg
    cases e2
    obtain ⟨x, rfl, a, ys, rfl, ha, fa⟩ := hx.one
    rw [boolsOf_to e1] at fa
    rw [fa.boolsV] at ha
    exact ⟨a, ns, rfl, .of ha, okv dom q (.bl _)⟩
  · cases hg
def gInt : List PyData → Option Res
  | [.int i] => some (.val (.int i))
  | [.bool b] => some (.val (.int (if b then 1 else 0)))
  | _ => none
theorem snd_toInt : SndN K (fun xs H Q => (∃ i, xs = [.int i] ∧ Q (.int i) H) ∨ ∃ k, xs = [.bl k] ∧ Q (.int (if k then 1 else 0)) H) gInt := by
  intro O H xs ds s Q dom hx hg q
  unfold gInt at hg
  split at hg
  · cases hg
    obtain ⟨x, rfl, h⟩ := hx.one
    cases h
    exact .inl ⟨_, rfl, okv dom q (.int _)⟩
  · cases hg
    obtain ⟨x, rfl, h⟩ := hx.one
    cases h
    exact .inr ⟨_, rfl, okv dom q (.int _)⟩
  · cases hg
def gAbs : List PyData → Option Res
  | [.int i] => some (.val (.int (if i < 0 then -i else i)))
  | _ => none
theorem snd_abs : SndN K (fun xs H Q => ∃ i, xs = [.int i] ∧ Q (.int (if i < 0 then -i else i)) H) gAbs := by
  intro O H xs ds s Q dom hx hg q
  unfold gAbs at hg
  split at hg
  · cases hg
    obtain ⟨x, rfl, h⟩ := hx.one
    cases h
    exact ⟨_, rfl, okv dom q (.int _)⟩
  · cases hg
def gGcd : List PyData → Option Res
  | [.int i, .int j] => some (.val (.int ((Nat.gcd i.natAbs j.natAbs : Nat) : Int)))
  | _ => none
theorem snd_gcd : SndN K rGcd gGcd := by
  intro O H xs ds s Q dom hx hg q
  unfold gGcd at hg
  split at hg
  · cases hg
    obtain ⟨x, y, rfl, h, h'⟩ := hx.two
    cases h
    cases h'
    exact ⟨_, _, rfl, okv dom q (.int _)⟩
  · cases hg
/-- max and min of two ints, or of a list of them -/
def maxL : List Int → Int
  | [] => 0
  | [a] => a
  | a :: r => let m := maxL r; if a < m then m else a
def minL : List Int → Int
  | [] => 0
  | [a] => a
  | a :: r => let m := minL r; if m < a then m else a
theorem maxL_ok : ∀ {l : List Int}, l ≠ [] → maxL l ∈ l ∧ ∀ y ∈ l, y ≤ maxL l
  | [], h => absurd rfl h
  | [a], _ => by simp [maxL]
  | a :: b :: r, _ => by
    obtain ⟨h1, h2⟩ := maxL_ok (l := b :: r) (by simp)
    show (if a < maxL (b :: r) then maxL (b :: r) else a) ∈ _ ∧ ∀ y ∈ a :: b :: r, y ≤ (if a < maxL (b :: r) then maxL (b :: r) else a)
    split
    · rename_i h
      refine ⟨List.mem_cons_of_mem _ h1, fun y hy => ?_⟩
      rcases List.mem_cons.mp hy with rfl | hy
      · omega
      · exact h2 y hy
    · rename_i h
      refine ⟨List.mem_cons_self, fun y hy => ?_⟩
      rcases List.mem_cons.mp hy with rfl | hy
      · omega
      · have := h2 y hy
        omega
theorem minL_ok : ∀ {l : List Int}, l ≠ [] → minL l ∈ l ∧ ∀ y ∈ l, minL l ≤ y
  | [], h => absurd rfl h
  | [a], _ => by simp [minL]
  | a :: b :: r, _ => by
    obtain ⟨h1, h2⟩ := minL_ok (l := b :: r) (by simp)
    show (if minL (b :: r) < a then minL (b :: r) else a) ∈ _ ∧ ∀ y ∈ a :: b :: r, (if minL (b :: r) < a then minL (b :: r) else a) ≤ y
    split
    · rename_i h
      refine ⟨List.mem_cons_of_mem _ h1, fun y hy => ?_⟩
      rcases List.mem_cons.mp hy with rfl | hy
      · omega
      · exact h2 y hy
    · rename_i h
      refine ⟨List.mem_cons_self, fun y hy => ?_⟩
      rcases List.mem_cons.mp hy with rfl | hy
      · omega
      · have := h2 y hy
        omega
def gMax2 : List PyData → Option Res
  | [.int i, .int j] => some (.val (.int (if j > i then j else i)))
  | _ => none
def gMin2 : List PyData → Option Res
  | [.int i, .int j] => some (.val (.int (if j < i then j else i)))
  | _ => none
def gMaxL : List PyData → Option Res
  | [.list ds] => (intsOf ds).bind fun ns => if ns = [] then none else some (.val (.int (maxL ns)))
  | _ => none
def gMinL : List PyData → Option Res
  | [.list ds] => (intsOf ds).bind fun ns => if ns = [] then none else some (.val (.int (minL ns)))
  | _ => none
theorem snd_max2 : SndN K (fun xs H Q => ∃ i j, xs = [.int i, .int j] ∧ Q (.int (if j > i then j else i)) H) gMax2 := by
  intro O H xs ds s Q dom hx hg q
  unfold gMax2 at hg
  split at hg
  · cases hg
    obtain ⟨x, y, rfl, h, h'⟩ := hx.two
    cases h
    cases h'
    exact ⟨_, _, rfl, okv dom q (.int _)⟩
  · cases hg
theorem snd_min2 : SndN K (fun xs H Q => ∃ i j, xs = [.int i, .int j] ∧ Q (.int (if j < i then j else i)) H) gMin2 := by
  intro O H xs ds s Q dom hx hg q
  unfold gMin2 at hg
  split at hg
  · cases hg
    obtain ⟨x, y, rfl, h, h'⟩ := hx.two
    cases h
    cases h'
    exact ⟨_, _, rfl, okv dom q (.int _)⟩
  · cases hg
theorem snd_maxL : SndN K (rMax K) gMaxL := by
  intro O H xs ds s Q dom hx hg q
  unfold gMaxL at hg
  split at hg
  · obtain ⟨ns, e1, e2⟩ := Option.bind_eq_some_iff.mp hg
    split at e2
    · cases e2
    · rename_i hn
      cases e2
      obtain ⟨x, rfl, a, ys, rfl, ha, fa⟩ := hx.one
      rw [intsOf_to e1] at fa
      rw [fa.intsV] at ha
      refine ⟨a, ns, rfl, .of ha, List.length_pos_iff.mpr hn, fun m hm hle => ?_⟩
      obtain ⟨k1, k2⟩ := maxL_ok hn
      have : m = maxL ns := Int.le_antisymm (k2 m hm) (hle _ k1)
      rw [this]
      exact okv dom q (.int _)
  · cases hg
theorem snd_minL : SndN K (rMin K) gMinL := by
  intro O H xs ds s Q dom hx hg q
  unfold gMinL at hg
  split at hg
  · obtain ⟨ns, e1, e2⟩ := Option.bind_eq_some_iff.mp hg
    split at e2
    · cases e2
    · rename_i hn
      cases e2
      obtain ⟨x, rfl, a, ys, rfl, ha, fa⟩ := hx.one
      rw [intsOf_to e1] at fa
      rw [fa.intsV] at ha
      refine ⟨a, ns, rfl, .of ha, List.length_pos_iff.mpr hn, fun m hm hle => ?_⟩
      obtain ⟨k1, k2⟩ := minL_ok hn
      have : m = minL ns := Int.le_antisymm (hle _ k1) (k2 m hm)
      rw [this]
      exact okv dom q (.int _)
  · cases hg
/-- list(x), tuple(x) -/
def gToL : List PyData → Option Res
  | [.list ds] => some (.new ds)
  | [.tuple ds] => some (.new ds)
  | _ => none
def gToT : List PyData → Option Res
  | [.list ds] => some (.val (.tuple ds))
  | [.tuple ds] => some (.val (.tuple ds))
  | _ => none
theorem snd_toL : SndN K (fun xs H Q => ∃ p ys, xs = [.ref p] ∧ (SqL K H p ys ∨ SqT K H p ys) ∧ ∀ l, H l = none → Q (.ref l) (upd H l (.lst ys))) gToL := by
  intro O H xs ds s Q dom hx hg q
  unfold gToL at hg
  split at hg
  · cases hg
    obtain ⟨x, rfl, a, ys, rfl, ha, fa⟩ := hx.one
    exact ⟨a, ys, rfl, .inl (.of ha), fun l hl => okn q hl fa⟩
  · cases hg
    obtain ⟨x, rfl, h⟩ := hx.one
    obtain ⟨a, ys, rfl, ha, fa⟩ := Fz.sqT h
    exact ⟨a, ys, rfl, .inr ha, fun l hl => okn q hl fa⟩
  · cases hg
theorem snd_toT : SndN K (fun xs H Q => ∃ p ys, xs = [.ref p] ∧ ((SqL K H p ys ∧ ∀ l, H l = none → Q (.ref l) (upd H l (.tup ys))) ∨ (SqT K H p ys ∧ Q (.ref p) H))) gToT := by
  intro O H xs ds s Q dom hx hg q
  unfold gToT at hg
  split at hg
  · cases hg
    obtain ⟨x, rfl, a, ys, rfl, ha, fa⟩ := hx.one
    exact ⟨a, ys, rfl, .inl ⟨.of ha, fun l hl => okt dom q hl fa⟩⟩
  · cases hg
    obtain ⟨x, rfl, h⟩ := hx.one
    have h' := h
    obtain ⟨a, ys, rfl, ha, fa⟩ := Fz.sqT h
    exact ⟨a, ys, rfl, .inr ⟨ha, okv dom q h'⟩⟩
  · cases hg
/-- sorted of ints -/
def srtI (ns : List Int) : List Int := ns.mergeSort fun a b => decide (a ≤ b)
theorem srtI_perm (ns : List Int) : (srtI ns).Perm ns := List.mergeSort_perm ..
theorem srtI_up (ns : List Int) : (srtI ns).Pairwise (· ≤ ·) := by
  have h := List.pairwise_mergeSort (le := fun a b : Int => decide (a ≤ b)) (by intro a b c h1 h2; simp at *; omega) (by intro a b; simp; omega) ns
  exact h.imp fun h => by simpa using h
theorem up_unique {as bs : List Int} (h : as.Perm bs) (ha : as.Pairwise (· ≤ ·)) (hb : bs.Pairwise (· ≤ ·)) : as = bs :=
  List.Perm.eq_of_pairwise (fun a b _ _ h1 h2 => Int.le_antisymm h1 h2) ha hb h
def gSortI : List PyData → Option Res
  | [.list ds] => (intsOf ds).map fun ns => .new ((srtI ns).map .int)
  | _ => none
theorem snd_sortI : SndN K (rSortedI K) gSortI := by
  intro O H xs ds s Q dom hx hg q
  unfold gSortI at hg
  split at hg
  · obtain ⟨ns, e1, e2⟩ := Option.map_eq_some_iff.mp hg
    cases e2
    obtain ⟨x, rfl, a, ys, rfl, ha, fa⟩ := hx.one
    rw [intsOf_to e1] at fa
    rw [fa.intsV] at ha
    refine ⟨a, ns, rfl, .of ha, fun ns' p hp hu hn => ?_⟩
    have : ns' = srtI ns := up_unique (hp.trans (srtI_perm ns).symm) hu (srtI_up ns)
    rw [this]
    exact okn q hn (FzA.ints _)
  · cases hg
end
end Fx

end

/-! Fx6: statements, targets, loops, comprehensions -/
noncomputable section
namespace Fx
open PySem PySem.Spec PyProof.Rows L2

section
variable {K : PySem.W.Frag} {np : Nat} {W : Wd} {O O' : Own} {σ σ' : L2.St} {H H' : Hp} {Γ Γ' : Gm}
theorem Tm.evD (k : Kp O H O' H') : ∀ {vs : List V} {ds : List PyData}, Tm K O H σ Γ vs (tsd ds) → Tm K O' H' σ' Γ' vs (tsd ds)
  | [], [], _ => True.intro
  | v :: vs, d :: ds, h => ⟨Fz.kp k _ _ h.1, Tm.evD k (vs := vs) (ds := ds) h.2⟩
  | [], _ :: _, h => h.elim
  | _ :: _, [], h => h.elim
/-- the top temporary is stored in a slot -/
theorem Cf.store {vs : List V} {ds : List PyData} {v : V} {m : MD} {i : Nat} (c : Cf K np W O σ H Γ (v :: vs) (.md m :: tsd ds)) (h : ¬ (m.own = true ∧ i < np)) : Cfg K np W (σ.set i (some v)) H (Γ.set i (some m)) vs (tsd ds) := by
  have a : Ev (· = .tmp (tsd ds).length) O H (retag O (.tmp (tsd ds).length) (some (.slot i))) H := Ev.retag (by simp) c.dom
  have r : MR K (retag O (.tmp (tsd ds).length) (some (.slot i))) H (.slot i) m v := MR.move c.dom (by simp) c.top
  refine ⟨_, a.dom, fun j m' e => ?_, Tm.evD a.k c.pop.tm, (c.pop.ev a (by simp) (by simp) (fun k z => by injection z with z; omega)).keep, fun b hb => c.out b (a.out b hb), c.wt, fun j m' hj e ho => ?_, by rw [List.length_set, List.length_set]; exact c.len⟩
  · by_cases ji : i = j
    · subst ji
      by_cases hl : i < Γ.length
      · rw [List.getElem?_set_self hl] at e
        cases e
        exact ⟨v, List.getElem?_set_self (by rw [← c.len]; exact hl), r⟩
      · rw [List.getElem?_eq_none (by rw [List.length_set]; omega)] at e
        cases e
    · rw [List.getElem?_set_ne ji] at e
      obtain ⟨w, e1, r1⟩ := c.sl j m' e
      exact ⟨w, by rw [List.getElem?_set_ne ji]; exact e1, r1.ev a (by simp)⟩
  · by_cases ji : i = j
    · subst ji
      by_cases hl : i < Γ.length
      · rw [List.getElem?_set_self hl] at e
        cases e
        exact absurd ⟨ho, hj⟩ h
      · rw [List.getElem?_eq_none (by rw [List.length_set]; omega)] at e
        cases e
    · rw [List.getElem?_set_ne ji] at e
      rw [List.getElem?_set_ne ji]
      exact c.arg j m' hj e ho
/-- the same of plain data, whatever the temporaries are: the slot owns nothing -/
def ownAt (Γ : Gm) (i : Nat) : Bool := match Γ[i]? with
  | some (some m) => m.own
  | _ => false
theorem Tm.setD {vs : List V} {ts : List TV} {i : Nat} {d : PyData} {v : V} (n : ownAt Γ i = false) : ∀ {vs : List V} {ts : List TV}, Tm K O H σ Γ vs ts → Tm K O H (σ.set i (some v)) (Γ.set i (some (.dat d))) vs ts
  | [], [], _ => True.intro
  | w :: vs, t :: ts, h => by
    refine ⟨?_, Tm.setD (vs := vs) (ts := ts) n h.2⟩
    have h1 := h.1
    cases t with
    | md m => exact h1
    | al j =>
      obtain ⟨e, m, e1, e2⟩ := h1
      have ne : i ≠ j := fun z => by
        subst z
        simp only [ownAt, e1] at n
        rw [n] at e2
        cases e2
      exact ⟨by rw [List.getElem?_set_ne ne]; exact e, m, by rw [List.getElem?_set_ne ne]; exact e1, e2⟩
  | [], _ :: _, h => h.elim
  | _ :: _, [], h => h.elim
theorem Cf.storeD {vs : List V} {ts : List TV} {v : V} {d : PyData} {i : Nat} (c : Cf K np W O σ H Γ (v :: vs) (.md (.dat d) :: ts)) (n : ownAt Γ i = false) : Cf K np W O (σ.set i (some v)) H (Γ.set i (some (.dat d))) vs ts := by
  refine ⟨c.dom, fun j m' e => ?_, Tm.setD (vs := vs) (ts := ts) n c.pop.tm, c.keep, c.out, c.wt, fun j m' hj e ho => ?_, by rw [List.length_set, List.length_set]; exact c.len⟩
  · by_cases ji : i = j
    · subst ji
      by_cases hl : i < Γ.length
      · rw [List.getElem?_set_self hl] at e
        cases e
        exact ⟨v, List.getElem?_set_self (by rw [← c.len]; exact hl), c.top⟩
      · rw [List.getElem?_eq_none (by rw [List.length_set]; omega)] at e
        cases e
    · rw [List.getElem?_set_ne ji] at e
      obtain ⟨w, e1, r1⟩ := c.sl j m' e
      exact ⟨w, by rw [List.getElem?_set_ne ji]; exact e1, r1⟩
  · by_cases ji : i = j
    · subst ji
      by_cases hl : i < Γ.length
      · rw [List.getElem?_set_self hl] at e
        cases e
        cases ho
      · rw [List.getElem?_eq_none (by rw [List.length_set]; omega)] at e
        cases e
    · rw [List.getElem?_set_ne ji] at e
      rw [List.getElem?_set_ne ji]
      exact c.arg j m' hj e ho
/-- slots are forgotten -/
def fgt (Γ : Gm) : List Nat → Gm
  | [] => Γ
  | i :: is => (fgt Γ is).set i none
theorem fgt_len (Γ : Gm) : ∀ is, (fgt Γ is).length = Γ.length
  | [] => rfl
  | i :: is => by rw [fgt, List.length_set, fgt_len Γ is]
theorem fgt_some {Γ : Gm} {j : Nat} {m : MD} : ∀ {is : List Nat}, (fgt Γ is)[j]? = some (some m) → Γ[j]? = some (some m) ∧ j ∉ is
  | [], h => ⟨h, by simp⟩
  | i :: is, h => by
    unfold fgt at h
    by_cases e : i = j
    · subst e
      by_cases hl : i < (fgt Γ is).length
      · rw [List.getElem?_set_self hl] at h; cases h
      · rw [List.getElem?_eq_none (by rw [List.length_set]; omega)] at h; cases h
    · rw [List.getElem?_set_ne e] at h
      obtain ⟨h1, h2⟩ := fgt_some h
      exact ⟨h1, by simp only [List.mem_cons, not_or]; exact ⟨fun z => e z.symm, h2⟩⟩
theorem Cf.forget {vs : List V} {ds : List PyData} (is : List Nat) (c : Cf K np W O σ H Γ vs (tsd ds)) : Cf K np W O σ H (fgt Γ is) vs (tsd ds) :=
  ⟨c.dom, fun j m e => c.sl j m (fgt_some e).1, Tm.evD (Kp.refl _ _) c.tm, c.keep, c.out, c.wt, fun j m hj e => c.arg j m hj (fgt_some e).1, by rw [fgt_len]; exact c.len⟩
/-- what a slot owns is frozen -/
theorem Cf.freeze {vs : List V} {ds : List PyData} {i : Nat} {m : MD} {d : PyData} (c : Cf K np W O σ H Γ vs (tsd ds)) (e : Γ[i]? = some (some m)) (f : m.flat = some d) : Cfg K np W σ H (Γ.set i (some (.dat d))) vs (tsd ds) := by
  have a : Ev (· = .slot i) O H (retag O (.slot i) none) H := Ev.retag (by simp) c.dom
  obtain ⟨v, hv, r⟩ := c.sl i m e
  have hl : i < Γ.length := (List.getElem?_eq_some_iff.mp e).1
  refine ⟨_, a.dom, fun j m' e' => ?_, Tm.evD a.k c.tm, fun b o h n => ?_, fun b hb => c.out b (a.out b hb), c.wt, fun j m' hj e' ho => ?_, by rw [List.length_set]; exact c.len⟩
  · by_cases ji : i = j
    · subst ji
      rw [List.getElem?_set_self hl] at e'
      cases e'
      exact ⟨v, hv, MR.freeze c.dom r f⟩
    · rw [List.getElem?_set_ne ji] at e'
      obtain ⟨w, e1, r1⟩ := c.sl j m' e'
      exact ⟨w, e1, r1.ev a (by simpa using fun z => ji z.symm)⟩
  · obtain ⟨h1, e1⟩ := c.keep b o h n
    obtain ⟨h2, e2⟩ := a.kp b o h1 fun t q z => by
      subst z
      rw [e1] at q
      exact n i q
    exact ⟨h2, e2.trans e1⟩
  · by_cases ji : i = j
    · subst ji
      rw [List.getElem?_set_self hl] at e'
      cases e'
      cases ho
    · rw [List.getElem?_set_ne ji] at e'
      exact c.arg j m' hj e' ho
/-- what a slot holds goes over to a temporary -/
theorem Cf.take {vs : List V} {ds : List PyData} {i : Nat} {m : MD} {v : V} (c : Cf K np W O σ H Γ vs (tsd ds)) (e : Γ[i]? = some (some m)) (ev : σ[i]? = some (some v)) : Cfg K np W σ H (Γ.set i none) (v :: vs) (.md m :: tsd ds) := by
  have a : Ev (· = .slot i) O H (retag O (.slot i) (some (.tmp (tsd ds).length))) H := Ev.retag (by simp) c.dom
  obtain ⟨v', hv, r⟩ := c.sl i m e
  rw [ev] at hv
  cases hv
  have hl : i < Γ.length := (List.getElem?_eq_some_iff.mp e).1
  refine ⟨_, a.dom, fun j m' e' => ?_, ⟨MR.move c.dom (by simp) r, Tm.evD a.k c.tm⟩, fun b o h n => ?_, fun b hb => c.out b (a.out b hb), c.wt, fun j m' hj e' ho => ?_, by rw [List.length_set]; exact c.len⟩
  · by_cases ji : i = j
    · subst ji
      rw [List.getElem?_set_self hl] at e'
      cases e'
    · rw [List.getElem?_set_ne ji] at e'
      obtain ⟨w, e1, r1⟩ := c.sl j m' e'
      exact ⟨w, e1, r1.ev a (by simpa using fun z => ji z.symm)⟩
  · obtain ⟨h1, e1⟩ := c.keep b o h n
    obtain ⟨h2, e2⟩ := a.kp b o h1 fun t q z => by
      subst z
      rw [e1] at q
      exact n i q
    exact ⟨h2, e2.trans e1⟩
  · by_cases ji : i = j
    · subst ji
      rw [List.getElem?_set_self hl] at e'
      cases e'
    · rw [List.getElem?_set_ne ji] at e'
      exact c.arg j m' hj e' ho
/-- the second temporary is dropped -/
theorem Cf.under {vs : List V} {ds : List PyData} {m : MD} {v w : V} {d : PyData} (c : Cf K np W O σ H Γ (v :: w :: vs) (.md m :: tsd (d :: ds))) : Cfg K np W σ H Γ (v :: vs) (.md m :: tsd ds) := by
  have a : Ev (· = .tmp (tsd (d :: ds)).length) O H (retag O (.tmp (tsd (d :: ds)).length) (some (.tmp (tsd ds).length))) H := Ev.retag (by simp) c.dom
  have c2 := c.pop.pop.ev a (by simp) (by simp) (fun k z => by injection z with z; simp [tsd] at z ⊢; omega)
  exact ⟨_, c2.push (MR.move c.dom (by simp) c.top)⟩
/-- what is owned by the top temporary is frozen -/
theorem Cf.frzTop {vs : List V} {ts : List TV} {m : MD} {v : V} {d : PyData} (c : Cf K np W O σ H Γ (v :: vs) (.md m :: ts)) (f : m.flat = some d) : Cfg K np W σ H Γ (v :: vs) (.md (.dat d) :: ts) := by
  have a : Ev (· = .tmp ts.length) O H (retag O (.tmp ts.length) none) H := Ev.retag (by simp) c.dom
  have c2 := c.pop.ev a (by simp) (by simp) (fun k z => by injection z with z; omega)
  exact ⟨_, c2.push (MR.freeze c.dom c.top f)⟩
end

/-! ### statements -/
section
variable {X : Cx} {np : Nat} {e : Expr} {pos : Pos} {f : FE} {g h : FS} {st : Stmt} {rest : List Stmt}
def fSet (np i : Nat) (f : FE) : FS := fun Γ => (f Γ).bind fun p => match p.1 with
  | .md m => if m.own = true ∧ i < np then none else some (.nx (p.2.set i (some m)))
  | .al _ => none
theorem fs_set {i : Nat} {x : Str} {pos' : Pos} (hN : X.N.Nodup) (he : FX X np e f) (hi : X.N[i]? = some x := by rfl) (hx : Loc X.env.scope x := by first | exact Or.inl rfl | exact Or.inr rfl) (hs : swapsWith e (some (.Name x pos')) pos.line X.env = pure false := by rfl)
    (hf : X.fn x = true ∨ X.env.scope.names.lookup x = some .local := by first | exact .inl rfl | exact .inr rfl | assumption) : FSX X np (.Assign [.Name x pos'] e pos) (fSet np i f) := by
  refine PS.weak (ps_set hN hi hx he hs hf) fun D σ H h => ?_
  obtain ⟨W, Γ, vs, ds, o, c, e, q⟩ := h
  obtain ⟨⟨t, Γ1⟩, e1, e⟩ := Option.bind_eq_some_iff.mp e
  refine ⟨W, Γ, vs, tsd ds, t, Γ1, c, e1, fun v H1 c1 => ?_⟩
  obtain ⟨O, c1⟩ := c1
  cases t with
  | md m =>
    dsimp only at e
    split at e
    · cases e
    · rename_i hm
      cases e
      exact q _ _ (c1.store hm)
  | al j => cases e
def fDrop (f : FE) : FS := fun Γ => (f Γ).map fun p => .nx p.2
theorem fs_expr (he : FX X np e f) (hs : swapsWith e none pos.line X.env = pure false := by rfl) : FSX X np (.Expr e pos) (fDrop f) := by
  refine PS.weak (ps_expr he hs) fun D σ H h => ?_
  obtain ⟨W, Γ, vs, ds, o, c, e, q⟩ := h
  obtain ⟨⟨t, Γ1⟩, e1, e⟩ := Option.map_eq_some_iff.mp e
  cases e
  refine ⟨W, Γ, vs, tsd ds, t, Γ1, c, e1, fun v H1 c1 => ?_⟩
  obtain ⟨O, c1⟩ := c1
  exact q σ H1 ⟨O, c1.pop⟩
theorem fs_doc {x j} {pos pos' : Pos} : FSX X np (.Expr (.Constant (.str x) j pos) pos') (fun Γ => some (.nx Γ)) := by
  refine PS.weak ps_doc fun D σ H h => ?_
  obtain ⟨W, Γ, vs, ds, o, c, e, q⟩ := h
  cases e
  exact q σ H c
/-- return: fz, whether what is owned becomes plain data -/
def fRet (np : Nat) (fz : Bool) (f : FE) : FS := fun Γ => (f Γ).bind fun p => match p.1 with
  | .md m => if fz then m.flat.map fun d => .rt (.dat d) p.2 else some (.rt m p.2)
  | .al i => match p.2[i]? with
    | some (some m) => if fz then m.flat.map fun d => .rt (.dat d) (p.2.set i none) else some (.rt m (p.2.set i none))
    | _ => none
theorem fs_ret {fz : Bool} (he : FX X np e f) : FSX X np (.Return (some e) pos) (fRet np fz f) := by
  refine PS.weak (ps_ret he) fun D σ H h => ?_
  obtain ⟨W, Γ, vs, ds, o, c, e, q⟩ := h
  obtain ⟨⟨t, Γ1⟩, e1, e⟩ := Option.bind_eq_some_iff.mp e
  refine ⟨W, Γ, vs, tsd ds, t, Γ1, c, e1, fun v H1 c1 => ?_⟩
  obtain ⟨O, c1⟩ := c1
  cases t with
  | md m =>
    dsimp only at e
    cases fz with
    | true =>
      rw [if_pos rfl] at e
      obtain ⟨d, e2, e3⟩ := Option.map_eq_some_iff.mp e
      cases e3
      exact q v σ H1 (c1.frzTop e2)
    | false =>
      rw [if_neg (by simp)] at e
      cases e
      exact q v σ H1 ⟨O, c1⟩
  | al i =>
    dsimp only at e
    split at e
    · rename_i m hm
      obtain ⟨ev, _⟩ := c1.top
      obtain ⟨O2, c2⟩ := c1.pop.take hm ev
      cases fz with
      | true =>
        rw [if_pos rfl] at e
        obtain ⟨d, e2, e3⟩ := Option.map_eq_some_iff.mp e
        cases e3
        exact q v σ H1 (c2.frzTop e2)
      | false =>
        rw [if_neg (by simp)] at e
        cases e
        exact q v σ H1 ⟨O2, c2⟩
    · cases e
theorem fs_retN : FSX X np (.Return none pos) (fun Γ => some (.rt (.dat .none) Γ)) := by
  refine PS.weak ps_retN fun D σ H h => ?_
  obtain ⟨W, Γ, vs, ds, o, ⟨O, c⟩, e, q⟩ := h
  cases e
  exact q _ σ H ⟨O, c.push .non⟩
theorem fs_pass : FSX X np (.Pass pos) (fun Γ => some (.nx Γ)) := by
  refine PS.weak ps_pass fun D σ H h => ?_
  obtain ⟨W, Γ, vs, ds, o, c, e, q⟩ := h
  cases e
  exact q σ H c
theorem fs_break : FSX X np (.Break pos) (fun Γ => some (.bk Γ)) := by
  refine PS.weak ps_break fun D σ H h => ?_
  obtain ⟨W, Γ, vs, ds, o, c, e, q⟩ := h
  cases e
  exact q σ H c
theorem fs_continue : FSX X np (.Continue pos) (fun Γ => some (.ct Γ)) := by
  refine PS.weak ps_continue fun D σ H h => ?_
  obtain ⟨W, Γ, vs, ds, o, c, e, q⟩ := h
  cases e
  exact q σ H c
def fNil : FS := fun Γ => some (.nx Γ)
def fSeq (g h : FS) : FS := fun Γ => (g Γ).bind fun o => match o with
  | .nx Γ1 => h Γ1
  | o => some o
theorem fss_nil : FSsX X np [] fNil := by
  refine PSs.weak pss_nil fun D σ H h => ?_
  obtain ⟨W, Γ, vs, ds, o, c, e, q⟩ := h
  cases e
  exact q σ H c
theorem fss_one (h1 : FSX X np st g) : FSsX X np [st] g := pss_one h1
theorem fss_cons (h1 : FSX X np st g) (h2 : FSsX X np rest h) : FSsX X np (st :: rest) (fSeq g h) := by
  refine PSs.weak (pss_cons h1 h2) fun D σ H hh => ?_
  obtain ⟨W, Γ, vs, ds, o, c, e, q⟩ := hh
  obtain ⟨o1, e1, e⟩ := Option.bind_eq_some_iff.mp e
  refine ⟨W, Γ, vs, ds, o1, c, e1, ?_⟩
  cases o1 with
  | nx Γ1 => exact fun σ' H' c' => ⟨W, Γ1, vs, ds, o, c', e, q⟩
  | rt m Γ1 => cases e; exact q
  | bk Γ1 => cases e; exact q
  | ct Γ1 => cases e; exact q
/-- a block behind which slots are forgotten; ahead of which a slot is frozen -/
def fgtO (is : List Nat) : Out → Out
  | .nx Γ => .nx (fgt Γ is)
  | .bk Γ => .bk (fgt Γ is)
  | .ct Γ => .ct (fgt Γ is)
  | .rt m Γ => .rt m Γ
def fFgt (is : List Nat) (g : FS) : FS := fun Γ => (g Γ).map (fgtO is)
theorem fss_fgt (is : List Nat) {ss : List Stmt} (h1 : FSsX X np ss g) : FSsX X np ss (fFgt is g) := by
  refine PSs.weak h1 fun D σ H h => ?_
  obtain ⟨W, Γ, vs, ds, o, c, e, q⟩ := h
  obtain ⟨o1, e1, e⟩ := Option.map_eq_some_iff.mp e
  subst e
  refine ⟨W, Γ, vs, ds, o1, c, e1, ?_⟩
  cases o1 with
  | nx Γ1 => exact fun σ' H' ⟨O, c'⟩ => q σ' H' ⟨O, c'.forget is⟩
  | rt m Γ1 => exact q
  | bk Γ1 => exact fun σ' H' ⟨O, c'⟩ => q σ' H' ⟨O, c'.forget is⟩
  | ct Γ1 => exact fun σ' H' ⟨O, c'⟩ => q σ' H' ⟨O, c'.forget is⟩
def fFrz (i : Nat) (g : FS) : FS := fun Γ => match Γ[i]? with
  | some (some m) => m.flat.bind fun d => g (Γ.set i (some (.dat d)))
  | _ => none
theorem fss_frz (i : Nat) {ss : List Stmt} (h1 : FSsX X np ss g) : FSsX X np ss (fFrz i g) := by
  refine PSs.weak h1 fun D σ H h => ?_
  obtain ⟨W, Γ, vs, ds, o, ⟨O, c⟩, e, q⟩ := h
  unfold fFrz at e
  split at e
  · rename_i m hm
    obtain ⟨d, e1, e⟩ := Option.bind_eq_some_iff.mp e
    exact ⟨W, _, vs, ds, o, c.freeze hm e1, e, q⟩
  · cases e
def fIf (tc : FT) (g h : FS) : FS := fun Γ => (tc Γ).bind fun p => if p.1 = true then g p.2 else h p.2
theorem fs_if {c : Expr} {a b : List Stmt} {tc : FT} (hc : FTX X np c tc) (ha : FSsX X np a g) (hb : FSsX X np b h) : FSX X np (.If c a b pos) (fIf tc g h) := by
  refine PS.weak (ps_if hc ha hb) fun D σ H hh => ?_
  obtain ⟨W, Γ, vs, ds, o, c, e, q⟩ := hh
  obtain ⟨⟨b1, Γ1⟩, e1, e⟩ := Option.bind_eq_some_iff.mp e
  refine ⟨W, Γ, vs, tsd ds, b1, Γ1, c, e1, fun H1 c1 => ?_⟩
  cases b1 with
  | true => exact iteT ⟨W, Γ1, vs, ds, o, c1, by simpa using e, q⟩
  | false => exact iteF ⟨W, Γ1, vs, ds, o, c1, by simpa using e, q⟩
/-! ### while -/
def fWhile (c : FT) (b : FS) : Nat → FS
  | 0 => fun _ => none
  | n + 1 => fun Γ => (c Γ).bind fun p => if p.1 = true then (b p.2).bind fun o => match o with
      | .nx Γ1 => fWhile c b n Γ1
      | .ct Γ1 => fWhile c b n Γ1
      | .bk Γ1 => some (.nx Γ1)
      | .rt m Γ1 => some (.rt m Γ1)
    else some (.nx p.2)
theorem fs_while {c : Expr} {body : List Stmt} {tc : FT} (n : Nat) (hp : PassesOwn (model X.prog X.w) X.A X.env X.xe) (hc : FTX X np c tc) (hb : FSsX X np body g) : FSX X np (.While c body [] pos) (fWhile tc g n) := by
  refine PS.weak (ps_while hp hc hb) fun D σ H h => ?_
  obtain ⟨W, Γ, vs, ds, o, c, e, q⟩ := h
  refine ⟨fun m σ H => ∃ Γ, Cfg X.K np W σ H Γ vs (tsd ds) ∧ fWhile tc g m Γ = some o, ⟨n, Γ, c, e⟩, ?_⟩
  rintro m σ H ⟨Γ, c, e⟩
  cases m with
  | zero => cases e
  | succ m =>
    obtain ⟨⟨b1, Γ1⟩, e1, e⟩ := Option.bind_eq_some_iff.mp e
    refine ⟨W, Γ, vs, tsd ds, b1, Γ1, c, e1, fun H1 c1 => ?_⟩
    cases b1 with
    | false =>
      refine iteF ?_
      have e' : Out.nx Γ1 = o := by simpa using e
      subst e'
      exact q σ H1 c1
    | true =>
      refine iteT ⟨fun σ H => ∃ Γ, Cfg X.K np W σ H Γ vs (tsd ds) ∧ fWhile tc g m Γ = some o, fun σ' H' w => ⟨m, Nat.lt_succ_self _, w⟩, ?_⟩
      rw [if_pos rfl] at e
      obtain ⟨o1, e2, e⟩ := Option.bind_eq_some_iff.mp e
      refine ⟨W, Γ1, vs, ds, o1, c1, e2, ?_⟩
      cases o1 with
      | nx Γ2 => exact fun σ' H' c' => ⟨Γ2, c', e⟩
      | ct Γ2 => exact fun σ' H' c' => ⟨Γ2, c', e⟩
      | bk Γ2 => cases e; exact q
      | rt r Γ2 => cases e; exact q
end
end Fx

end

/-! Fx7: targets, what is walked, for, list comprehensions -/
noncomputable section
namespace Fx
open PySem PySem.Spec PyProof.Rows L2

/-- an iterator as a list of data, in every state behind (O1, H1) that has what nobody owns as it was -/
def ItF (K : PySem.W.Frag) (J : It) (O1 : Own) (H1 : Hp) (items : List PyData) : Prop :=
  ∀ (O : Own) (H : Hp) (i : Nat), (∀ b t, O b = some t → H b ≠ none) → Kp O1 H1 O H →
    (∀ d, items[i]? = some d → J.go i H ∧ ∀ x H', J.yld i H x H' → Ev J0 O H O H' ∧ Fz K O H' d x) ∧ (items.length ≤ i → J.stop i H)
abbrev FI := Gm → Option (List PyData × Gm)
def upI (K : PySem.W.Frag) (np : Nat) (f : FI) : TI := fun σ H R => ∃ W Γ vs ts items Γ', Cfg K np W σ H Γ vs ts ∧ f Γ = some (items, Γ') ∧
  ∀ J O' H', Cf K np W O' σ H' Γ' vs ts → ItF K J O' H' items → R J H'
def FIX (X : Cx) (np : Nat) (tg iter : Expr) (f : FI) : Prop := PI X tg iter (upI X.K np f)
theorem PI.weak {X : Cx} {tg e : Expr} {t t' : TI} (h : PI X tg e t) (w : ∀ σ H R, t' σ H R → t σ H R) : PI X tg e t' := ⟨fun pins s σ H R I q => h.run pins s σ H R I (w σ H R q)⟩
theorem PI.or {X : Cx} {tg e : Expr} {t t' : TI} (h : PI X tg e t) (h' : PI X tg e t') : PI X tg e (fun σ H R => t σ H R ∨ t' σ H R) := ⟨fun pins s σ H R I q => q.elim (h.run pins s σ H R I) (h'.run pins s σ H R I)⟩

/-- a new entry: what is held now by nobody stays -/
def Wd.at (W : Wd) (O : Own) (H : Hp) : Wd := ⟨H, fun b => match O b with
  | some (.tmp _) => some (.slot 0)
  | x => x, W.σ⟩
section
variable {K : PySem.W.Frag} {np : Nat} {W : Wd} {O O' : Own} {σ σ' : L2.St} {H H' : Hp} {Γ Γ' : Gm} {vs vs' : List V} {ts ts' : List TV}
theorem Cf.rebase (c : Cf K np W O σ H Γ vs ts) : Cf K np (W.at O H) O σ H Γ vs ts where
  dom := c.dom
  sl := c.sl
  tm := c.tm
  keep := fun b o h n => by
    refine ⟨h, ?_⟩
    show O b = _
    unfold Wd.at at n ⊢
    dsimp only at n ⊢
    split
    · rename_i k e
      rw [e] at n
      exact absurd rfl (n 0)
    · rfl
  out := fun b h => by
    show (Wd.at W O H).O b = _
    unfold Wd.at
    simp only [h]
  wt := fun b k h => by
    unfold Wd.at at h
    dsimp only at h
    split at h
    · cases h
    · rename_i x hx
      exact hx k h
  arg := c.arg
  len := c.len
theorem Cf.unbase (c : Cf K np W O σ H Γ vs ts) (c' : Cf K np (W.at O H) O' σ' H' Γ' vs' ts') : Cf K np W O' σ' H' Γ' vs' ts' where
  dom := c'.dom
  sl := c'.sl
  tm := c'.tm
  keep := fun b o h n => by
    obtain ⟨h1, e1⟩ := c.keep b o h n
    have e2 : (Wd.at W O H).O b = O b := by
      unfold Wd.at
      dsimp only
      split
      · rename_i k e
        exact absurd (e1.symm.trans e) (c.wt b k)
      · rfl
    obtain ⟨h2, e3⟩ := c'.keep b o h1 fun k => by rw [e2, e1]; exact n k
    exact ⟨h2, by rw [e3, e2, e1]⟩
  out := fun b h => by
    have h1 := c'.out b h
    unfold Wd.at at h1
    dsimp only at h1
    split at h1
    · cases h1
    · exact c.out b h1
  wt := c.wt
  arg := c'.arg
  len := c'.len
theorem Cf.kpAt (c : Cf K np (W.at O H) O' σ' H' Γ' vs' ts') : Kp O H O' H' := fun b o h n => by
  have e2 : (Wd.at W O H).O b = none := by
    unfold Wd.at
    simp only [n]
  obtain ⟨h2, e3⟩ := c.keep b o h fun k => by rw [e2]; exact fun z => by cases z
  exact ⟨h2, e3.trans e2⟩
end
section
variable {K : PySem.W.Frag} {O : Own} {H : Hp}
theorem SqL.inj {a : Addr} {xs ys : List V} (h : H a = some (.lst xs)) (nk : K.lookup a = none ∨ True) (h' : H a = some (.lst ys)) : xs = ys := by
  rw [h] at h'
  cases h'
  rfl
/-- data that walks: a list, a tuple -/
def itemsOf : PyData → Option (List PyData)
  | .list ds => some ds
  | .tuple ds => some ds
  | _ => none
theorem itf_list {ds : List PyData} {a : Addr} (h : Fz K O H (.list ds) (.ref a)) : ItF K (Itl K a) O H ds := by
  intro O' H' i dom k
  obtain ⟨b, xs, e, hb, fa, _⟩ := (Fz.kp k _ _ h).sqL
  cases e
  refine ⟨fun d e => ?_, fun hl => ⟨xs, .of hb, by rw [← fa.length]; exact hl⟩⟩
  obtain ⟨v, ev, r⟩ := fa.get e
  refine ⟨⟨xs, v, .of hb, ev⟩, fun x H' y => ?_⟩
  obtain ⟨rfl, y⟩ := y
  have := y xs (.of hb)
  rw [ev] at this
  cases this
  exact ⟨Ev.refl dom, r⟩
theorem itf_tup {ds : List PyData} {a : Addr} (h : Fz K O H (.tuple ds) (.ref a)) : ItF K (Itt K a) O H ds := by
  intro O' H' i dom k
  obtain ⟨b, xs, e, hb, fa⟩ := (Fz.kp k _ _ h).sqT
  cases e
  refine ⟨fun d e => ?_, fun hl => ⟨xs, hb, by rw [← fa.length]; exact hl⟩⟩
  obtain ⟨v, ev, r⟩ := fa.get e
  refine ⟨⟨xs, v, hb, ev⟩, fun x H' y => ?_⟩
  obtain ⟨rfl, y⟩ := y
  have := y xs hb
  rw [ev] at this
  cases this
  exact ⟨Ev.refl dom, r⟩
def rangeD (lo : Int) (n : Nat) : List PyData := (List.range n).map fun (i : Nat) => PyData.int (lo + i)
theorem itf_range {lo : Int} {n : Nat} : ItF K (Itr lo n) O H (rangeD lo n) := by
  intro O' H' i dom k
  refine ⟨fun d e => ?_, fun hl => by
    have : n ≤ i := by simpa [rangeD] using hl
    exact this⟩
  obtain ⟨j, e1, e2⟩ : ∃ j : Nat, (List.range n)[i]? = some j ∧ PyData.int (lo + j) = d := by
    unfold rangeD at e
    rw [List.getElem?_map] at e
    cases q : (List.range n)[i]? with
    | none => rw [q] at e; cases e
    | some j => rw [q] at e; exact ⟨j, rfl, Option.some.inj e⟩
  have hi : i < n := by
    have := (List.getElem?_eq_some_iff.mp e1).1
    simpa using this
  rw [List.getElem?_range hi] at e1
  cases e1
  subst e2
  refine ⟨hi, fun x H' y => ?_⟩
  obtain ⟨rfl, rfl⟩ := y
  exact ⟨Ev.refl dom, .int _⟩
/-- a new tuple of two -/
theorem ev_pair {x y : V} {d e : PyData} {T : Addr} (dom : ∀ b t, O b = some t → H b ≠ none) (hT : H T = none) (hx : Fz K O H d x) (hy : Fz K O H e y) : Ev J0 O H O (upd H T (.tup [x, y])) ∧ Fz K O (upd H T (.tup [x, y])) (.tuple [d, e]) (.ref T) := by
  have a := Ev.new (o := .tup [x, y]) dom hT
  exact ⟨a, .tup (.inl upd_same) (own_none dom hT) (.cons (Fz.kp a.k _ _ hx) (.cons (Fz.kp a.k _ _ hy) .nil))⟩
def enumD (ds : List PyData) : List PyData := ds.zipIdx.map fun p => .tuple [.int (p.2 : Nat), p.1]
theorem enumD_get {ds : List PyData} {i : Nat} {d : PyData} (h : (enumD ds)[i]? = some d) : ∃ e, ds[i]? = some e ∧ d = .tuple [.int (i : Nat), e] := by
  unfold enumD at h
  rw [List.getElem?_map, List.getElem?_zipIdx] at h
  cases q : ds[i]? with
  | none => rw [q] at h; cases h
  | some e =>
    rw [q] at h
    have h' := Option.some.inj h
    exact ⟨e, rfl, by rw [← h']; simp⟩
theorem itf_enum {ds : List PyData} {a : Addr} (h : Fz K O H (.list ds) (.ref a)) : ItF K (Ite K a) O H (enumD ds) := by
  intro O' H' i dom k
  obtain ⟨b, xs, e, hb, fa, _⟩ := (Fz.kp k _ _ h).sqL
  cases e
  refine ⟨fun d e => ?_, fun hl => ⟨xs, .of hb, by rw [← fa.length]; simpa [enumD] using hl⟩⟩
  obtain ⟨d', e1, rfl⟩ := enumD_get e
  obtain ⟨v, ev, r⟩ := fa.get e1
  refine ⟨⟨xs, v, .of hb, ev⟩, fun x H' y => ?_⟩
  obtain ⟨T, w, rfl, hT, rfl, y⟩ := y
  have := y xs (.of hb)
  rw [ev] at this
  cases this
  exact ev_pair dom hT (.int _) r
def zipD (as bs : List PyData) : List PyData := (as.zip bs).map fun p => .tuple [p.1, p.2]
theorem zipD_get {as bs : List PyData} {i : Nat} {d : PyData} (h : (zipD as bs)[i]? = some d) : ∃ x y, as[i]? = some x ∧ bs[i]? = some y ∧ d = .tuple [x, y] := by
  unfold zipD at h
  rw [List.getElem?_map] at h
  cases q : (as.zip bs)[i]? with
  | none => rw [q] at h; cases h
  | some p =>
    rw [q] at h
    obtain ⟨h1, h2⟩ := List.getElem?_zip_eq_some.mp q
    exact ⟨p.1, p.2, h1, h2, (Option.some.inj h).symm⟩
theorem itf_zip {as bs : List PyData} {a b : Addr} (h1 : Fz K O H (.list as) (.ref a)) (h2 : Fz K O H (.list bs) (.ref b)) : ItF K (Itz K a b) O H (zipD as bs) := by
  intro O' H' i dom k
  obtain ⟨_, xs, e, ga, fa, _⟩ := (Fz.kp k _ _ h1).sqL
  cases e
  obtain ⟨_, ys, e, gb, fb, _⟩ := (Fz.kp k _ _ h2).sqL
  cases e
  refine ⟨fun d e => ?_, fun hl => ⟨xs, ys, .of ga, .of gb, ?_⟩⟩
  · obtain ⟨x, y, e1, e2, rfl⟩ := zipD_get e
    obtain ⟨v, ev, r⟩ := fa.get e1
    obtain ⟨u, eu, r'⟩ := fb.get e2
    refine ⟨⟨xs, ys, v, u, .of ga, .of gb, ev, eu⟩, fun z H' q => ?_⟩
    obtain ⟨T, v', u', rfl, hT, rfl, q1, q2⟩ := q
    have e3 := q1 xs (.of ga)
    have e4 := q2 ys (.of gb)
    rw [ev] at e3
    rw [eu] at e4
    cases e3
    cases e4
    exact ev_pair dom hT r r'
  · unfold zipD at hl
    rw [List.length_map, List.length_zip] at hl
    rw [← fa.length, ← fb.length]
    omega
theorem itf_zipT {as bs : List PyData} {a b : Addr} (h1 : Fz K O H (.tuple as) (.ref a)) (h2 : Fz K O H (.tuple bs) (.ref b)) : ItF K (RZ.ItzT K a b) O H (zipD as bs) := by
  intro O' H' i dom k
  obtain ⟨_, xs, e, ga, fa⟩ := (Fz.kp k _ _ h1).sqT
  cases e
  obtain ⟨_, ys, e, gb, fb⟩ := (Fz.kp k _ _ h2).sqT
  cases e
  refine ⟨fun d e => ?_, fun hl => ⟨xs, ys, ga, gb, ?_⟩⟩
  · obtain ⟨x, y, e1, e2, rfl⟩ := zipD_get e
    obtain ⟨v, ev, r⟩ := fa.get e1
    obtain ⟨u, eu, r'⟩ := fb.get e2
    refine ⟨⟨xs, ys, v, u, ga, gb, ev, eu⟩, fun z H' q => ?_⟩
    obtain ⟨T, v', u', rfl, hT, rfl, q1, q2⟩ := q
    have e3 := q1 xs ga
    have e4 := q2 ys gb
    rw [ev] at e3
    rw [eu] at e4
    cases e3
    cases e4
    exact ev_pair dom hT r r'
  · unfold zipD at hl
    rw [List.length_map, List.length_zip] at hl
    rw [← fa.length, ← fb.length]
    omega
/-- the keys of a dict that is not changed -/
theorem FzD.get : ∀ {ds : List (PyData × PyData)} {kvs : List (Key × V)} {i : Nat} {e d : PyData}, FzD K O H ds kvs → ds[i]? = some (e, d) → ∃ k v, kvs[i]? = some (k, v) ∧ Fz K O H e (kV k) ∧ Fz K O H d v
  | [], _, i, _, _, _, e => by simp at e
  | _ :: _, _, 0, _, _, h, e => by
    cases h with
    | cons h1 h2 h3 =>
      simp at e
      obtain ⟨rfl, rfl⟩ := e
      exact ⟨_, _, rfl, h1, h2⟩
  | _ :: ds, _, i + 1, _, _, h, e => by
    cases h with
    | cons h1 h2 h3 =>
      obtain ⟨k, v, e1, e2⟩ := FzD.get (i := i) h3 (by simpa using e)
      exact ⟨k, v, by simpa using e1, e2⟩
theorem FzD.length : ∀ {ds : List (PyData × PyData)} {kvs : List (Key × V)}, FzD K O H ds kvs → ds.length = kvs.length
  | [], _, h => by cases h; rfl
  | d :: ds, _, h => by
    cases h with
    | cons h1 h2 h3 => simp [FzD.length h3]
/-- the keys of a frozen dict -/
theorem itf_keys {ds : List (PyData × PyData)} {a : Addr} {od : Obj} {kvs : List (Key × V)} (hr : H a = some (.frz od (.dK kvs))) (n : O a = none) (fd : FzD K O H ds kvs) : ItF K (Itk a od kvs) O H (ds.map (·.1)) := by
  intro O' H' i dom k
  have h1 := (k _ _ hr n).1
  have fd' := FzD.kp k _ _ fd
  refine ⟨fun d e => ?_, fun hl => ⟨h1, by rw [← fd.length]; simpa using hl⟩⟩
  rw [List.getElem?_map] at e
  obtain ⟨⟨e', d'⟩, q1, q2⟩ := Option.map_eq_some_iff.mp e
  cases q2
  obtain ⟨k', v, q3, r1, r2⟩ := fd'.get q1
  refine ⟨⟨h1, (List.getElem?_eq_some_iff.mp q3).1⟩, fun x H' y => ?_⟩
  obtain ⟨rfl, k2, v2, q4, rfl⟩ := y
  rw [q3] at q4
  cases q4
  exact ⟨Ev.refl dom, r1⟩
end

/-! ### targets -/
def SetsOff (is : List Nat) (σ σ' : L2.St) : Prop := σ'.length = σ.length ∧ ∀ j, j ∉ is → σ'[j]? = σ[j]?
theorem SetsOff.refl (is : List Nat) (σ : L2.St) : SetsOff is σ σ := ⟨rfl, fun _ _ => rfl⟩
theorem SetsOff.trans {is js : List Nat} {σ σ1 σ2 : L2.St} (a : SetsOff is σ σ1) (b : SetsOff js σ1 σ2) : SetsOff (is ++ js) σ σ2 :=
  ⟨b.1.trans a.1, fun j h => (b.2 j fun z => h (List.mem_append_right _ z)).trans (a.2 j fun z => h (List.mem_append_left _ z))⟩
abbrev FG := PyData → Gm → Option Gm
abbrev FGs := List PyData → Gm → Option Gm
def mds (ds : List PyData) : List TV := ds.map fun d => .md (.dat d)
def upG (K : PySem.W.Frag) (np : Nat) (is : List Nat) (g : FG) : TG := fun v σ H Q => ∃ W Γ vs ts d Γ', Cfg K np W σ H Γ (v :: vs) (.md (.dat d) :: ts) ∧ g d Γ = some Γ' ∧ ∀ σ' H', Cfg K np W σ' H' Γ' vs ts → SetsOff is σ σ' → Q σ' H'
def upGs (K : PySem.W.Frag) (np : Nat) (is : List Nat) (g : FGs) : TGs := fun xs σ H Q => ∃ W Γ vs ts ds Γ', Cfg K np W σ H Γ (xs ++ vs) (mds ds ++ ts) ∧ xs.length = ds.length ∧ g ds Γ = some Γ' ∧ ∀ σ' H', Cfg K np W σ' H' Γ' vs ts → SetsOff is σ σ' → Q σ' H'
def FGX (X : Cx) (np : Nat) (is : List Nat) (e : Expr) (g : FG) : Prop := PG X e (upG X.K np is g)
def FGsX (X : Cx) (np : Nat) (is : List Nat) (e : List Expr) (g : FGs) : Prop := PGs X e (upGs X.K np is g)
theorem PG.weak {X : Cx} {e : Expr} {t t' : TG} (h : PG X e t) (w : ∀ v σ H Q, t' v σ H Q → t v σ H Q) : PG X e t' := ⟨fun pins s σ H v u Q I r q => h.run pins s σ H v u Q I r (w v σ H Q q)⟩
theorem PGs.weak {X : Cx} {e : List Expr} {t t' : TGs} (h : PGs X e t) (w : ∀ v σ H Q, t' v σ H Q → t v σ H Q) : PGs X e t' := ⟨fun pins s σ H v u Q I r q => h.run pins s σ H v u Q I r (w v σ H Q q)⟩
section
variable {X : Cx} {np : Nat} {pos : Pos} {is js : List Nat}
def gN (i : Nat) : FG := fun d Γ => if ownAt Γ i = true then none else some (Γ.set i (some (.dat d)))
theorem fg_name {i : Nat} {x : Str} (hN : X.N.Nodup) (hi : X.N[i]? = some x := by rfl) (hx : Loc X.env.scope x := by first | exact Or.inl rfl | exact Or.inr rfl) (hf : X.fn x = true ∨ X.env.scope.names.lookup x = some .local := by first | exact .inl rfl | exact .inr rfl | assumption) :
    FGX X np [i] (.Name x pos) (gN i) := by
  refine PG.weak (pg_name hN hi hx hf) fun v σ H Q h => ?_
  obtain ⟨W, Γ, vs, ts, d, Γ', ⟨O, c⟩, e, q⟩ := h
  unfold gN at e
  split at e
  · cases e
  · rename_i n
    cases e
    refine q _ _ ⟨O, c.storeD (by simpa using n)⟩ ⟨List.length_set, fun j hj => ?_⟩
    rw [List.getElem?_set_ne (by intro z; exact hj (by simp [z]))]
def gsNil : FGs := fun ds Γ => match ds with
  | [] => some Γ
  | _ => none
def gsCons (g : FG) (h : FGs) : FGs := fun ds Γ => match ds with
  | d :: r => (g d Γ).bind (h r)
  | _ => none
theorem fgs_nil : FGsX X np [] [] gsNil := by
  refine PGs.weak pgs_nil fun xs σ H Q h => ?_
  obtain ⟨W, Γ, vs, ts, ds, Γ', c, el, e, q⟩ := h
  unfold gsNil at e
  split at e
  · cases e
    have ex : xs = [] := List.length_eq_zero_iff.mp (by simpa using el)
    subst ex
    exact ⟨rfl, q σ H c (.refl _ _)⟩
  · cases e
theorem fgs_cons {e : Expr} {es : List Expr} {g : FG} {h : FGs} (h1 : FGX X np is e g) (h2 : FGsX X np js es h) (hs : (assignEach (e :: es) X.env).map (·.2) = assign e X.env :: (assignEach es X.env).map (·.2) := by rfl) : FGsX X np (is ++ js) (e :: es) (gsCons g h) := by
  refine PGs.weak (pgs_cons h1 h2 hs) fun xs σ H Q hh => ?_
  obtain ⟨W, Γ, vs, ts, ds, Γ', c, el, e, q⟩ := hh
  unfold gsCons at e
  split at e
  · rename_i d r
    obtain ⟨Γ1, e1, e⟩ := Option.bind_eq_some_iff.mp e
    cases xs with
    | nil => simp at el
    | cons v xs =>
      refine ⟨v, xs, rfl, W, Γ, xs ++ vs, mds r ++ ts, d, Γ1, c, e1, fun σ1 H1 c1 s1 => ?_⟩
      exact ⟨W, Γ1, vs, ts, r, Γ', c1, by simpa using el, e, fun σ2 H2 c2 s2 => q σ2 H2 c2 (s1.trans s2)⟩
  · cases e
def gT (n : Nat) (g : FGs) : FG := fun d Γ => match d with
  | .tuple ds => if ds.length = n then g ds Γ else none
  | _ => none
theorem Cf.pushA {K : PySem.W.Frag} {W : Wd} {O : Own} {σ : L2.St} {H : Hp} {Γ : Gm} {vs : List V} {ts : List TV} (c : Cf K np W O σ H Γ vs ts) : ∀ {ds : List PyData} {xs : List V}, FzA K O H ds xs → Cf K np W O σ H Γ (xs ++ vs) (mds ds ++ ts)
  | [], _, h => by cases h; exact c
  | d :: ds, _, h => by
    cases h with
    | cons h1 h2 => exact (Cf.pushA c h2).push h1
theorem fg_tup {es : List Expr} {k : Nat} {g : FGs} {n : Nat} (hc : X.calm = true) (h : FGsX X np is es g) (hn : (assignEach es X.env).length = n := by rfl) (hst : (assignEach es X.env).findIdx? (·.1) = none := by rfl) : FGX X np is (.Tuple es k pos) (gT n g) := by
  refine PG.weak (pg_tup hc h hn hst) fun v σ H Q hh => ?_
  obtain ⟨W, Γ, vs, ts, d, Γ', ⟨O, c⟩, e, q⟩ := hh
  unfold gT at e
  split at e
  · rename_i ds
    split at e
    · rename_i hl
      obtain ⟨a, xs, rfl, ha, fa⟩ := Fz.sqT c.top
      exact ⟨a, xs, rfl, ha, by rw [← fa.length]; exact hl, W, Γ, vs, ts, ds, Γ', ⟨O, c.pop.pushA fa⟩, fa.length.symm, e, q⟩
    · cases e
  · cases e

/-! ### what is walked -/
variable {f : FE} {e tg : Expr} {fs : FA}
def fIter (f : FE) : FI := fun Γ => (f Γ).bind fun p => match p.1 with
  | .md (.dat d) => (itemsOf d).map fun ds => (ds, p.2)
  | _ => none
theorem fi_seq (he : FX X np e f) : FIX X np tg e (fIter f) := by
  refine PI.weak (PI.or (pi_list he) (pi_tup he)) fun σ H R h => ?_
  obtain ⟨W, Γ, vs, ts, items, Γ', c, e, q⟩ := h
  obtain ⟨⟨t, Γ1⟩, e1, e⟩ := Option.bind_eq_some_iff.mp e
  dsimp only at e
  split at e
  · obtain ⟨ds, e2, e⟩ := Option.map_eq_some_iff.mp e
    cases e
    unfold itemsOf at e2
    split at e2
    · cases e2
      refine .inl ⟨W, Γ, vs, ts, _, _, c, e1, fun v H1 c1 => ?_⟩
      obtain ⟨O, c1⟩ := c1
      have r := c1.top
      obtain ⟨a, xs, rfl, ha, fa, _⟩ := Fz.sqL r
      exact ⟨a, rfl, ⟨xs, .of ha⟩, q _ _ _ c1.pop (itf_list r)⟩
    · cases e2
      refine .inr ⟨W, Γ, vs, ts, _, _, c, e1, fun v H1 c1 => ?_⟩
      obtain ⟨O, c1⟩ := c1
      have r := c1.top
      obtain ⟨a, xs, rfl, ha, fa⟩ := Fz.sqT r
      exact ⟨a, rfl, ⟨xs, ha⟩, q _ _ _ c1.pop (itf_tup r)⟩
    · cases e2
  · cases e
def rgOk (j : Int) : Bool := decide (-(2 ^ 62) ≤ j ∧ j < 2 ^ 62)
theorem rgOk_to {j : Int} (h : rgOk j = true) : -(2 ^ 62) ≤ j ∧ j < 2 ^ 62 := dec1 h
def intT : TV → Option Int
  | .md (.dat (.int j)) => some j
  | _ => none
theorem intT_to {t : TV} {j : Int} (e : intT t = some j) : t = .md (.dat (.int j)) := by
  unfold intT at e
  split at e
  · cases e; rfl
  · cases e
def rg1 (j : Int) : Option (List PyData) := @ite _ (rgOk j = true) (Classical.propDecidable _) (some (rangeD 0 j.toNat)) none
def rg2 (i j : Int) : Option (List PyData) := @ite _ (rgOk i = true ∧ rgOk j = true) (Classical.propDecidable _) (some (rangeD i (j - i).toNat)) none
theorem rg1_to {j : Int} {l : List PyData} (h : rg1 j = some l) : rgOk j = true ∧ l = rangeD 0 j.toNat := by
  unfold rg1 at h
  split at h
  · rename_i h1
    exact ⟨h1, (Option.some.inj h).symm⟩
  · cases h
theorem rg2_to {i j : Int} {l : List PyData} (h : rg2 i j = some l) : (rgOk i = true ∧ rgOk j = true) ∧ l = rangeD i (j - i).toNat := by
  unfold rg2 at h
  split at h
  · rename_i h1
    exact ⟨h1, (Option.some.inj h).symm⟩
  · cases h
def fRange1 (f : FE) : FI := fun Γ => (f Γ).bind fun p => (intT p.1).bind fun j => (rg1 j).map fun l => (l, p.2)
theorem fi_range1 {a : Expr} {p : Pos} (hm : X.mg "range" = none) (ha : FX X np a f) (hg : Gl X "range" := by rfl) (hs : starEach [a] X.env = (false, eval a X.env) :: starEach [] X.env := by rfl) (hs' : starEach [a] X.env = [(false, eval a X.env)] := by rfl) :
    FIX X np tg (.Call (.Name "range" p) [a] [] pos) (fRange1 f) := by
  refine PI.weak (pi_range1 hg hm (pa_cons ha pa_nil hs) hs') fun σ H R h => ?_
  obtain ⟨W, Γ, vs, ts, items, Γ', c, e, q⟩ := h
  obtain ⟨⟨t, Γ1⟩, e1, e⟩ := Option.bind_eq_some_iff.mp e
  obtain ⟨j, e2, e⟩ := Option.bind_eq_some_iff.mp e
  obtain ⟨l, e3, e⟩ := Option.map_eq_some_iff.mp e
  cases e
  have tj : t = .md (.dat (.int j)) := intT_to e2
  subst tj
  refine ⟨W, Γ, vs, ts, _, Γ1, c, e1, fun v H1 c1 => ?_⟩
  obtain ⟨O, c1⟩ := c1
  have r : Fz X.K O H1 (.int j) v := c1.top
  cases r
  obtain ⟨hj, el⟩ := rg1_to e3
  obtain ⟨k1, k2⟩ := rgOk_to hj
  exact ⟨j, rfl, k1, k2, q _ _ _ c1.pop (by rw [el]; exact itf_range)⟩
def fRange2 (fa fb : FE) : FI := fun Γ => (fa Γ).bind fun p => (fb p.2).bind fun p2 => (intT p.1).bind fun i => (intT p2.1).bind fun j => (rg2 i j).map fun l => (l, p2.2)
theorem fi_range2 {a b : Expr} {fa fb : FE} {p : Pos} (hm : X.mg "range" = none) (ha : FX X np a fa) (hb : FX X np b fb) (hg : Gl X "range" := by rfl) (hs : starEach [a, b] X.env = (false, eval a X.env) :: starEach [b] X.env := by rfl)
    (hs1 : starEach [b] X.env = (false, eval b X.env) :: starEach [] X.env := by rfl) (hs' : starEach [a, b] X.env = [(false, eval a X.env), (false, eval b X.env)] := by rfl) (hs2 : starEach [b] X.env = [(false, eval b X.env)] := by rfl) :
    FIX X np tg (.Call (.Name "range" p) [a, b] [] pos) (fRange2 fa fb) := by
  refine PI.weak (pi_range2 hg hm (pa_cons ha (pa_cons hb pa_nil hs1) hs) hs' hs2) fun σ H R h => ?_
  obtain ⟨W, Γ, vs, ts, items, Γ', c, e, q⟩ := h
  obtain ⟨⟨t, Γ1⟩, e1, e⟩ := Option.bind_eq_some_iff.mp e
  obtain ⟨⟨t2, Γ2⟩, e2, e⟩ := Option.bind_eq_some_iff.mp e
  obtain ⟨i, ei, e4⟩ := Option.bind_eq_some_iff.mp e
  obtain ⟨j, ej, e5⟩ := Option.bind_eq_some_iff.mp e4
  obtain ⟨l, e6, e7⟩ := Option.map_eq_some_iff.mp e5
  cases e7
  refine ⟨W, Γ, vs, ts, t, Γ1, c, e1, fun v H1 c1 => ⟨W, Γ1, v :: vs, t :: ts, t2, Γ2, c1, e2, fun w H2 c2 => ?_⟩⟩
  have ti := intT_to ei
  have tj := intT_to ej
  dsimp only at ti tj
  subst ti
  subst tj
  obtain ⟨hj, el⟩ := rg2_to e6
  obtain ⟨O, c2⟩ := c2
  have r : Fz X.K O H2 (.int j) w := c2.top
  have r' : Fz X.K O H2 (.int i) v := c2.pop.top
  cases r
  cases r'
  obtain ⟨k1, k2⟩ := rgOk_to hj.1
  obtain ⟨k3, k4⟩ := rgOk_to hj.2
  exact ⟨i, j, rfl, ⟨k1, k2, k3, k4⟩, q _ _ _ c2.pop.pop (by rw [el]; exact itf_range)⟩
/-- enumerate of a list -/
def fEnumL (f : FE) : FI := fun Γ => (f Γ).bind fun p => match p.1 with
  | .md (.dat (.list ds)) => some (enumD ds, p.2)
  | _ => none
theorem fi_enumL {a : Expr} {p tpos : Pos} {elts : List Expr} {kk : Nat} (hm : X.mg "enumerate" = none) (ha : FX X np a f) (hg : Gl X "enumerate" := by rfl) (hs : starEach [a] X.env = (false, eval a X.env) :: starEach [] X.env := by rfl) (hs' : starEach [a] X.env = [(false, eval a X.env)] := by rfl) :
    FIX X np (.Tuple elts kk tpos) (.Call (.Name "enumerate" p) [a] [] pos) (fEnumL f) := by
  refine PI.weak (pi_enum hg hm (pa_cons ha pa_nil hs) hs') fun σ H R h => ?_
  obtain ⟨W, Γ, vs, ts, items, Γ', c, e, q⟩ := h
  obtain ⟨⟨t, Γ1⟩, e1, e⟩ := Option.bind_eq_some_iff.mp e
  refine ⟨W, Γ, vs, ts, t, Γ1, c, e1, fun v H1 c1 => ?_⟩
  dsimp only at e
  split at e
  · cases e
    obtain ⟨O, c1⟩ := c1
    have r := c1.top
    obtain ⟨a, xs, rfl, ha, fa, _⟩ := Fz.sqL r
    exact ⟨a, xs, rfl, .of ha, q _ _ _ c1.pop (itf_enum r)⟩
  · cases e

/-! ### for -/
def loopS (tg : FG) (b : FS) : List PyData → Gm → Option Out
  | [], Γ => some (.nx Γ)
  | d :: r, Γ => (tg d Γ).bind fun Γ1 => (b Γ1).bind fun o => match o with
    | .nx Γ2 => loopS tg b r Γ2
    | .ct Γ2 => loopS tg b r Γ2
    | .bk Γ2 => some (.nx Γ2)
    | .rt m Γ2 => some (.rt m Γ2)
def fFor (fi : FI) (tg : FG) (b : FS) : FS := fun Γ => (fi Γ).bind fun p => loopS tg b p.1 p.2
theorem ItF.step {K : PySem.W.Frag} {np : Nat} {J : It} {O1 : Own} {H1 : Hp} {items : List PyData} (h : ItF K J O1 H1 items) {W : Wd} {O : Own} {σ : L2.St} {H : Hp} {Γ : Gm} {vs : List V} {ts : List TV} (i : Nat) (c : Cf K np (W.at O1 H1) O σ H Γ vs ts) :
    (∀ d, items[i]? = some d → J.go i H ∧ ∀ x H', J.yld i H x H' → Cfg K np (W.at O1 H1) σ H' Γ (x :: vs) (.md (.dat d) :: ts)) ∧ (items.length ≤ i → J.stop i H) := by
  obtain ⟨h1, h2⟩ := h O H i c.dom c.kpAt
  refine ⟨fun d e => ?_, h2⟩
  obtain ⟨g, y⟩ := h1 d e
  refine ⟨g, fun x H' q => ?_⟩
  obtain ⟨a, r⟩ := y x H' q
  exact ⟨O, (c.ev0 a).push r⟩
theorem fs_for {iter target : Expr} {body : List Stmt} {fi : FI} {g : FG} {b : FS} (hp : PassesOwn (model X.prog X.w) X.A X.env X.xe) (hc : X.calm = true) (hi : FIX X np target iter fi) (hg : FGX X np is target g) (hb : FSsX X np body b)
    (hs : ∀ x, foldedSetIterable iter X.env x = pure x := by intro _; rfl) : FSX X np (.For target iter body [] pos) (fFor fi g b) := by
  refine PS.weak (ps_for hp hc hi hg hb hs) fun D σ H h => ?_
  obtain ⟨W, Γ, vs, ds, o, c, e, q⟩ := h
  obtain ⟨⟨items, Γ1⟩, e1, e⟩ := Option.bind_eq_some_iff.mp e
  refine ⟨W, Γ, vs, tsd ds, items, Γ1, c, e1, fun J O1 H1 c1 itf => ?_⟩
  refine ⟨fun i m σ H => i + m = items.length ∧ ∃ Γi, Cfg X.K np (W.at O1 H1) σ H Γi vs (tsd ds) ∧ loopS g b (items.drop i) Γi = some o, ⟨items.length, by simp, Γ1, ⟨O1, c1.rebase⟩, e⟩, ?_⟩
  rintro i m σ H ⟨hl, Γi, ⟨O, ci⟩, ei⟩
  obtain ⟨s1, s2⟩ := itf.step i ci
  cases m with
  | zero =>
    have hi' : items.length ≤ i := by omega
    rw [List.drop_eq_nil_of_le hi'] at ei
    cases ei
    exact .inl ⟨s2 hi', q σ H ⟨O, c1.unbase ci⟩⟩
  | succ m =>
    have hi' : i < items.length := by omega
    have ed : items[i]? = some items[i] := List.getElem?_eq_getElem hi'
    obtain ⟨go, y⟩ := s1 _ ed
    rw [List.drop_eq_getElem_cons hi'] at ei
    obtain ⟨Γ2, e2, ei⟩ := Option.bind_eq_some_iff.mp ei
    obtain ⟨o1, e3, ei⟩ := Option.bind_eq_some_iff.mp ei
    refine .inr ⟨go, fun σ H => ∃ Γi, Cfg X.K np (W.at O1 H1) σ H Γi vs (tsd ds) ∧ loopS g b (items.drop (i + 1)) Γi = some o, fun σ' H' w => ⟨m, Nat.lt_succ_self _, by omega, w⟩, fun x H2 hy => ?_⟩
    refine ⟨W.at O1 H1, Γi, vs, tsd ds, _, Γ2, y x H2 hy, e2, fun σ3 H3 c3 _ => ?_⟩
    refine ⟨W.at O1 H1, Γ2, vs, ds, o1, c3, e3, ?_⟩
    cases o1 with
    | nx Γ3 => exact fun σ' H' c' => ⟨Γ3, c', ei⟩
    | ct Γ3 => exact fun σ' H' c' => ⟨Γ3, c', ei⟩
    | bk Γ3 =>
      cases ei
      exact fun σ' H' ⟨O', c'⟩ => q σ' H' ⟨O', c1.unbase c'⟩
    | rt r Γ3 =>
      cases ei
      exact fun v σ' H' ⟨O', c'⟩ => q v σ' H' ⟨O', c1.unbase c'⟩

/-! ### list comprehensions -/
def loopC (tg : FG) (tt : FT) (fe : FE) (own : List Nat) : List PyData → List PyData → Gm → Option (List PyData × Gm)
  | [], acc, Γ => some (acc, Γ)
  | d :: r, acc, Γ => (tg d Γ).bind fun Γ1 => (tt Γ1).bind fun p => if p.1 = true then (fe p.2).bind fun q => (frz q.1).bind fun y => if acc.length < sizeLine then loopC tg tt fe own r (acc ++ [y]) (fgt q.2 own) else none
    else loopC tg tt fe own r acc (fgt p.2 own)
def fComp (ow : Bool) (fi : FI) (tg : FG) (tt : FT) (fe : FE) (own : List Nat) : FE := fun Γ => (fi Γ).bind fun p => (loopC tg tt fe own p.1 [] (fgt p.2 own)).map fun q => ((Res.new q.1).fin ow, q.2)
def FTsX (X : Cx) (np : Nat) (es : List Expr) (f : FT) : Prop := PTs X es (upT X.K np f)
def tYesF : FT := fun Γ => some (true, Γ)
theorem fts_nil : FTsX X np [] tYesF := by
  have h := pts_nil (X := X)
  refine ⟨fun pins s σ H Q I hw => h.run pins s σ H Q I ?_⟩
  obtain ⟨W, Γ, vs, ts, b, Γ', c, e, q⟩ := hw
  cases e
  exact q H c
theorem fts_one {c : Expr} {t : FT} (h : FTX X np c t) : FTsX X np [c] t := pts_one h
theorem wipe_at {σ : L2.St} {j : Nat} : ∀ {is : List Nat}, j ∉ is → (L2.wipe σ is)[j]? = σ[j]?
  | [], _ => rfl
  | i :: is, h => by
    unfold L2.wipe
    rw [List.getElem?_set_ne (by rintro rfl; exact h List.mem_cons_self)]
    exact wipe_at fun z => h (List.mem_cons_of_mem _ z)
theorem wipe_in {σ : L2.St} {j : Nat} (hj : j < σ.length) : ∀ {is : List Nat}, j ∈ is → (L2.wipe σ is)[j]? = some none
  | i :: is, h => by
    unfold L2.wipe
    by_cases e : i = j
    · subst e
      rw [List.getElem?_set_self (by rw [L2.wipe_length]; exact hj)]
    · rw [List.getElem?_set_ne e]
      exact wipe_in hj ((List.mem_cons.mp h).resolve_left fun z => e z.symm)
theorem wipe_ext {σ σ' : L2.St} {is : List Nat} (hl : σ'.length = σ.length) (h : ∀ j, j ∉ is → σ'[j]? = σ[j]?) : L2.wipe σ' is = L2.wipe σ is := by
  apply List.ext_getElem?
  intro j
  by_cases hj : j ∈ is
  · by_cases hl' : j < σ.length
    · rw [wipe_in hl' hj, wipe_in (by omega) hj]
    · rw [List.getElem?_eq_none (by rw [L2.wipe_length]; omega), List.getElem?_eq_none (by rw [L2.wipe_length]; omega)]
  · rw [wipe_at hj, wipe_at hj, h j hj]
theorem wipe_wipe (σ : L2.St) (is : List Nat) : L2.wipe (L2.wipe σ is) is = L2.wipe σ is := wipe_ext (L2.wipe_length _ _) fun j h => wipe_at h
/-- temporaries that name no slot of is -/
theorem Tm.wipe {K : PySem.W.Frag} {O : Own} {σ σ' : L2.St} {H : Hp} {Γ : Gm} (is : List Nat) (h : ∀ j, j ∉ is → σ'[j]? = σ[j]?) (n : ∀ j, j ∈ is → ownAt Γ j = false) : ∀ {vs : List V} {ts : List TV}, Tm K O H σ Γ vs ts → Tm K O H σ' (fgt Γ is) vs ts
  | [], [], _ => True.intro
  | w :: vs, t :: ts, hh => by
    refine ⟨?_, Tm.wipe is h n (vs := vs) (ts := ts) hh.2⟩
    have h1 := hh.1
    cases t with
    | md m => exact h1
    | al j =>
      obtain ⟨e, m, e1, e2⟩ := h1
      have hj : j ∉ is := fun z => by
        have := n j z
        simp only [ownAt, e1] at this
        rw [this] at e2
        cases e2
      refine ⟨(h j hj).trans e, m, ?_, e2⟩
      have go : ∀ {is : List Nat}, j ∉ is → (fgt Γ is)[j]? = Γ[j]? := by
        intro is
        induction is with
        | nil => intro _; rfl
        | cons i is ih =>
          intro hn
          unfold fgt
          rw [List.getElem?_set_ne (by rintro rfl; exact hn List.mem_cons_self)]
          exact ih fun z => hn (List.mem_cons_of_mem _ z)
      rw [go hj]
      exact e1
  | [], _ :: _, h => h.elim
  | _ :: _, [], h => h.elim
/-- into a block: the block's own slots forgotten -/
theorem Cf.inBlk {K : PySem.W.Frag} {W : Wd} {O : Own} {σ σ' : L2.St} {H : Hp} {Γ : Gm} {vs : List V} {ts : List TV} (is : List Nat) (c : Cf K np W O σ H Γ vs ts) (hl : σ'.length = σ.length) (h : ∀ j, j ∉ is → σ'[j]? = σ[j]?) (n : ∀ j, j ∈ is → ownAt Γ j = false) : Cf K np W O σ' H (fgt Γ is) vs ts :=
  ⟨c.dom, fun j m e => by
    obtain ⟨e1, e2⟩ := fgt_some e
    obtain ⟨v, e3, r⟩ := c.sl j m e1
    exact ⟨v, (h j e2).trans e3, r⟩, Tm.wipe is h n c.tm, c.keep, c.out, c.wt, fun j m hj e ho => by
    obtain ⟨e1, e2⟩ := fgt_some e
    exact (h j e2).trans (c.arg j m hj e1 ho), by rw [fgt_len, hl]; exact c.len⟩
def noOwn (Γ : Gm) (is : List Nat) : Bool := is.all fun j => !ownAt Γ j
theorem noOwn_to {Γ : Gm} {is : List Nat} (h : noOwn Γ is = true) : ∀ j, j ∈ is → ownAt Γ j = false := fun j hj => by
  have := List.all_eq_true.mp h j hj
  simpa using this
end
end Fx

end

/-! Fx8: list comprehensions -/
noncomputable section
namespace Fx
open PySem PySem.Spec PyProof.Rows L2

section
variable {K : PySem.W.Frag} {np : Nat} {W : Wd} {O O' : Own} {σ σ' : L2.St} {H H' : Hp} {Γ Γ' : Gm}
theorem ownAt_fgt {Γ : Gm} {is : List Nat} : ∀ j, j ∈ is → ownAt (fgt Γ is) j = false := fun j hj => by
  unfold ownAt
  split
  · rename_i m hm
    exact absurd hj (fgt_some hm).2
  · rfl
theorem Cf.underT {vs : List V} {ts : List TV} {m : MD} {v w : V} {t : TV} (c : Cf K np W O σ H Γ (v :: w :: vs) (.md m :: t :: ts)) : Cfg K np W σ H Γ (v :: vs) (.md m :: ts) := by
  have a : Ev (· = .tmp (t :: ts).length) O H (retag O (.tmp (t :: ts).length) (some (.tmp ts.length))) H := Ev.retag (by simp) c.dom
  have c2 := c.pop.pop.ev a (by simp) (by simp) (fun k z => by injection z with z; simp at z ⊢; omega)
  exact ⟨_, c2.push (MR.move c.dom (by simp) c.top)⟩
end
def loopL (tg : FG) (tt : FT) (fe : FE) (own : List Nat) : List PyData → List PyData → Gm → Option (List PyData × Gm)
  | [], acc, Γ => some (acc, Γ)
  | d :: r, acc, Γ => (tg d Γ).bind fun Γ1 => (tt Γ1).bind fun p => if p.1 = true then (fe p.2).bind fun q => (frz q.1).bind fun y => if acc.length < sizeLine ∧ noOwn q.2 own = true then loopL tg tt fe own r (acc ++ [y]) (fgt q.2 own) else none
    else if noOwn p.2 own = true then loopL tg tt fe own r acc (fgt p.2 own) else none
def fLc (ow : Bool) (fi : FI) (tg : FG) (tt : FT) (fe : FE) (own : List Nat) : FE := fun Γ => (fi Γ).bind fun p => if noOwn p.2 own = true then (loopL tg tt fe own p.1 [] (fgt p.2 own)).map fun q => ((Res.new q.1).fin ow, fgt q.2 own) else none
section
variable {X : Cx} {np : Nat} {pos : Pos} {is : List Nat}
theorem lc_read {ow : Bool} {fi : FI} {g : FG} {tt : FT} {fe : FE} {own : List Nat} (hsub : ∀ i ∈ is, i ∈ own) {σ : L2.St} {H : Hp} {Q : VK} (h : up X.K np (fLc ow fi g tt fe own) σ H Q) :
    tLc (upI X.K np fi) (upG X.K np is g) (upT X.K np tt) (up X.K np fe) own σ H Q := by
  obtain ⟨W, Γ, vs, ts, t, Γ', c, e, q⟩ := h
  obtain ⟨⟨items, Γ1⟩, e1, e⟩ := Option.bind_eq_some_iff.mp e
  dsimp only at e
  split at e
  · rename_i hno
    obtain ⟨⟨out, Γ9⟩, e9, ex⟩ := Option.map_eq_some_iff.mp e
    cases ex
    have hw : ∀ j, j ∉ own → (L2.wipe σ own)[j]? = σ[j]? := fun j hj => wipe_at hj
    refine ⟨W, Γ, vs, ts, items, Γ1, c, e1, fun J O1 H1 c1 itf D hD => ?_⟩
    refine ⟨fun i m H => i + m = items.length ∧ ∃ acc Γi, Cfg X.K np (W.at O1 H1) (L2.wipe σ own) H Γi (.ref D :: vs) (.md (.lst acc) :: ts) ∧ (∀ j, j ∈ own → ownAt Γi j = false) ∧ loopL g tt fe own (items.drop i) acc Γi = some (out, Γ9), ⟨items.length, by simp, [], fgt Γ1 own, ?_, ownAt_fgt, e9⟩, ?_⟩
    · have a := Ev.newOwn (o := .lst []) (t := .tmp ts.length) (by simp) c1.dom hD
      have c2 := (c1.rebase.ev0 a).push (v := .ref D) (t := .md (.lst [])) ⟨D, [], rfl, put_same, upd_same, .nil⟩
      exact ⟨_, c2.inBlk own (L2.wipe_length _ _) hw (noOwn_to hno)⟩
    · rintro i m H ⟨hl, acc, Γi, ⟨O, ci⟩, hoi, ei⟩
      obtain ⟨s1, s2⟩ := itf.step i ci
      cases m with
      | zero =>
        have hi' : items.length ≤ i := by omega
        rw [List.drop_eq_nil_of_le hi'] at ei
        cases ei
        refine .inl ⟨s2 hi', ?_⟩
        have c3 := ci.inBlk (σ' := σ) own (L2.wipe_length _ _).symm (fun j hj => (hw j hj).symm) hoi
        have c4 := c1.unbase c3
        cases ow with
        | true => exact q _ H ⟨_, c4⟩
        | false => exact q _ H (c4.frzTop rfl)
      | succ m =>
        have hi' : i < items.length := by omega
        have ed : items[i]? = some items[i] := List.getElem?_eq_getElem hi'
        obtain ⟨go, y⟩ := s1 _ ed
        rw [List.drop_eq_getElem_cons hi'] at ei
        obtain ⟨Γ2, e2, ei⟩ := Option.bind_eq_some_iff.mp ei
        obtain ⟨⟨b, Γ3⟩, e3, ei⟩ := Option.bind_eq_some_iff.mp ei
        refine .inr ⟨go, fun H => ∃ acc Γi, Cfg X.K np (W.at O1 H1) (L2.wipe σ own) H Γi (.ref D :: vs) (.md (.lst acc) :: ts) ∧ (∀ j, j ∈ own → ownAt Γi j = false) ∧ loopL g tt fe own (items.drop (i + 1)) acc Γi = some (out, Γ9), fun H' w => ⟨m, Nat.lt_succ_self _, by omega, w⟩, fun x H2 hy => ?_⟩
        refine ⟨W.at O1 H1, Γi, _, _, _, Γ2, y x H2 hy, e2, fun σ3 H3 c3 off => ?_⟩
        have hoff : ∀ j, j ∉ own → (L2.wipe σ own)[j]? = σ3[j]? := fun j hj => (off.2 j fun z => hj (hsub j z)).symm
        have hlen : (L2.wipe σ own).length = σ3.length := off.1.symm
        refine ⟨by rw [wipe_ext (σ := L2.wipe σ own) hlen.symm fun j hj => (hoff j hj).symm, wipe_wipe], ?_⟩
        refine ⟨W.at O1 H1, Γ2, _, _, b, Γ3, c3, e3, fun H4 c4 => ?_⟩
        cases b with
        | false =>
          refine iteF ?_
          dsimp only at ei
          rw [if_neg (by simp)] at ei
          split at ei
          · rename_i hno3
            obtain ⟨O4, c4⟩ := c4
            exact ⟨acc, fgt Γ3 own, ⟨O4, c4.inBlk own hlen hoff (noOwn_to hno3)⟩, ownAt_fgt, ei⟩
          · cases ei
        | true =>
          dsimp only at ei
          rw [if_pos rfl] at ei
          obtain ⟨⟨t5, Γ5⟩, e5, ei⟩ := Option.bind_eq_some_iff.mp ei
          obtain ⟨yd, e6, ei⟩ := Option.bind_eq_some_iff.mp ei
          dsimp only at ei
          split at ei
          · rename_i hno5
            refine iteT ⟨W.at O1 H1, Γ3, _, _, t5, Γ5, c4, e5, fun y H5 c5 => ?_⟩
            obtain ⟨O5, c5⟩ := c5
            obtain ⟨a, ws, ea, oa, ha, fa⟩ := c5.pop.top
            cases ea
            have ry : Fz X.K O5 H5 yd y := by
              have := c5.top
              have e6' : t5 = .md (.dat yd) := frz_to e6
              rw [e6'] at this
              exact this
            refine ⟨ws, ha, by rw [← fa.length]; exact hno5.1, acc ++ [yd], fgt Γ5 own, ?_, ownAt_fgt, ei⟩
            have w := Ev.write (o := .lst (ws ++ [y])) c5.dom oa
            have c6 := c5.pop.pop.ev w (by simp) (by simp) (fun k z => by injection z with z; omega)
            have c7 := c6.push (v := .ref D) (t := .md (.lst (acc ++ [yd]))) ⟨D, ws ++ [y], rfl, oa, upd_same, (FzA.kp w.k _ _ fa).append (.cons (Fz.kp w.k _ _ ry) .nil)⟩
            exact ⟨_, c7.inBlk own hlen hoff (noOwn_to hno5.2)⟩
          · cases ei
  · cases e
theorem fx_lc {ow : Bool} {elt tg iter : Expr} {ifs : List Expr} {scope : Scope} {own : List (Str × Nat)} {fi : FI} {g : FG} {tt : FT} {fe : FE} (hc : X.calm = true) (hN : X.N.Nodup) (hi : FIX X np tg iter fi) (ok : BlkOk X.N X.env.scope scope own)
    (hg : ∀ (s : Shared) (H : Hp) (C : Addr) (cl : List (Str × Addr)) (fp : List Addr), FGX (X.blk s H scope (compEnvC scope cl C X.env) fp) np is tg g) (ht : ∀ (s : Shared) (H : Hp) (C : Addr) (cl : List (Str × Addr)) (fp : List Addr), FTsX (X.blk s H scope (compEnvC scope cl C X.env) fp) np ifs tt)
    (he : ∀ (s : Shared) (H : Hp) (C : Addr) (cl : List (Str × Addr)) (fp : List Addr), FX (X.blk s H scope (compEnvC scope cl C X.env) fp) np elt fe) (hsub : ∀ i ∈ is, i ∈ own.map (·.2) := by decide) (hs : ∀ x, foldedSetIterable iter X.env x = pure x := by intro _; rfl) :
    FX X np (.ListComp elt [⟨tg, iter, ifs, 0⟩] scope pos) (fLc ow fi g tt fe (own.map (·.2))) :=
  PE.weak (pe_lc (g := upG X.K np is g) (tt := upT X.K np tt) (te := up X.K np fe) hc hN hi ok hg ht he hs) fun _ _ _ h => lc_read hsub h
/-- y = [..] on one line -/
theorem fs_setLc {ow : Bool} {i : Nat} {y : Str} {py : Pos} {elt tg iter : Expr} {ifs : List Expr} {scope : Scope} {own : List (Str × Nat)} {spos : Pos} {fi : FI} {g : FG} {tt : FT} {fe : FE} (hc : X.calm = true) (hN : X.N.Nodup) (hyl : X.env.scope.names.lookup y = some .local)
    (hsw : swapsWith (.ListComp elt [⟨tg, iter, ifs, 0⟩] scope pos) (some (.Name y py)) spos.line X.env = pure true) (hi : FIX X np tg iter fi) (ok : BlkOk X.N X.env.scope scope own)
    (hg : ∀ (s : Shared) (H : Hp) (C : Addr) (cl : List (Str × Addr)) (fp : List Addr), FGX (X.blk s H scope (compEnvC scope cl C X.env) fp) np is tg g) (ht : ∀ (s : Shared) (H : Hp) (C : Addr) (cl : List (Str × Addr)) (fp : List Addr), FTsX (X.blk s H scope (compEnvC scope cl C X.env) fp) np ifs tt)
    (he : ∀ (s : Shared) (H : Hp) (C : Addr) (cl : List (Str × Addr)) (fp : List Addr), FX (X.blk s H scope (compEnvC scope cl C X.env) fp) np elt fe) (hy : X.N[i]? = some y := by rfl) (hsub : ∀ i ∈ is, i ∈ own.map (·.2) := by decide) (hs : ∀ x, foldedSetIterable iter X.env x = pure x := by intro _; rfl) :
    FSX X np (.Assign [.Name y py] (.ListComp elt [⟨tg, iter, ifs, 0⟩] scope pos) spos) (fSet np i (fLc ow fi g tt fe (own.map (·.2)))) := by
  refine PS.weak (ps_setLc (g := upG X.K np is g) (tt := upT X.K np tt) (te := up X.K np fe) hc hN hy hyl hsw hi ok hg ht he hs) fun D σ H h => ?_
  obtain ⟨W, Γ, vs, ds, o, c, e, q⟩ := h
  obtain ⟨⟨t, Γ1⟩, e1, e⟩ := Option.bind_eq_some_iff.mp e
  refine lc_read (np := np) (ow := ow) hsub ⟨W, Γ, vs, tsd ds, t, Γ1, c, e1, fun v H1 c1 => ?_⟩
  obtain ⟨O, c1⟩ := c1
  cases t with
  | md m =>
    dsimp only at e
    split at e
    · cases e
    · rename_i hm
      cases e
      exact q _ _ (c1.store hm)
  | al j => cases e
end
end Fx

end

/-! Fx0: a def's contract where no repr is under way (so that repr of what a def is handed can be told) -/
noncomputable section
namespace Fx
open PySem PySem.Spec PyProof.Rows L2

/-- room, and no repr under way -/
structure RoomG (k : Nat) (A : Around) : Prop where
  r : Room k A
  g : A.guards = some []
theorem RoomG.mono {j k : Nat} {A : Around} (h : RoomG k A) (le : j ≤ k) : RoomG j A := ⟨h.r.mono le, h.g⟩
theorem RoomG.deeper {k : Nat} {A : Around} (h : RoomG (k + 1) A) (env : Env) : RoomG k (A.deeper env) := ⟨h.r.deeper env, h.g⟩
theorem RoomG.units {k : Nat} {A : Around} (h : RoomG k A) : A.units + 64 < cLine := h.r.units
/-- a def that keeps sp wherever there is room and no repr is under way; it raises nothing -/
structure FnG (P : Program) (w : World) (K : PySem.W.Frag) (mg : Str → Option Value) (base : Heap) (k : Nat) (f : Addr) (fd : FuncData) (ps : List Str) (sp : Sp) : Prop where
  many : ∀ (vs : List V) (H : Hp) (Q : VK) (E : XK), sp vs H Q E → vs.length = ps.length
  go : ∀ {A : Around} {fr : List Env} {s : Shared} {H : Hp} {as : Args} {us : List Value} {vs : List V} {Q : VK} {E : XK}, RoomG k A → Env0 P w K mg base A fr s H → BindsTo s fd as (ps.zip us) → Vals vs us →
    sp vs H Q E → codeAny (model P w) A (.call (.ref f) as) (CR CX0 fr P w H s Q E) s
section
variable {P : Program} {w : World} {K : PySem.W.Frag} {mg : Str → Option Value} {base : Heap}
theorem FnG.mono {j k : Nat} {f : Addr} {fd : FuncData} {ps : List Str} {sp : Sp} (G : FnG P w K mg base j f fd ps sp) (le : j ≤ k) : FnG P w K mg base k f fd ps sp :=
  ⟨G.many, fun hr => G.go (hr.mono le)⟩
theorem FnG.imp {k : Nat} {f : Addr} {fd : FuncData} {ps : List Str} {sp tp : Sp} (G : FnG P w K mg base k f fd ps sp) (h : ∀ vs H Q E, tp vs H Q E → sp vs H Q E) : FnG P w K mg base k f fd ps tp :=
  ⟨fun vs H Q E q => G.many vs H Q E (h _ _ _ _ q), fun hr e b r q => G.go hr e b r (h _ _ _ _ q)⟩
/-- from what a body does -/
theorem fnG_of {x qual : Str} {st : Stmt} {f : Addr} {fd : FuncData} {N ps : List Str} {k : Nat} {sp : Sp} (F : Fun K x qual st f fd) (S : FnScope N ps (defScope st)) (many : ∀ vs H Q E, sp vs H Q E → vs.length = ps.length)
    (body : ∀ (cdv : Value) (A : Around) (fr : List Env) (s : Shared) (H : Hp) (vs : List V) (Q : VK) (E : XK), RoomG k (A.deeper (envOfC qual (defScope st) s.heap.objs.size f cdv)) → sp vs H Q E →
      ∃ t, PSs (cxOf CX0 P w K mg base N qual (defScope st) f cdv A fr s H E).nox (defBody st) t ∧ t { nx := fun _ H' => Q .non H', rt := Q } (L2.start N vs) H) : FnG P w K mg base (k + 1) f fd ps sp := by
  obtain ⟨oc, od, kV, doc, pm, an, cdv, ct, osl, rfl, lk, hcd⟩ := F.ex
  refine ⟨many, ?_⟩
  intro A fr s H as us vs Q E hr e0 hb r hsp
  have same := fun b o (e : base.get? b = some o) => (e0.bs b o e).1
  have inK : K.In s.heap := e0.mod.kin.keeps same
  have noL : s.heap.NoLimit := e0.mod.nolimit.keeps same
  have kinds : ∀ y ∈ ps.zip us, (defScope st).names.lookup y.1 = some .local ∨ ((defScope st).names.lookup y.1 = some .cell ∧ ((cellsFrom (s.heap.objs.size + 1) (defScope st).names []).lookup y.1).isSome = true) := by
    rintro ⟨n, v⟩ hy
    rcases S.par n (List.of_mem_zip hy).1 with q | q
    · exact Or.inl q
    · exact Or.inr ⟨q, PySem.W.cellsFrom_some _ _ _ (Or.inl q)⟩
  refine codeAny_call_function hr.r.depth (inK _ _ lk) rfl S.co S.gen rfl (PySem.W.codeRec_of inK hcd) (hb _ _ _ _ ?_)
  refine wpAny_newFunctionEnv_cells S.kind kinds ?_
  rintro env rfl s1 x
  refine ⟨noL.keeps x.toInCall.keep, codeAny_func ?_⟩
  obtain ⟨t, ht, hq⟩ := body cdv A fr s H vs Q E (hr.deeper _) hsp
  have I := inv_start (CX := CX0) (E := E) S hr.r.hd e0 (many _ _ _ _ hsp) r x
  refine wpAny_mono (ht.nox.run [] s1 (L2.start N vs) H _ I hq) ?_ fun e s' hs => hs
  intro fl s' hs
  cases fl with
  | next =>
    obtain ⟨σ2, H2, J, q⟩ := hs
    exact ⟨V.non, H2, J.os, J.bare, J.base, J.hok, rfl, q⟩
  | ret u =>
    obtain ⟨v, σ2, H2, J, rv, q⟩ := hs
    exact ⟨v, H2, J.os, J.bare, J.base, J.hok, rv, q⟩
  | brk => exact (let ⟨_, _, _, q⟩ := hs; False.elim q)
  | cont => exact (let ⟨_, _, _, q⟩ := hs; False.elim q)
end
/-! ### calls -/
section
variable {X : Cx} {k : Nat} {f : Addr} {fd : FuncData} {ps : List Str} {sp : Sp} {x : Str} {p pos : Pos} {e : Expr} {es : List Expr} {t : TA}
theorem runG {pins : List (Addr × Obj)} {σ : L2.St} {H : Hp} {s : Shared} {Q : VK} {as : Args} {us : List Value} {vs : List V} (G : FnG X.prog X.w X.K X.mg X.base k f fd ps sp) (hr : RoomG k X.A) (I : Inv X pins σ H s) (b : BindsTo s fd as (ps.zip us)) (r : Vals vs us)
    (h : sp vs H Q E0) : codeAny (model X.prog X.w) X.A (.call (.ref f) as) (fun r s' => match r with
      | .ok (.ret u) => EP X pins σ Q u s'
      | _ => False) s := by
  refine codeAny_mono (G.go hr I.env0 b r h) ?_
  intro r s' hq
  cases r with
  | error e => exact False.elim hq
  | ok fl =>
    cases fl with
    | ret u => exact I.after hq
    | next => exact False.elim hq
    | brk => exact False.elim hq
    | cont => exact False.elim hq
theorem callG {pins : List (Addr × Obj)} {σ : L2.St} {H : Hp} {s : Shared} {Q : VK} {us : List Value} {vs : List V} (G : FnG X.prog X.w X.K X.mg X.base k f fd ps sp) (hr : RoomG k X.A) (hb : Binds X.K fd ps []) (I : Inv X pins σ H s) (r : Vals vs us) (h : sp vs H Q E0) :
    wpAny (model X.prog X.w) X.A (call (.ref f) us) (EP X pins σ Q) X.xe s := by
  have hl : (us ++ []).length = ps.length := by
    rw [List.append_nil, ← r.length]
    exact G.many _ _ _ _ h
  have b := hb s us I.kIn hl
  rw [List.append_nil] at b
  refine wpAny_call (codeAny_mono (runG G hr I b r h) ?_)
  intro r s' hq
  cases r with
  | error e => exact False.elim hq
  | ok fl =>
    cases fl with
    | ret u => exact hq
    | next => exact False.elim hq
    | brk => exact False.elim hq
    | cont => exact False.elim hq
theorem pe_callG (G : FnG X.prog X.w X.K X.mg X.base k f fd ps sp) (hr : RoomG k X.A) (hg : Gl X x) (hm : X.mg x = some (.ref f)) (hk : PySem.W.keepIn X.K (.ref f) = true) (hb : Binds X.K fd ps []) (ha : PA X (e :: es) t)
    (hdb : (x == ("__debug__" : Str)) = false) (he : starEach (e :: es) X.env = (false, eval e X.env) :: starEach es X.env) (hpl : (backTo pos (starEach es X.env)).any (·.1) = false) : PE X (.Call (.Name x p) (e :: es) [] pos) (fun σ H Q => t σ H fun vs H1 => sp vs H1 Q E0) := by
  constructor
  intro pins s σ H Q I h
  apply wpAny_Call_Name_kw
  apply ld_glob I hg hm _ hdb
  refine PySem.W.callWith_K (h₀ := X.base) I.ok.mod.kin hk (thn (ha.run pos pins s σ H _ I h) ?_) he hpl
  rintro us s1 ⟨vs, H1, I1, r, q⟩
  exact ⟨I1.kIn, callG G hr hb I1 r q⟩
theorem callGk {pins : List (Addr × Obj)} {σ : L2.St} {H : Hp} {s : Shared} {Q : VK} {us ws : List Value} {vs zs : List V} {ks : List Str} {g : List Value → List Value → List Value} {gV : List V → List V → List V} (G : FnG X.prog X.w X.K X.mg X.base k f fd ps sp) (hr : RoomG k X.A) (hb : KBinds X.K fd ps ks g gV)
    (I : Inv X pins σ H s) (r : Vals vs us) (rz : Vals zs ws) (h : sp (gV vs zs) H Q E0) : wpAny (model X.prog X.w) X.A (call (.ref f) us (ks.zip ws)) (EP X pins σ Q) X.xe s := by
  have r2 := hb.rel r rz
  have hl : (g us ws).length = ps.length := by
    rw [← r2.length]
    exact G.many _ _ _ _ h
  refine wpAny_call (codeAny_mono (runG G hr I (hb.to s us ws I.kIn hl) r2 h) ?_)
  intro r s' hq
  cases r with
  | error e => exact False.elim hq
  | ok fl =>
    cases fl with
    | ret u => exact hq
    | next => exact False.elim hq
    | brk => exact False.elim hq
    | cont => exact False.elim hq
end
end Fx

end

/-! Fx9: defs and their calls -/
noncomputable section
namespace Fx
open PySem PySem.Spec PyProof.Rows L2

def isSlot : Tag → Prop
  | .slot _ => True
  | _ => False
/-- a def by values: the result, and what its parameters own behind it -/
abbrev FF := List MD → Option (MD × List (Option MD))
def spF (K : PySem.W.Frag) (F : FF) : Sp := fun vs H Q _ => ∃ O ms r ms', (∀ b t, O b = some t → H b ≠ none) ∧ (∀ b k, O b ≠ some (.tmp k)) ∧ vs.length = ms.length ∧
  (∀ (k : Nat) (m : MD), ms[k]? = some m → ∃ v, vs[k]? = some v ∧ MR K O H (.slot k) m v) ∧ F ms = some (r, ms') ∧
  ∀ v H' O' n, Ev isSlot O H O' H' → MR K O' H' (.tmp n) r v → (∀ (k : Nat) (m : MD), ms'[k]? = some (some m) → ∃ v, vs[k]? = some v ∧ MR K O' H' (.slot k) m v) → Q v H'
def outs (np : Nat) (Γ : Gm) : List (Option MD) := (Γ.take np).map fun o => o.bind fun m => if m.own then some m else none
def fnOf (np len : Nat) (g : FS) : FF := fun ms => if ms.length = np then (g (ms.map some ++ List.replicate (len - np) none)).bind fun o => match o with
    | .rt r Γ => some (r, outs np Γ)
    | .nx Γ => some (.dat .none, outs np Γ)
    | _ => none
  else none
theorem outs_get {np : Nat} {Γ : Gm} {k : Nat} {m : MD} (h : (outs np Γ)[k]? = some (some m)) : k < np ∧ Γ[k]? = some (some m) ∧ m.own = true := by
  unfold outs at h
  rw [List.getElem?_map] at h
  cases q : (Γ.take np)[k]? with
  | none => rw [q] at h; cases h
  | some o =>
    rw [q] at h
    have hk : k < np := by
      have := (List.getElem?_eq_some_iff.mp q).1
      simp at this
      omega
    rw [List.getElem?_take_of_lt hk] at q
    have h' := Option.some.inj h
    obtain ⟨m', e1, e2⟩ := Option.bind_eq_some_iff.mp h'
    split at e2
    · rename_i ho
      cases e2
      exact ⟨hk, by rw [q, e1], ho⟩
    · cases e2
section
variable {P : Program} {w : World} {K : PySem.W.Frag} {mg : Str → Option Value} {base : Heap}
theorem start_get {N : List Str} {vs : List V} {k : Nat} {v : V} (h : vs[k]? = some v) : (L2.start N vs)[k]? = some (some v) := by
  unfold L2.start
  have hk := (List.getElem?_eq_some_iff.mp h).1
  rw [List.getElem?_append_left (by simpa using hk), List.getElem?_map, h]
  rfl
theorem fn_ok {x qual : Str} {st : Stmt} {f : Addr} {fd : FuncData} {N ps : List Str} {k : Nat} {g : FS} (F : Fun K x qual st f fd) (S : FnScope N ps (defScope st))
    (hbody : ∀ (cdv : Value) (A : Around) (outer : List Env) (s : Shared) (H : Hp) (Q : VK) (E : XK), RoomG k (A.deeper (envOfC qual (defScope st) s.heap.objs.size f cdv)) →
      FSsX (cxOf CX0 P w K mg base N qual (defScope st) f cdv A outer s H E).nox ps.length (defBody st) g) : FnG P w K mg base (k + 1) f fd ps (spF K (fnOf ps.length N.length g)) := by
  refine fnG_of F S (fun vs H Q E h => ?_) (fun cdv A outer s H vs Q E hr h => ⟨_, hbody cdv A outer s H Q E hr, ?_⟩)
  · obtain ⟨O, ms, r, ms', _, _, hl, _, e, _⟩ := h
    unfold fnOf at e
    split at e
    · rename_i h1
      rw [hl, h1]
    · cases e
  · obtain ⟨O, ms, r, ms', dom, wt, hl, ha, e, q⟩ := h
    unfold fnOf at e
    split at e
    · rename_i h1
      obtain ⟨o, e1, e⟩ := Option.bind_eq_some_iff.mp e
      have hΓ : ∀ (i : Nat) (m : MD), (ms.map some ++ List.replicate (N.length - ps.length) none)[i]? = some (some m) → ms[i]? = some m := fun i m hi => by
        by_cases hlt : i < ms.length
        · rw [List.getElem?_append_left (by simpa using hlt), List.getElem?_map] at hi
          cases qq : ms[i]? with
          | none => rw [qq] at hi; cases hi
          | some m' => rw [qq] at hi; exact Option.some.inj hi
        · rw [List.getElem?_append_right (by simpa using hlt), List.getElem?_replicate] at hi
          split at hi <;> cases hi
      have c0 : Cf K ps.length ⟨H, O, L2.start N vs⟩ O (L2.start N vs) H (ms.map some ++ List.replicate (N.length - ps.length) none) [] [] := by
        refine ⟨dom, fun i m hi => ?_, True.intro, fun b o h _ => ⟨h, rfl⟩, fun b h => h, wt, fun _ _ _ _ _ => rfl, ?_⟩
        · obtain ⟨v, e2, r2⟩ := ha i m (hΓ i m hi)
          exact ⟨v, start_get e2, r2⟩
        · unfold L2.start
          simp only [List.length_append, List.length_map, List.length_replicate]
          omega
      have fin : ∀ (σ : L2.St) (H' : Hp) (Γ : Gm) (v : V) (ts : List TV) (r : MD), Cfg K ps.length ⟨H, O, L2.start N vs⟩ σ H' Γ [v] [.md r] → (∀ v H' O' n, Ev isSlot O H O' H' → MR K O' H' (.tmp n) r v →
          (∀ (k : Nat) (m : MD), (outs ps.length Γ)[k]? = some (some m) → ∃ v, vs[k]? = some v ∧ MR K O' H' (.slot k) m v) → Q v H') → Q v H' := fun σ H' Γ v ts r ⟨O', c⟩ q => by
        refine q v H' O' 0 ⟨fun b o h n => c.keep b o h fun k z => n _ z True.intro, c.dom, c.out⟩ c.top fun k m hk => ?_
        obtain ⟨h3, h4, h5⟩ := outs_get hk
        obtain ⟨v', e3, r3⟩ := c.sl k m h4
        have e4 := c.arg k m h3 h4 h5
        have hv : k < vs.length := by omega
        have e5 : vs[k]? = some vs[k] := List.getElem?_eq_getElem hv
        have e6 := start_get (N := N) e5
        have e7 : (L2.start N vs)[k]? = some (some v') := e4.symm.trans e3
        rw [e6] at e7
        have e8 : vs[k] = v' := Option.some.inj (Option.some.inj e7)
        exact ⟨v', by rw [e5, e8], r3⟩
      refine ⟨⟨H, O, L2.start N vs⟩, _, [], [], o, ⟨O, c0⟩, e1, ?_⟩
      cases o with
      | rt m Γ =>
        cases e
        exact fun v σ H' c => fin σ H' Γ v [] _ c q
      | nx Γ =>
        cases e
        exact fun σ H' ⟨O', c⟩ => fin σ H' Γ .non [] _ ⟨O', c.push (t := .md (.dat .none)) (v := .non) (show Fz _ _ _ .none .non from .non)⟩ q
      | bk Γ => cases e
      | ct Γ => cases e
    · cases e
end

/-! ### calls -/
section
variable {K : PySem.W.Frag} {O O' O2 : Own} {H H' : Hp}
theorem MR.map {t t' : Tag} (h0 : ∀ b, O b = none → O2 b = none) (h1 : ∀ b, O b = some t → O2 b = some t') {m : MD} {v : V} (h : MR K O H t m v) : MR K O2 H t' m v := by
  have k : Kp O H O2 H := fun b o e n => ⟨e, h0 b n⟩
  cases m with
  | dat d => exact Fz.kp k _ _ h
  | lst xs =>
    obtain ⟨b, vs, e, q, h1', h2⟩ := h
    exact ⟨b, vs, e, h1 _ q, h1', FzA.kp k _ _ h2⟩
  | lls xss =>
    obtain ⟨b, as, vss, e, q, g0, g1, h2, h3, h4⟩ := h
    exact ⟨b, as, vss, e, h1 _ q, g0, g1, h2, Paired.mapP h3 fun c vs z => ⟨h1 _ z.1, z.2⟩, Paired.mapP h4 fun xs vs z => FzA.kp k _ _ z⟩
  | bag c b m =>
    obtain ⟨x, y, e, ne, q1, q2, h3, h4⟩ := h
    exact ⟨x, y, e, ne, h1 _ q1, h1 _ q2, h3, h4⟩
  | dcK kvs =>
    obtain ⟨b, ws, e, q, h3, h4⟩ := h
    exact ⟨b, ws, e, h1 _ q, h3, h4.kp k⟩
  | dcT kvs =>
    obtain ⟨b, ws, e, q, h3, h4⟩ := h
    exact ⟨b, ws, e, h1 _ q, h3, h4.kp k⟩
  | scr ns =>
    obtain ⟨b, e, h3 | h3⟩ := h
    · exact ⟨b, e, .inl ⟨h3.1, h0 _ h3.2⟩⟩
    · exact ⟨b, e, .inr h3⟩
end
def als : List TV → List Nat
  | [] => []
  | .al i :: us => i :: als us
  | .md _ :: us => als us
def alIx : List TV → Nat → Option Nat
  | [], _ => none
  | .al j :: us, i => if j = i then some 0 else (alIx us i).map (· + 1)
  | .md _ :: us, i => (alIx us i).map (· + 1)
def argsOf (Γ : Gm) : List TV → Option (List MD)
  | [] => some []
  | .md m :: us => if m.own = true then none else (argsOf Γ us).map fun l => m :: l
  | .al i :: us => match Γ[i]? with
    | some (some m) => (argsOf Γ us).map fun l => m :: l
    | _ => none
def putArgs : List TV → List (Option MD) → Gm → Option Gm
  | [], _, Γ => some Γ
  | .md _ :: us, _ :: ms, Γ => putArgs us ms Γ
  | .al i :: us, some m :: ms, Γ => if m.own = true then putArgs us ms (Γ.set i (some m)) else none
  | _, _, _ => none
theorem mem_als : ∀ {us : List TV} {k j : Nat}, us[k]? = some (.al j) → j ∈ als us
  | [], _, _, h => by simp at h
  | .al i :: us, 0, j, h => by
    simp at h
    subst h
    exact List.mem_cons_self
  | .al i :: us, k + 1, j, h => List.mem_cons_of_mem _ (mem_als (k := k) (by simpa using h))
  | .md m :: us, 0, j, h => by simp at h
  | .md m :: us, k + 1, j, h => mem_als (us := us) (k := k) (by simpa using h)
theorem alIx_of : ∀ {us : List TV} {k j : Nat}, (als us).Nodup → us[k]? = some (.al j) → alIx us j = some k
  | [], _, _, _, h => by simp at h
  | .al i :: us, 0, j, _, h => by
    simp at h
    subst h
    simp [alIx]
  | .al i :: us, k + 1, j, n, h => by
    have n' := List.nodup_cons.mp n
    have h' : us[k]? = some (.al j) := by simpa using h
    have ne : i ≠ j := fun z => n'.1 (z ▸ mem_als h')
    simp [alIx, ne, alIx_of n'.2 h']
  | .md m :: us, 0, j, _, h => by simp at h
  | .md m :: us, k + 1, j, n, h => by
    have h' : us[k]? = some (.al j) := by simpa using h
    simp [alIx, alIx_of (us := us) n h']
theorem alIx_to : ∀ {us : List TV} {k j : Nat}, alIx us j = some k → us[k]? = some (.al j)
  | [], _, _, h => by cases h
  | .al i :: us, k, j, h => by
    unfold alIx at h
    split at h
    · rename_i e
      cases h
      rw [e]
      rfl
    · obtain ⟨l, e1, e2⟩ := Option.map_eq_some_iff.mp h
      subst e2
      simpa using alIx_to e1
  | .md m :: us, k, j, h => by
    obtain ⟨l, e1, e2⟩ := Option.map_eq_some_iff.mp h
    subst e2
    simpa using alIx_to e1
theorem putArgs_to : ∀ {us : List TV} {ms : List (Option MD)} {Γ Γ' : Gm}, putArgs us ms Γ = some Γ' → Γ'.length = Γ.length ∧ (∀ j : Nat, j ∉ als us → Γ'[j]? = Γ[j]?) ∧
    ((als us).Nodup → ∀ (k j : Nat), us[k]? = some (TV.al j) → ∃ m, ms[k]? = some (some m) ∧ m.own = true ∧ (j < Γ.length → Γ'[j]? = some (some m)))
  | [], _, Γ, Γ', h => by
    cases h
    exact ⟨rfl, fun _ _ => rfl, fun _ k j h => by simp at h⟩
  | .md m0 :: us, [], _, _, h => by cases h
  | .md m0 :: us, mo :: ms, Γ, Γ', h => by
    obtain ⟨h1, h2, h3⟩ := putArgs_to (us := us) (ms := ms) h
    refine ⟨h1, h2, fun n k j hk => ?_⟩
    cases k with
    | zero => simp at hk
    | succ k => exact h3 n k j (by simpa using hk)
  | .al i :: us, [], _, _, h => by cases h
  | .al i :: us, none :: ms, _, _, h => by cases h
  | .al i :: us, some m :: ms, Γ, Γ', h => by
    unfold putArgs at h
    split at h
    · rename_i ho
      obtain ⟨h1, h2, h3⟩ := putArgs_to (us := us) (ms := ms) h
      refine ⟨by rw [h1, List.length_set], fun j hj => ?_, fun n k j hk => ?_⟩
      · have hj' : j ≠ i ∧ j ∉ als us := by simpa [als] using hj
        rw [h2 j hj'.2, List.getElem?_set_ne (Ne.symm hj'.1)]
      · have n' := List.nodup_cons.mp n
        cases k with
        | zero =>
          have e : i = j := by simpa using hk
          subst e
          exact ⟨m, rfl, ho, fun hl => by rw [h2 i n'.1, List.getElem?_set_self hl]⟩
        | succ k =>
          obtain ⟨m', e1, e2, e3⟩ := h3 n'.2 k j (by simpa using hk)
          exact ⟨m', e1, e2, fun hl => e3 (by rw [List.length_set]; exact hl)⟩
    · cases h
theorem argsOf_get {Γ : Gm} : ∀ {us : List TV} {ms : List MD}, argsOf Γ us = some ms → us.length = ms.length ∧ ∀ (k : Nat) (m : MD), ms[k]? = some m → (us[k]? = some (.md m) ∧ m.own = false) ∨ ∃ i, us[k]? = some (.al i) ∧ Γ[i]? = some (some m)
  | [], ms, e => by
    cases e
    exact ⟨rfl, fun k m h => by simp at h⟩
  | .md m0 :: us, ms, e => by
    unfold argsOf at e
    split at e
    · cases e
    · rename_i ho
      obtain ⟨l, e1, e2⟩ := Option.map_eq_some_iff.mp e
      subst e2
      obtain ⟨h1, h2⟩ := argsOf_get e1
      refine ⟨by simp [h1], fun k m hk => ?_⟩
      cases k with
      | zero =>
        simp at hk
        subst hk
        exact .inl ⟨rfl, by simpa using ho⟩
      | succ k => simpa using h2 k m (by simpa using hk)
  | .al i :: us, ms, e => by
    unfold argsOf at e
    split at e
    · rename_i m0 hm
      obtain ⟨l, e1, e2⟩ := Option.map_eq_some_iff.mp e
      subst e2
      obtain ⟨h1, h2⟩ := argsOf_get e1
      refine ⟨by simp [h1], fun k m hk => ?_⟩
      cases k with
      | zero =>
        simp at hk
        subst hk
        exact .inr ⟨i, rfl, hm⟩
      | succ k => simpa using h2 k m (by simpa using hk)
    · cases e
/-- the arguments in the parameters' order: js tells which -/
def pick (js : List Nat) (us : List TV) : Option (List TV) := js.foldr (fun j r => match us[j]?, r with
  | some u, some r => some (u :: r)
  | _, _ => none) (some [])
def fCall (F : FF) (fs : FA) : FE := fun Γ => (fs Γ).bind fun p => if (als p.1).Nodup then (argsOf p.2 p.1).bind fun ms => (F ms).bind fun r => (putArgs p.1 r.2 p.2).map fun Γ' => (.md r.1, Γ') else none
theorem Paired.get2 {α β : Type} {R : α → β → Prop} : ∀ {l : List α} {m : List β} {k : Nat} {b : β}, Paired R l m → m[k]? = some b → ∃ a, l[k]? = some a ∧ R a b
  | _, _, _, _, .nil, e => by simp at e
  | _, _, 0, _, .cons r _, e => by
    simp at e
    subst e
    exact ⟨_, rfl, r⟩
  | _, _, k + 1, b, .cons _ t, e => by
    obtain ⟨a, h1, h2⟩ := Paired.get2 (k := k) t (by simpa using e)
    exact ⟨a, by simpa using h1, h2⟩
theorem Paired.len2 {α β : Type} {R : α → β → Prop} : ∀ {l : List α} {m : List β}, Paired R l m → l.length = m.length
  | _, _, .nil => rfl
  | _, _, .cons _ t => by simp [Paired.len2 t]
/-- THE call: what the promise asks, from the state with the arguments -/
theorem callF {K : PySem.W.Frag} {np : Nat} {W : Wd} {σ : L2.St} {H : Hp} {Γ Γ' : Gm} {vs xs : List V} {ts us : List TV} {F : FF} {ms : List MD} {r : MD} {ms' : List (Option MD)} {O : Own} {Q : VK} {E : XK}
    (c : Cf K np W O σ H Γ vs ts) (pr : Paired (fun x u => ∃ g, TR K O H σ Γ g u x) xs us) (nd : (als us).Nodup) (ha : argsOf Γ us = some ms) (hF : F ms = some (r, ms')) (hp : putArgs us ms' Γ = some Γ')
    (q : ∀ v H', Cfg K np W σ H' Γ' (v :: vs) (.md r :: ts) → Q v H') : spF K F xs H Q E := by
  obtain ⟨hl, hg⟩ := argsOf_get ha
  obtain ⟨p1, p2, p3⟩ := putArgs_to hp
  -- ownership as the callee sees it
  let Oc : Own := fun b => match O b with
    | none => none
    | some (.slot i) => match alIx us i with
      | some k => some (.slot k)
      | none => some .out
    | some _ => some .out
  have oc0 : ∀ b, O b = none → Oc b = none := fun b h => by simp only [Oc, h]
  have ocn : ∀ b, Oc b = none → O b = none := fun b h => by
    simp only [Oc] at h
    split at h
    · assumption
    · split at h <;> cases h
    · cases h
  refine ⟨Oc, ms, r, ms', fun b t h => ?_, fun b k h => ?_, by rw [← hl]; exact Paired.len2 pr, fun k m hk => ?_, hF, fun v H' O' n ev mr margs => ?_⟩
  · cases z : O b with
    | none => rw [oc0 b z] at h; cases h
    | some t' => exact c.dom b t' z
  · simp only [Oc] at h
    split at h
    · cases h
    · split at h <;> cases h
    · cases h
  · rcases hg k m hk with ⟨hu, ho⟩ | ⟨i, hu, hm⟩
    · obtain ⟨x, hx, g, tr⟩ := Paired.get2 pr hu
      refine ⟨x, hx, ?_⟩
      have tr' : MR K O H g m x := tr
      cases m with
      | dat d => exact Fz.kp (fun b o e n => ⟨e, oc0 b n⟩) _ _ tr'
      | scr ns =>
        obtain ⟨b, e, h3 | h3⟩ := tr'
        · exact ⟨b, e, .inl ⟨h3.1, oc0 _ h3.2⟩⟩
        · exact ⟨b, e, .inr h3⟩
      | _ => cases ho
    · obtain ⟨x, hx, g, tr⟩ := Paired.get2 pr hu
      refine ⟨x, hx, ?_⟩
      obtain ⟨e1, _⟩ := tr
      obtain ⟨v', e2, r2⟩ := c.sl i m hm
      rw [e1] at e2
      cases e2
      exact MR.map oc0 (fun b hb => by simp only [Oc, hb, alIx_of nd hu]) r2
  · -- back
    let O2 : Own := fun b => match O' b with
      | none => none
      | some .out => O b
      | some (.slot k) => match us[k]? with
        | some (.al i) => some (.slot i)
        | _ => some (.tmp ts.length)
      | some (.tmp _) => some (.tmp ts.length)
    have o20 : ∀ b, O' b = none → O2 b = none := fun b h => by simp only [O2, h]
    have ev2 : Ev (fun t => ∃ (i k : Nat), us[k]? = some (TV.al i) ∧ t = Tag.slot i) O H O2 H' := by
      refine ⟨fun b o h nj => ?_, fun b t h => ?_, fun b h => ?_⟩
      · have hoc : ∀ t, Oc b = some t → t = .out := fun t ht => by
          simp only [Oc] at ht
          split at ht
          · cases ht
          · rename_i i hi
            split at ht
            · rename_i k hk
              exact absurd ⟨i, k, alIx_to hk, rfl⟩ (nj _ hi)
            · exact (Option.some.inj ht).symm
          · exact (Option.some.inj ht).symm
        obtain ⟨h1, h2⟩ := ev.kp b o h fun t ht z => by rw [hoc t ht] at z; exact z
        refine ⟨h1, ?_⟩
        cases z : Oc b with
        | none =>
          rw [z] at h2
          rw [o20 b h2, ocn b z]
        | some t =>
          have := hoc t z
          subst this
          rw [z] at h2
          simp only [O2, h2]
      · cases z : O' b with
        | none => rw [o20 b z] at h; cases h
        | some t' => exact ev.dom b t' z
      · simp only [O2] at h
        split at h
        · cases h
        · exact h
        · split at h <;> cases h
        · cases h
    have own2 : ∀ (i : Nat) (m : MD), Γ[i]? = some (some m) → m.own = true → ∃ m' : MD, Γ'[i]? = some (some m') ∧ m'.own = true := fun i m hi ho => by
      by_cases hal : ∃ k : Nat, us[k]? = some (.al i)
      · obtain ⟨k, hk⟩ := hal
        obtain ⟨m', _, e2, e3⟩ := p3 nd k i hk
        exact ⟨m', e3 (List.getElem?_eq_some_iff.mp hi).1, e2⟩
      · refine ⟨m, ?_, ho⟩
        rw [p2 i fun z => ?_]
        · exact hi
        · have memIx : ∀ {us : List TV} {i : Nat}, i ∈ als us → ∃ k : Nat, us[k]? = some (.al i) := by
            intro us
            induction us with
            | nil => intro i h; cases h
            | cons u us ih =>
              intro i h
              cases u with
              | md m =>
                obtain ⟨k, e⟩ := ih h
                exact ⟨k + 1, by simpa using e⟩
              | al j =>
                rcases List.mem_cons.mp h with rfl | h
                · exact ⟨0, rfl⟩
                · obtain ⟨k, e⟩ := ih h
                  exact ⟨k + 1, by simpa using e⟩
          exact hal (memIx z)
    have hfree : ∀ i, i ∉ als us → ¬ ∃ (i' k : Nat), us[k]? = some (TV.al i') ∧ Tag.slot i = .slot i' := fun i hi ⟨i', k, hk, e⟩ => by
      cases e
      exact hi (mem_als hk)
    have c3 : Cf K np W O2 σ H' Γ' vs ts := by
      refine ⟨ev2.dom, fun j m hj => ?_, Tm.ev (ts := ts) ev2 (fun k z => ?_) own2 (Nat.le_refl _) c.tm, fun b o h n => ?_, fun b h => c.out b (ev2.out b h), c.wt, fun j m hjn hj ho => ?_, by rw [p1]; exact c.len⟩
      · by_cases hjal : ∃ k : Nat, us[k]? = some (.al j)
        · obtain ⟨k, hk⟩ := hjal
          obtain ⟨m', e1, e2, e3⟩ := p3 nd k j hk
          obtain ⟨x, hx, g, e4, m0, e5, _⟩ := Paired.get2 pr hk
          have hlt : j < Γ.length := (List.getElem?_eq_some_iff.mp e5).1
          rw [e3 hlt] at hj
          cases hj
          obtain ⟨x', hx', r2⟩ := margs k _ e1
          rw [hx] at hx'
          cases hx'
          exact ⟨x, e4, MR.map o20 (fun b hb => by simp only [O2, hb, hk]) r2⟩
        · have hna : j ∉ als us := fun z => by
            have memIx : ∀ {us : List TV} {i : Nat}, i ∈ als us → ∃ k : Nat, us[k]? = some (.al i) := by
              intro us
              induction us with
              | nil => intro i h; cases h
              | cons u us ih =>
                intro i h
                cases u with
                | md m =>
                  obtain ⟨k, e⟩ := ih h
                  exact ⟨k + 1, by simpa using e⟩
                | al j =>
                  rcases List.mem_cons.mp h with rfl | h
                  · exact ⟨0, rfl⟩
                  · obtain ⟨k, e⟩ := ih h
                    exact ⟨k + 1, by simpa using e⟩
            exact hjal (memIx z)
          rw [p2 j hna] at hj
          obtain ⟨x, e1, r1⟩ := c.sl j m hj
          exact ⟨x, e1, r1.ev ev2 (hfree j hna)⟩
      · obtain ⟨_, _, _, z⟩ := z
        cases z
      · obtain ⟨h1, e1⟩ := c.keep b o h n
        obtain ⟨h2, e2⟩ := ev2.kp b o h1 fun t ht ⟨i, k, _, z⟩ => by
          subst z
          rw [e1] at ht
          exact n i ht
        exact ⟨h2, e2.trans e1⟩
      · by_cases hjal : ∃ k : Nat, us[k]? = some (.al j)
        · obtain ⟨k, hk⟩ := hjal
          obtain ⟨x, hx, g, e4, m0, e5, e6⟩ := Paired.get2 pr hk
          exact c.arg j m0 hjn e5 e6
        · have hna : j ∉ als us := fun z => by
            have memIx : ∀ {us : List TV} {i : Nat}, i ∈ als us → ∃ k : Nat, us[k]? = some (.al i) := by
              intro us
              induction us with
              | nil => intro i h; cases h
              | cons u us ih =>
                intro i h
                cases u with
                | md m =>
                  obtain ⟨k, e⟩ := ih h
                  exact ⟨k + 1, by simpa using e⟩
                | al j =>
                  rcases List.mem_cons.mp h with rfl | h
                  · exact ⟨0, rfl⟩
                  · obtain ⟨k, e⟩ := ih h
                    exact ⟨k + 1, by simpa using e⟩
            exact hjal (memIx z)
          rw [p2 j hna] at hj
          exact c.arg j m hjn hj ho
    exact q v H' ⟨O2, c3.push (MR.map o20 (fun b hb => by simp only [O2, hb]) mr)⟩
section
variable {X : Cx} {np k : Nat} {f : Addr} {fd : FuncData} {ps : List Str} {x : Str} {p pos : Pos} {e : Expr} {es : List Expr} {F : FF} {fs : FA}
theorem fx_call (G : FnG X.prog X.w X.K X.mg X.base k f fd ps (spF X.K F)) (hr : RoomG k X.A) (hm : X.mg x = some (.ref f)) (hk : PySem.W.keepIn X.K (.ref f) = true) (hb : Binds X.K fd ps [])
    (ha : FAX X np (e :: es) fs) (hg : Gl X x := by rfl) (hdb : (x == ("__debug__" : Str)) = false := by decide) (he : starEach (e :: es) X.env = (false, eval e X.env) :: starEach es X.env := by rfl) (hpl : (backTo pos (starEach es X.env)).any (·.1) = false := by rfl) :
    FX X np (.Call (.Name x p) (e :: es) [] pos) (fCall F fs) := by
  refine PE.weak (pe_callG G hr hg hm hk hb ha hdb he hpl) fun σ H Q h => ?_
  obtain ⟨W, Γ, vs, ts, t, Γ', c, e, q⟩ := h
  obtain ⟨⟨us, Γ1⟩, e1, e⟩ := Option.bind_eq_some_iff.mp e
  dsimp only at e
  split at e
  · rename_i nd
    obtain ⟨ms, e2, e⟩ := Option.bind_eq_some_iff.mp e
    obtain ⟨⟨r, ms'⟩, e3, e⟩ := Option.bind_eq_some_iff.mp e
    obtain ⟨Γ2, e4, e⟩ := Option.map_eq_some_iff.mp e
    cases e
    refine ⟨W, Γ, vs, ts, us, Γ1, c, e1, fun xs H1 c1 el => ?_⟩
    obtain ⟨O, c1⟩ := c1
    obtain ⟨pr, c2⟩ := c1.args el
    exact callF c2 pr nd e2 e3 e4 q
  · cases e
end
end Fx

end

/-! Fx10: what changes a slot's list, slices, list(range), isinstance, two names at once -/
noncomputable section
namespace Fx
open PySem PySem.Spec PyProof.Rows L2

section
variable {K : PySem.W.Frag} {np : Nat} {W : Wd} {O O' : Own} {σ σ' : L2.St} {H H' : Hp} {Γ Γ' : Gm} {vs : List V} {ts : List TV}
theorem Cf.mutS {i : Nat} {m m' : MD} {v : V} (c : Cf K np W O σ H Γ vs ts) (hi : Γ[i]? = some (some m)) (ho : m.own = true) (a : Ev (· = .slot i) O H O' H') (ev : σ[i]? = some (some v)) (r : MR K O' H' (.slot i) m' v) (ho' : m'.own = true) :
    Cf K np W O' σ H' (Γ.set i (some m')) vs ts := by
  have hl : i < Γ.length := (List.getElem?_eq_some_iff.mp hi).1
  refine ⟨a.dom, fun j x e => ?_, Tm.ev (ts := ts) a (fun k z => by cases z) (fun j x e h => ?_) (Nat.le_refl _) c.tm, fun b o h n => ?_, fun b h => c.out b (a.out b h), c.wt, fun j x hj e h => ?_, by rw [List.length_set]; exact c.len⟩
  · by_cases ji : i = j
    · subst ji
      rw [List.getElem?_set_self hl] at e
      cases e
      exact ⟨v, ev, r⟩
    · rw [List.getElem?_set_ne ji] at e
      obtain ⟨w, e1, r1⟩ := c.sl j x e
      exact ⟨w, e1, r1.ev a (by simpa using fun z => ji z.symm)⟩
  · by_cases ji : i = j
    · subst ji
      exact ⟨m', List.getElem?_set_self hl, ho'⟩
    · exact ⟨x, by rw [List.getElem?_set_ne ji]; exact e, h⟩
  · obtain ⟨h1, e1⟩ := c.keep b o h n
    obtain ⟨h2, e2⟩ := a.kp b o h1 fun t q z => by
      subst z
      rw [e1] at q
      exact n i q
    exact ⟨h2, e2.trans e1⟩
  · by_cases ji : i = j
    · subst ji
      exact c.arg i m hj hi ho
    · rw [List.getElem?_set_ne ji] at e
      exact c.arg j x hj e h
theorem Cf.lstAt {i : Nat} {xs : List PyData} (c : Cf K np W O σ H Γ vs ts) (hi : Γ[i]? = some (some (.lst xs))) : ∃ a ws, σ[i]? = some (some (.ref a)) ∧ O a = some (.slot i) ∧ H a = some (.lst ws) ∧ FzA K O H xs ws := by
  obtain ⟨v, e, a, ws, rfl, oa, ha, fa⟩ := c.sl i _ hi
  exact ⟨a, ws, e, oa, ha, fa⟩
/-- a list of a slot gets other items -/
theorem Cf.relist {i : Nat} {xs ys : List PyData} {a : Addr} {ws us : List V} (c : Cf K np W O σ H Γ vs ts) (hi : Γ[i]? = some (some (.lst xs))) (ev : σ[i]? = some (some (.ref a))) (oa : O a = some (.slot i)) (fa : FzA K O H ys us) :
    Cf K np W O σ (upd H a (.lst us)) (Γ.set i (some (.lst ys))) vs ts := by
  have w := Ev.write (o := .lst us) c.dom oa
  exact c.mutS hi rfl w ev ⟨a, us, rfl, oa, upd_same, FzA.kp w.k _ _ fa⟩ rfl
def lstS (Γ : Gm) (i : Nat) : Option (List PyData) := match Γ[i]? with
  | some (some (.lst xs)) => some xs
  | _ => none
theorem lstS_to {i : Nat} {xs : List PyData} (e : lstS Γ i = some xs) : Γ[i]? = some (some (.lst xs)) := by
  unfold lstS at e
  split at e
  · rename_i h
    cases e
    exact h
  · cases e
end

/-- no temporary names a slot -/
def noAl : List TV → Bool
  | [] => true
  | .al _ :: _ => false
  | .md _ :: ts => noAl ts
theorem noAl_tsd : ∀ (ds : List PyData), noAl (tsd ds) = true
  | [] => rfl
  | _ :: ds => noAl_tsd ds
section
variable {K : PySem.W.Frag} {np : Nat} {W : Wd} {O O' : Own} {σ σ' : L2.St} {H H' : Hp} {Γ Γ' : Gm}
theorem Tm.evM {J : Tag → Prop} (a : Ev J O H O' H') : ∀ {vs : List V} {ts : List TV}, (∀ k, J (.tmp k) → ts.length ≤ k) → noAl ts = true → Tm K O H σ Γ vs ts → Tm K O' H' σ' Γ' vs ts
  | [], [], _, _, _ => True.intro
  | v :: vs, .md m :: ts, hJ, n, h => ⟨MR.ev a (fun z => by have := hJ _ z; simp at this; omega) h.1, Tm.evM a (vs := vs) (ts := ts) (fun k z => by have := hJ k z; simp at this; omega) n h.2⟩
  | _ :: _, .al _ :: _, _, n, _ => by cases n
  | [], _ :: _, _, _, h => h.elim
  | _ :: _, [], _, _, h => h.elim
/-- the top temporary is stored in a slot; the others name none -/
theorem Cf.storeT {vs : List V} {ts : List TV} {v : V} {m : MD} {i : Nat} (c : Cf K np W O σ H Γ (v :: vs) (.md m :: ts)) (na : noAl ts = true) (h : ¬ (m.own = true ∧ i < np)) : Cfg K np W (σ.set i (some v)) H (Γ.set i (some m)) vs ts := by
  have a : Ev (· = .tmp ts.length) O H (retag O (.tmp ts.length) (some (.slot i))) H := Ev.retag (by simp) c.dom
  have r : MR K (retag O (.tmp ts.length) (some (.slot i))) H (.slot i) m v := MR.move c.dom (by simp) c.top
  refine ⟨_, a.dom, fun j m' e => ?_, Tm.evM a (fun k z => by injection z with z; omega) na c.pop.tm, (c.pop.ev a (by simp) (by simp) (fun k z => by injection z with z; omega)).keep, fun b hb => c.out b (a.out b hb), c.wt, fun j m' hj e ho => ?_, by rw [List.length_set, List.length_set]; exact c.len⟩
  · by_cases ji : i = j
    · subst ji
      by_cases hl : i < Γ.length
      · rw [List.getElem?_set_self hl] at e
        cases e
        exact ⟨v, List.getElem?_set_self (by rw [← c.len]; exact hl), r⟩
      · rw [List.getElem?_eq_none (by rw [List.length_set]; omega)] at e
        cases e
    · rw [List.getElem?_set_ne ji] at e
      obtain ⟨w, e1, r1⟩ := c.sl j m' e
      exact ⟨w, by rw [List.getElem?_set_ne ji]; exact e1, r1.ev a (by simp)⟩
  · by_cases ji : i = j
    · subst ji
      by_cases hl : i < Γ.length
      · rw [List.getElem?_set_self hl] at e
        cases e
        exact absurd ⟨ho, hj⟩ h
      · rw [List.getElem?_eq_none (by rw [List.length_set]; omega)] at e
        cases e
    · rw [List.getElem?_set_ne ji] at e
      rw [List.getElem?_set_ne ji]
      exact c.arg j m' hj e ho
end

section
variable {X : Cx} {np : Nat} {pos : Pos} {e : Expr} {f fv fi : FE}
def fAppend (i : Nat) (f : FE) : FE := fun Γ => (lstS Γ i).bind fun _ => (f Γ).bind fun p => (frz p.1).bind fun d => (lstS p.2 i).bind fun xs => if xs.length < sizeLine then some (.md (.dat .none), p.2.set i (some (.lst (xs ++ [d])))) else none
theorem fx_append (i : Nat) {x : Str} {px pa pc : Pos} (he : FX X np e f) (hN : X.N[i]? = some x := by rfl) (hv : Vis X.env.scope x := by first | exact Or.inl rfl | exact Or.inr (Or.inl rfl) | exact Or.inr (Or.inr rfl)) (hd : (x == ("__debug__" : Str)) = false := by decide) (hcd : (x == ("__classdict__" : Str)) = false := by decide)
    (hs : starEach [e] X.env = (false, eval e X.env) :: starEach [] X.env := by rfl) (h1 : attributeBase (.Name x px) "append" X.env (eval (.Name x px) X.env) = eval (.Name x px) X.env := by rfl)
    (h2 : ((backTo pc (starEach [e] X.env)).all (fun x => !x.1) && (backToKw pc (keywordEach [] X.env)).all (fun x => x.1.isSome) && decide ([e].length + ([] : List Keyword).length + (if ([] : List Keyword).isEmpty then 0 else 1) < 30)) = true := by rfl)
    (h3 : (pa.endLine == pc.line) = true := by rfl) (h4 : (backTo pc (starEach [] X.env)).any (·.1) = false := by rfl) : FX X np (.Call (.Attribute (.Name x px) "append" pa) [e] [] pc) (fAppend i f) := by
  refine PE.weak (pe_bm PySem.F.plainAttrs_list PySem.F.slot_list_append PySem.F.type_list_append mt_append (pe_var hN hv hd hcd) (pa_cons he pa_nil hs) h1 h2 h3 hs h4) fun σ H Q h => ?_
  obtain ⟨W, Γ, vs, ts, t, Γ', ⟨O, c⟩, e, q⟩ := h
  obtain ⟨xs0, g0, e⟩ := Option.bind_eq_some_iff.mp e
  obtain ⟨⟨u, Γ1⟩, g1, e⟩ := Option.bind_eq_some_iff.mp e
  obtain ⟨d, g2, e⟩ := Option.bind_eq_some_iff.mp e
  obtain ⟨xs, g3, e⟩ := Option.bind_eq_some_iff.mp e
  obtain ⟨a, ws0, ev, _, ha0, _⟩ := c.lstAt (lstS_to g0)
  refine ⟨.ref a, ev, .inl ⟨rfl, ws0, .of ha0⟩, W, Γ, vs, ts, u, Γ1, ⟨O, c⟩, g1, fun y H1 c1 => ?_⟩
  obtain ⟨O1, c1⟩ := c1
  have hu : u = .md (.dat d) := frz_to g2
  subst hu
  obtain ⟨a', ws, ev', oa, ha, fa⟩ := c1.pop.lstAt (lstS_to g3)
  rw [ev] at ev'
  cases ev'
  split at e
  · rename_i hl
    cases e
    refine ⟨a, ws, y, rfl, rfl, ha, by rw [← fa.length]; exact hl, ?_⟩
    have c2 := c1.pop.relist (ws := ws) (lstS_to g3) ev oa (fa.append (.cons c1.top .nil))
    exact q _ _ ⟨O1, c2.push (t := .md (.dat .none)) (show Fz _ _ _ .none .non from .non)⟩
  · cases e
/-- xs.extend(ys), ys plain data -/
def fExtend (i : Nat) (f : FE) : FE := fun Γ => (lstS Γ i).bind fun _ => (f Γ).bind fun p => (frz p.1).bind fun d => match d with
  | .list ys => (lstS p.2 i).bind fun xs => if xs.length + ys.length ≤ sizeLine then some (.md (.dat .none), p.2.set i (some (.lst (xs ++ ys)))) else none
  | _ => none
theorem fx_extend (i : Nat) {x : Str} {px pa pc : Pos} (he : FX X np e f) (hN : X.N[i]? = some x := by rfl) (hv : Vis X.env.scope x := by first | exact Or.inl rfl | exact Or.inr (Or.inl rfl) | exact Or.inr (Or.inr rfl)) (hd : (x == ("__debug__" : Str)) = false := by decide) (hcd : (x == ("__classdict__" : Str)) = false := by decide)
    (hs : starEach [e] X.env = (false, eval e X.env) :: starEach [] X.env := by rfl) (h1 : attributeBase (.Name x px) "extend" X.env (eval (.Name x px) X.env) = eval (.Name x px) X.env := by rfl)
    (h2 : ((backTo pc (starEach [e] X.env)).all (fun x => !x.1) && (backToKw pc (keywordEach [] X.env)).all (fun x => x.1.isSome) && decide ([e].length + ([] : List Keyword).length + (if ([] : List Keyword).isEmpty then 0 else 1) < 30)) = true := by rfl)
    (h3 : (pa.endLine == pc.line) = true := by rfl) (h4 : (backTo pc (starEach [] X.env)).any (·.1) = false := by rfl) : FX X np (.Call (.Attribute (.Name x px) "extend" pa) [e] [] pc) (fExtend i f) := by
  refine PE.weak (pe_bm PySem.F.plainAttrs_list PySem.F.slot_list_extend PySem.F.type_list_extend mt_extend (pe_var hN hv hd hcd) (pa_cons he pa_nil hs) h1 h2 h3 hs h4) fun σ H Q h => ?_
  obtain ⟨W, Γ, vs, ts, t, Γ', ⟨O, c⟩, e, q⟩ := h
  obtain ⟨xs0, g0, e⟩ := Option.bind_eq_some_iff.mp e
  obtain ⟨⟨u, Γ1⟩, g1, e⟩ := Option.bind_eq_some_iff.mp e
  obtain ⟨d, g2, e⟩ := Option.bind_eq_some_iff.mp e
  obtain ⟨a, ws0, ev, _, ha0, _⟩ := c.lstAt (lstS_to g0)
  refine ⟨.ref a, ev, .inl ⟨rfl, ws0, .of ha0⟩, W, Γ, vs, ts, u, Γ1, ⟨O, c⟩, g1, fun y H1 c1 => ?_⟩
  obtain ⟨O1, c1⟩ := c1
  have hu : u = .md (.dat d) := frz_to g2
  subst hu
  split at e
  · rename_i ys
    obtain ⟨xs, g3, e⟩ := Option.bind_eq_some_iff.mp e
    obtain ⟨a', ws, ev', oa, ha, fa⟩ := c1.pop.lstAt (lstS_to g3)
    rw [ev] at ev'
    cases ev'
    split at e
    · rename_i hl
      cases e
      obtain ⟨b, zs, rfl, hb, fb, _⟩ := Fz.sqL c1.top
      refine ⟨a, b, ws, zs, rfl, rfl, ha, hb, by rw [← fa.length, ← fb.length]; exact hl, ?_⟩
      have c2 := c1.pop.relist (ws := ws) (lstS_to g3) ev oa (fa.append fb)
      exact q _ _ ⟨O1, c2.push (t := .md (.dat .none)) (show Fz _ _ _ .none .non from .non)⟩
    · cases e
  · cases e
theorem FzA.dropLast {K : PySem.W.Frag} {O : Own} {H : Hp} {ds : List PyData} {vs : List V} (h : FzA K O H ds vs) : FzA K O H ds.dropLast vs.dropLast := by
  rw [List.dropLast_eq_take, List.dropLast_eq_take, h.length]
  exact h.take _
theorem FzA.eraseIdx {K : PySem.W.Frag} {O : Own} {H : Hp} : ∀ {ds : List PyData} {vs : List V} (k : Nat), FzA K O H ds vs → FzA K O H (ds.eraseIdx k) (vs.eraseIdx k)
  | [], _, k, h => by cases h; simp; exact .nil
  | _ :: _, _, 0, h => by
    cases h with
    | cons h1 h2 => exact h2
  | _ :: _, _, k + 1, h => by
    cases h with
    | cons h1 h2 => exact .cons h1 (FzA.eraseIdx k h2)
/-- xs.pop(), xs.pop(i) -/
def fPop (i : Nat) : FE := fun Γ => (lstS Γ i).bind fun xs => xs[xs.length - 1]?.map fun d => (.md (.dat d), Γ.set i (some (.lst xs.dropLast)))
theorem fx_pop (i : Nat) {x : Str} {px pa pc : Pos} (hN : X.N[i]? = some x := by rfl) (hv : Vis X.env.scope x := by first | exact Or.inl rfl | exact Or.inr (Or.inl rfl) | exact Or.inr (Or.inr rfl)) (hd : (x == ("__debug__" : Str)) = false := by decide) (hcd : (x == ("__classdict__" : Str)) = false := by decide)
    (h1 : attributeBase (.Name x px) "pop" X.env (eval (.Name x px) X.env) = eval (.Name x px) X.env := by rfl) (h3 : (pa.endLine == pc.line) = true := by rfl) : FX X np (.Call (.Attribute (.Name x px) "pop" pa) [] [] pc) (fPop i) := by
  refine PE.weak (pe_bm0 PySem.F.plainAttrs_list PySem.F.slot_list_pop PySem.F.type_list_pop mt_pop (pe_var hN hv hd hcd) h1 h3) fun σ H Q h => ?_
  obtain ⟨W, Γ, vs, ts, t, Γ', ⟨O, c⟩, e, q⟩ := h
  obtain ⟨xs, g0, e⟩ := Option.bind_eq_some_iff.mp e
  obtain ⟨d, g1, e⟩ := Option.map_eq_some_iff.mp e
  cases e
  obtain ⟨a, ws, ev, oa, ha, fa⟩ := c.lstAt (lstS_to g0)
  obtain ⟨y, hy, ry⟩ := fa.get g1
  rw [fa.length] at hy
  refine ⟨.ref a, ev, .inl ⟨rfl, ws, .of ha⟩, a, ws, y, rfl, rfl, ha, hy, ?_⟩
  have w := Ev.write (o := .lst ws.dropLast) c.dom oa
  have c2 := c.relist (ws := ws) (lstS_to g0) ev oa fa.dropLast
  exact q _ _ ⟨O, c2.push (t := .md (.dat d)) (Fz.kp w.k _ _ ry)⟩
def ixPop (n : Nat) (i : Int) : Option Nat := if -(2 ^ 63) ≤ i ∧ i < 2 ^ 63 then seqIndex? i n else none
def fPopAt (i : Nat) (f : FE) : FE := fun Γ => (lstS Γ i).bind fun _ => (f Γ).bind fun p => (intT p.1).bind fun j => (lstS p.2 i).bind fun xs => (ixPop xs.length j).bind fun k => xs[k]?.map fun d => (.md (.dat d), p.2.set i (some (.lst (xs.eraseIdx k))))
theorem fx_popAt (i : Nat) {x : Str} {px pa pc : Pos} (he : FX X np e f) (hN : X.N[i]? = some x := by rfl) (hv : Vis X.env.scope x := by first | exact Or.inl rfl | exact Or.inr (Or.inl rfl) | exact Or.inr (Or.inr rfl)) (hd : (x == ("__debug__" : Str)) = false := by decide) (hcd : (x == ("__classdict__" : Str)) = false := by decide)
    (hs : starEach [e] X.env = (false, eval e X.env) :: starEach [] X.env := by rfl) (h1 : attributeBase (.Name x px) "pop" X.env (eval (.Name x px) X.env) = eval (.Name x px) X.env := by rfl)
    (h2 : ((backTo pc (starEach [e] X.env)).all (fun x => !x.1) && (backToKw pc (keywordEach [] X.env)).all (fun x => x.1.isSome) && decide ([e].length + ([] : List Keyword).length + (if ([] : List Keyword).isEmpty then 0 else 1) < 30)) = true := by rfl)
    (h3 : (pa.endLine == pc.line) = true := by rfl) (h4 : (backTo pc (starEach [] X.env)).any (·.1) = false := by rfl) : FX X np (.Call (.Attribute (.Name x px) "pop" pa) [e] [] pc) (fPopAt i f) := by
  refine PE.weak (pe_bm PySem.F.plainAttrs_list PySem.F.slot_list_pop PySem.F.type_list_pop mt_popAt (pe_var hN hv hd hcd) (pa_cons he pa_nil hs) h1 h2 h3 hs h4) fun σ H Q h => ?_
  obtain ⟨W, Γ, vs, ts, t, Γ', ⟨O, c⟩, e, q⟩ := h
  obtain ⟨xs0, g0, e⟩ := Option.bind_eq_some_iff.mp e
  obtain ⟨⟨u, Γ1⟩, g1, e⟩ := Option.bind_eq_some_iff.mp e
  obtain ⟨j, g2, e⟩ := Option.bind_eq_some_iff.mp e
  obtain ⟨xs, g3, e⟩ := Option.bind_eq_some_iff.mp e
  obtain ⟨k, g4, e⟩ := Option.bind_eq_some_iff.mp e
  obtain ⟨d, g5, e⟩ := Option.map_eq_some_iff.mp e
  cases e
  obtain ⟨a, ws0, ev, _, ha0, _⟩ := c.lstAt (lstS_to g0)
  refine ⟨.ref a, ev, .inl ⟨rfl, ws0, .of ha0⟩, W, Γ, vs, ts, u, Γ1, ⟨O, c⟩, g1, fun y H1 c1 => ?_⟩
  obtain ⟨O1, c1⟩ := c1
  have hu : u = .md (.dat (.int j)) := intT_to g2
  subst hu
  obtain ⟨a', ws, ev', oa, ha, fa⟩ := c1.pop.lstAt (lstS_to g3)
  rw [ev] at ev'
  cases ev'
  have ry : Fz X.K O1 H1 (.int j) y := c1.top
  cases ry
  obtain ⟨z, hz, rz⟩ := fa.get g5
  unfold ixPop at g4
  split at g4
  · rename_i hj
    refine ⟨a, ws, j, k, z, rfl, rfl, ha, hj.1, hj.2, by rw [← fa.length]; exact g4, hz, ?_⟩
    have w := Ev.write (o := .lst (ws.eraseIdx k)) c1.pop.dom oa
    have c2 := c1.pop.relist (ws := ws) (lstS_to g3) ev oa (fa.eraseIdx k)
    exact q _ _ ⟨O1, c2.push (t := .md (.dat d)) (Fz.kp w.k _ _ rz)⟩
  · cases g4
/-- xs[k] = v, a slot's list -/
def fPutIx (i : Nat) (fv fi : FE) : FS := fun Γ => (fv Γ).bind fun p => (frz p.1).bind fun d => (lstS p.2 i).bind fun _ => (fi p.2).bind fun p2 => (intT p2.1).bind fun k => (lstS p2.2 i).bind fun xs => (ixN xs.length k).map fun j => .nx (p2.2.set i (some (.lst (xs.set j d))))
theorem fs_putIx (i : Nat) {x : Str} {px ps : Pos} {v ix : Expr} (hv' : FX X np v fv) (hi' : FX X np ix fi) (hN : X.N[i]? = some x := by rfl) (hv : Vis X.env.scope x := by first | exact Or.inl rfl | exact Or.inr (Or.inl rfl) | exact Or.inr (Or.inr rfl)) (hd : (x == ("__debug__" : Str)) = false := by decide) (hcd : (x == ("__classdict__" : Str)) = false := by decide)
    (h0 : ∀ v, assign (.Subscript (.Name x px) ix ps) X.env v = (do
      let ov ← holding [v] (eval (.Name x px) X.env)
      let iv ← holding [v, ov] (eval ix X.env)
      standAt ps
      holding [v, ov, iv] (setItem ov iv v)
      release [v, ov, iv] []) := by intro _; rfl)
    (hs : swapsWithSole [.Subscript (.Name x px) ix ps] v pos.line X.env = pure false := by rfl) (hw : swappedStores [.Subscript (.Name x px) ix ps] v X.env = pure none := by rfl) (h1 : (assignEach [.Subscript (.Name x px) ix ps] X.env).map (·.2) = [assign (.Subscript (.Name x px) ix ps) X.env] := by rfl) :
    FSX X np (.Assign [.Subscript (.Name x px) ix ps] v pos) (fPutIx i fv fi) := by
  refine PS.weak (ps_asg hv' (pg_sub (pe_var hN hv hd hcd) hi' set_list h0) hs hw h1) fun D σ H h => ?_
  obtain ⟨W, Γ, vs, ds, o, c, e, q⟩ := h
  obtain ⟨⟨t1, Γ1⟩, g1, e⟩ := Option.bind_eq_some_iff.mp e
  obtain ⟨d, g2, e⟩ := Option.bind_eq_some_iff.mp e
  obtain ⟨xs0, g0, e⟩ := Option.bind_eq_some_iff.mp e
  obtain ⟨⟨t2, Γ2⟩, g3, e⟩ := Option.bind_eq_some_iff.mp e
  obtain ⟨k, g4, e⟩ := Option.bind_eq_some_iff.mp e
  obtain ⟨xs, g5, e⟩ := Option.bind_eq_some_iff.mp e
  obtain ⟨j, g6, e⟩ := Option.map_eq_some_iff.mp e
  cases e
  have h1' : t1 = .md (.dat d) := frz_to g2
  subst h1'
  have h2' : t2 = .md (.dat (.int k)) := intT_to g4
  subst h2'
  refine ⟨W, Γ, vs, tsd ds, _, Γ1, c, g1, fun y H1 c1 => ?_⟩
  obtain ⟨O1, c1⟩ := c1
  obtain ⟨a, _, hv0, _, _, _⟩ := c1.lstAt (lstS_to g0)
  refine ⟨.ref a, hv0, W, Γ1, y :: vs, _ :: tsd ds, _, Γ2, ⟨O1, c1⟩, g3, fun z H2 c2 => ?_⟩
  obtain ⟨O2, c2⟩ := c2
  obtain ⟨a', ws, ev, oa, ha, fa⟩ := c2.lstAt (lstS_to g5)
  rw [hv0] at ev
  cases ev
  have rz : Fz X.K O2 H2 (.int k) z := c2.top
  cases rz
  refine ⟨a, ws, k, j, rfl, rfl, ha, by rw [← fa.length]; exact g6, ?_⟩
  exact q σ _ ⟨O2, (c2.pop.pop.relist (ws := ws) (lstS_to g5) hv0 oa (fa.set c2.pop.top j))⟩

/-! ### slices -/
abbrev FO := Gm → Option (Option Int × Gm)
def upO (K : PySem.W.Frag) (np : Nat) (f : FO) : TO := fun σ H Q => ∃ W Γ vs ts o Γ', Cfg K np W σ H Γ vs ts ∧ f Γ = some (o, Γ') ∧ ∀ H', Cfg K np W σ H' Γ' vs ts → Q o H'
def FOX (X : Cx) (np : Nat) (e : Option Expr) (f : FO) : Prop := PO X e (upO X.K np f)
theorem PO.weak {X : Cx} {e : Option Expr} {t t' : TO} (h : PO X e t) (w : ∀ σ H Q, t' σ H Q → t σ H Q) : PO X e t' := ⟨fun pins s σ H Q I q => h.run pins s σ H Q I (w σ H Q q)⟩
def fONo : FO := fun Γ => some (none, Γ)
def fOSo (f : FE) : FO := fun Γ => (f Γ).bind fun p => (intT p.1).map fun i => (some i, p.2)
theorem fo_none : FOX X np none fONo := by
  refine PO.weak po_none fun σ H Q h => ?_
  obtain ⟨W, Γ, vs, ts, o, Γ', c, e, q⟩ := h
  cases e
  exact q H c
theorem fo_some (he : FX X np e f) : FOX X np (some e) (fOSo f) := by
  refine PO.weak (po_some he) fun σ H Q h => ?_
  obtain ⟨W, Γ, vs, ts, o, Γ', c, e, q⟩ := h
  obtain ⟨⟨t, Γ1⟩, e1, e⟩ := Option.bind_eq_some_iff.mp e
  obtain ⟨i, e2, e⟩ := Option.map_eq_some_iff.mp e
  cases e
  have ht : t = .md (.dat (.int i)) := intT_to e2
  subst ht
  refine ⟨W, Γ, vs, ts, _, Γ1, c, e1, fun v H1 c1 => ?_⟩
  obtain ⟨O, c1⟩ := c1
  have r : Fz X.K O H1 (.int i) v := c1.top
  cases r
  exact ⟨i, rfl, q H1 ⟨O, c1.pop⟩⟩
def cutL {α : Type} (xs : List α) (lo hi : Option Int) : List α := (xs.drop (HT.sIx xs.length 0 lo)).take (HT.sIx xs.length xs.length hi - HT.sIx xs.length 0 lo)
theorem FzA.cut {K : PySem.W.Frag} {O : Own} {H : Hp} {ds : List PyData} {vs : List V} (h : FzA K O H ds vs) (lo hi : Option Int) : FzA K O H (cutL ds lo hi) (cutV vs lo hi) := by
  unfold cutL cutV
  rw [h.length]
  exact (h.drop _).take _
def gSl (d : PyData) (lo hi : Option Int) : Option Res := match d with
  | .list ds => some (.new (cutL ds lo hi))
  | .tuple ds => some (.val (.tuple (cutL ds lo hi)))
  | .str z => if z.length ≤ sizeLine then some (.val (.str (cutS z lo hi))) else none
  | _ => none
def dvS (Γ : Gm) : TV → Option PyData
  | .md (.scr ns) => some (.list (ns.map .int))
  | t => dv Γ t
theorem dvS_to {Γ : Gm} {t : TV} {d : PyData} (e : dvS Γ t = some d) : (∃ ns, t = .md (.scr ns) ∧ d = .list (ns.map .int)) ∨ dv Γ t = some d := by
  unfold dvS at e
  split at e
  · cases e
    exact .inl ⟨_, rfl, rfl⟩
  · exact .inr e
def fSlice (ow : Bool) (fa : FE) (lo hi : FO) : FE := fun Γ => (fa Γ).bind fun p => (lo p.2).bind fun p1 => (hi p1.2).bind fun p2 => (dvS p2.2 p.1).bind fun d => (gSl d p1.1 p2.1).map fun r => (r.fin ow, p2.2)
def rSlA3 (K : PySem.W.Frag) : V → Option Int → Option Int → Hp → VK → Prop := fun x lo hi H Q => rSlL K x lo hi H Q ∨ (rSlA K x lo hi H Q ∨ rSlS x lo hi H Q)
theorem cutL_whole {α : Type} {xs : List α} {lo hi : Option Int} (h : HT.sIx xs.length 0 lo = 0 ∧ HT.sIx xs.length xs.length hi = xs.length) : cutL xs lo hi = xs := by
  unfold cutL
  rw [h.1, h.2]
  simp
theorem fx_slice {ow : Bool} {a : Expr} {lo hi : Option Expr} {p2 : Pos} {fa : FE} {fl fh : FO} (ha : FX X np a fa) (hl : FOX X np lo fl) (hh : FOX X np hi fh) : FX X np (.Subscript a (.Slice lo hi none p2) pos) (fSlice ow fa fl fh) := by
  refine PE.weak (pe_slice (SlR.or sl_list (SlR.or sl_tupA sl_str)) ha hl hh) fun σ H Q h => ?_
  obtain ⟨W, Γ, vs, ts, t, Γ', c, e, q⟩ := h
  obtain ⟨⟨t1, Γ1⟩, e1, e⟩ := Option.bind_eq_some_iff.mp e
  obtain ⟨⟨l, Γ2⟩, e2, e⟩ := Option.bind_eq_some_iff.mp e
  obtain ⟨⟨u, Γ3⟩, e3, e⟩ := Option.bind_eq_some_iff.mp e
  obtain ⟨d, e4, e⟩ := Option.bind_eq_some_iff.mp e
  obtain ⟨r, e5, e⟩ := Option.map_eq_some_iff.mp e
  cases e
  refine ⟨W, Γ, vs, ts, t1, Γ1, c, e1, fun x H1 c1 => ⟨W, Γ1, _, _, l, Γ2, c1, e2, fun H2 c2 => ⟨W, Γ2, _, _, u, Γ3, c2, e3, fun H3 c3 => ?_⟩⟩⟩
  obtain ⟨O, c3⟩ := c3
  have fin : ∀ v H', ResOk X.K O H3 r v H' → Q v H' := fun v H' ok => q v H' (c3.pop.res ok)
  have go : Vw X.K O H3 d x → (rSlL X.K x l u H3 Q ∨ (rSlA X.K x l u H3 Q ∨ rSlS x l u H3 Q)) := fun hv => by
    unfold gSl at e5
    split at e5
    · cases e5
      obtain ⟨a, xs, rfl, ha, fa⟩ := hv
      exact .inl ⟨a, xs, rfl, .of ha, fun p hp => okn fin hp (fa.cut l u)⟩
    · cases e5
      have hv' := hv
      obtain ⟨a, xs, rfl, ha, fa⟩ := Fz.sqT hv
      refine .inr (.inl ⟨a, xs, rfl, ha, fun hw => ?_, fun _ p hp => okt c3.dom fin hp (fa.cut l u)⟩)
      rw [← fa.length] at hw
      rw [cutL_whole hw] at fin
      exact okv c3.dom fin hv'
    · split at e5
      · rename_i hz
        cases e5
        cases hv
        exact .inr (.inr ⟨_, rfl, hz, okv c3.dom fin (.str _)⟩)
      · cases e5
    · cases e5
  rcases dvS_to e4 with ⟨ns, ht, hd⟩ | e6
  · have ht' : t1 = .md (.scr ns) := ht
    subst ht'
    subst hd
    cases e5
    obtain ⟨a, rfl, hr⟩ := (show MR X.K O H3 (.tmp ts.length) (.scr ns) x from c3.top)
    have hs : SqL X.K H3 a (ns.map .int) := by
      rcases hr with hr | hr
      · exact .inl hr.1
      · rcases hr with hr | hr
        · rcases hr with hr | ⟨o, hr⟩ <;> cases hr
        · exact .inr hr
    exact .inl ⟨a, _, rfl, hs, fun p hp => okn fin hp ((FzA.ints ns).cut l u)⟩
  · exact go (c3.view c3.top e6)
/-- xs[::-1] -/
def fRevL (ow : Bool) (fa : FE) : FE := fun Γ => (fa Γ).bind fun p => (dv p.2 p.1).bind fun d => match d with
  | .list ds => some ((Res.new ds.reverse).fin ow, p.2)
  | _ => none
theorem fx_revL {ow : Bool} {a : Expr} {k : Nat} {p1 p2 p3 : Pos} {fa : FE} (ha : FX X np a fa) : FX X np (.Subscript a (.Slice none none (some (.UnaryOp .USub (.Constant (.int 1) k p1) p2)) p3) pos) (fRevL ow fa) := by
  refine PE.weak (pe_revL ha) fun σ H Q h => ?_
  obtain ⟨W, Γ, vs, ts, t, Γ', c, e, q⟩ := h
  obtain ⟨⟨t1, Γ1⟩, e1, e⟩ := Option.bind_eq_some_iff.mp e
  obtain ⟨d, e4, e⟩ := Option.bind_eq_some_iff.mp e
  refine ⟨W, Γ, vs, ts, t1, Γ1, c, e1, fun x H1 c1 => ?_⟩
  obtain ⟨O, c1⟩ := c1
  split at e
  · cases e
    obtain ⟨a, xs, rfl, ha, fa⟩ := c1.view c1.top e4
    exact ⟨a, xs, rfl, .of ha, fun p hp => okn (fun v H' ok => q v H' (c1.pop.res ok)) hp fa.reverse⟩
  · cases e
/-- list(range(..)) -/
def rg2Ok (a b : Int) : Bool := decide (-(2 ^ 62) ≤ a ∧ a < 2 ^ 62 ∧ -(2 ^ 62) ≤ b ∧ b < 2 ^ 62 ∧ (b - a).toNat ≤ 2 ^ 24)
theorem rg2Ok_to {a b : Int} (h : rg2Ok a b = true) : RgOk a b := by
  have h' := dec1 h
  exact h'
theorem rangeV {K : PySem.W.Frag} {O : Own} {H : Hp} (a b : Int) : FzA K O H (rangeD a (b - a).toNat) (rgV a b) := by
  unfold rangeD rgV
  generalize (b - a).toNat = n
  have : ∀ l : List Nat, FzA K O H (l.map fun (i : Nat) => PyData.int (a + i)) (l.map fun i => V.int (a + (i : Nat))) := by
    intro l
    induction l with
    | nil => exact .nil
    | cons i l ih => exact .cons (.int _) ih
  exact this _
def rgA (n : Int) : Option (List PyData) := @ite _ (rg2Ok 0 n = true) (Classical.propDecidable _) (some (rangeD 0 n.toNat)) none
def rgB (i j : Int) : Option (List PyData) := @ite _ (rg2Ok i j = true) (Classical.propDecidable _) (some (rangeD i (j - i).toNat)) none
theorem rgA_to {j : Int} {l : List PyData} (h : rgA j = some l) : rg2Ok 0 j = true ∧ l = rangeD 0 j.toNat := by
  unfold rgA at h
  split at h
  · rename_i h1
    exact ⟨h1, (Option.some.inj h).symm⟩
  · cases h
theorem rgB_to {i j : Int} {l : List PyData} (h : rgB i j = some l) : rg2Ok i j = true ∧ l = rangeD i (j - i).toNat := by
  unfold rgB at h
  split at h
  · rename_i h1
    exact ⟨h1, (Option.some.inj h).symm⟩
  · cases h
def fListR1 (ow : Bool) (f : FE) : FE := fun Γ => (f Γ).bind fun p => (intT p.1).bind fun n => (rgA n).map fun l => ((Res.new l).fin ow, p.2)
theorem fx_listR1 {ow : Bool} {a : Expr} {p pr pc : Pos} {fa : FE} (hc : X.calm = true) (ml : X.mg "list" = none) (mr : X.mg "range" = none) (ha : FX X np a fa) (gl : Gl X "list" := by rfl) (gr : Gl X "range" := by rfl)
    (n1 : starEach [a] X.env = (false, eval a X.env) :: starEach [] X.env := by rfl) (n2 : starEach [.Call (.Name "range" pr) [a] [] pc] X.env = (false, eval (.Call (.Name "range" pr) [a] [] pc) X.env) :: starEach [] X.env := by rfl) :
    FX X np (.Call (.Name "list" p) [.Call (.Name "range" pr) [a] [] pc] [] pos) (fListR1 ow fa) := by
  refine PE.weak (pe_listRg hc gl ml (prg_1 gr mr ha n1) n2) fun σ H Q h => ?_
  obtain ⟨W, Γ, vs, ts, t, Γ', c, e, q⟩ := h
  obtain ⟨⟨t1, Γ1⟩, e1, e⟩ := Option.bind_eq_some_iff.mp e
  obtain ⟨n, e2, e⟩ := Option.bind_eq_some_iff.mp e
  obtain ⟨l, e3, e4⟩ := Option.map_eq_some_iff.mp e
  cases e4
  have ht : t1 = .md (.dat (.int n)) := intT_to e2
  subst ht
  obtain ⟨hn, el⟩ := rgA_to e3
  subst el
  refine ⟨W, Γ, vs, ts, _, Γ1, c, e1, fun x H1 c1 => ?_⟩
  obtain ⟨O, c1⟩ := c1
  have r : Fz X.K O H1 (.int n) x := c1.top
  cases r
  refine ⟨n, rfl, rg2Ok_to hn, fun p hp => ?_⟩
  have := rangeV (K := X.K) (O := O) (H := H1) 0 n
  rw [Int.sub_zero] at this
  exact okn (fun v H' ok => q v H' (c1.pop.res ok)) hp this
/-! ### isinstance -/
def tyN : PyData → String
  | .none => "NoneType"
  | .bool _ => "bool"
  | .int _ => "int"
  | .str _ => "str"
  | .list _ => "list"
  | .tuple _ => "tuple"
  | .dict _ => "dict"
def fIsi (T : String) (f : FE) : FE := fun Γ => (f Γ).bind fun p => (dv p.2 p.1).bind fun d => (kitB (tyN d) T).map fun b => (.md (.dat (.bool b)), p.2)
theorem Vw.ty {K : PySem.W.Frag} {O : Own} {H : Hp} {d : PyData} {v : V} (h : Vw K O H d v) : TyX K H v (.type (tyN d)) := by
  cases d with
  | none => cases h; exact .base .non
  | bool b => cases h; exact .base (.bl b)
  | int i => cases h; exact .base (.int i)
  | str x => cases h; exact .base (.str x)
  | list ds =>
    obtain ⟨a, xs, rfl, ha, _⟩ := h
    exact .base (.lst ha)
  | tuple ds =>
    have h' : Fz K O H (.tuple ds) v := h
    cases h' with
    | tup hr n ha =>
      rcases hr with hr | ⟨o, hr⟩
      · exact .base (.tup hr)
      · exact .fTuple hr
    | tupK hr ha =>
      rcases hr with hr | hr
      · rcases hr with hr | ⟨o, hr⟩ <;> cases hr
      · obtain ⟨o, its, n, h1, h2, _⟩ := hr
        exact .kTuple h1 h2
  | dict ds =>
    have h' : Fz K O H (.dict ds) v := h
    cases h' with
    | dct hr n ha => exact .fDict hr
theorem fx_isi {T : String} {x : Str} {p pt : Pos} {fa : FE} {a : Expr} (hm : X.mg "isinstance" = none) (mt : X.mg x = none) (ha : FX X np a fa) (hb : bootBuiltins x = some (.type T) := by decide +kernel) (gi : Gl X "isinstance" := by rfl) (gt : Gl X x := by rfl) (hn : x ≠ "__name__" := by decide) (hd : (x == ("__debug__" : Str)) = false := by decide)
    (hv : bootBuiltins "isinstance" = some (.builtin "isinstance") := by decide +kernel)
    (n1 : starEach [a, .Name x pt] X.env = (false, eval a X.env) :: starEach [.Name x pt] X.env := by rfl) (n2 : starEach [.Name x pt] X.env = (false, eval (.Name x pt) X.env) :: starEach [] X.env := by rfl) (hpl : (backTo pos (starEach [.Name x pt] X.env)).any (·.1) = false := by rfl) :
    FX X np (.Call (.Name "isinstance" p) [a, .Name x pt] [] pos) (fIsi T fa) := by
  refine PE.weak (pe_callB call_isi gi hm hv (pa_cons ha (pa_cons (pe_bltn (v := .ty T) gt mt hb rfl hn hd) pa_nil n2) n1) (by decide) (by decide) n1 hpl) fun σ H Q h => ?_
  obtain ⟨W, Γ, vs, ts, t, Γ', c, e, q⟩ := h
  obtain ⟨⟨t1, Γ1⟩, e1, e⟩ := Option.bind_eq_some_iff.mp e
  obtain ⟨d, e2, e⟩ := Option.bind_eq_some_iff.mp e
  obtain ⟨b, e3, e⟩ := Option.map_eq_some_iff.mp e
  cases e
  refine ⟨W, Γ, vs, ts, t1, Γ1, c, e1, fun v H1 c1 => ?_⟩
  obtain ⟨O, c1⟩ := c1
  exact ⟨v, .ty T, _, _, b, rfl, .ty T, (c1.view c1.top e2).ty, kit_ty e3, q _ _ ⟨O, c1.pop.push (.bl b)⟩⟩
/-! ### two or three names at once -/
def fPar2 (np i j : Nat) (fa fb : FE) : FS := fun Γ => (fa Γ).bind fun p => (fb p.2).bind fun p2 => match p.1, p2.1 with
  | .md m, .md m' => if (m.own = true ∧ i < np) ∨ (m'.own = true ∧ j < np) then none else some (.nx ((p2.2.set j (some m')).set i (some m)))
  | _, _ => none
theorem fs_par2 {i j : Nat} {x y : Str} {a b : Expr} {px py pt : Pos} {kt k2 pt2} {fa fb : FE} (hc : X.calm = true) (hN : X.N.Nodup) (ha : FX X np a fa) (hb : FX X np b fb) (hi : X.N[i]? = some x := by rfl) (hj : X.N[j]? = some y := by rfl) (hij : i ≠ j := by decide)
    (hx : X.env.scope.names.lookup x = some .local := by rfl) (hy : X.env.scope.names.lookup y = some .local := by rfl)
    (n1 : starEach [a, b] X.env = (false, eval a X.env) :: starEach [b] X.env := by rfl) (n2 : starEach [b] X.env = (false, eval b X.env) :: starEach [] X.env := by rfl)
    (hw : swappedStores [.Tuple [.Name x px, .Name y py] kt pt] (.Tuple [a, b] k2 pt2) X.env = pure (some [x, y]) := by rfl)
    (hs : swapsWithSole [.Tuple [.Name x px, .Name y py] kt pt] (.Tuple [a, b] k2 pt2) pos.line X.env = pure false := by rfl) :
    FSX X np (.Assign [.Tuple [.Name x px, .Name y py] kt pt] (.Tuple [a, b] k2 pt2) pos) (fPar2 np i j fa fb) := by
  refine PS.weak (ps_par hc hN hi hj hij hx hy (pa_cons ha (pa_cons hb pa_nil n2) n1) hw hs) fun D σ H h => ?_
  obtain ⟨W, Γ, vs, ds, o, c, e, q⟩ := h
  obtain ⟨⟨t1, Γ1⟩, e1, e⟩ := Option.bind_eq_some_iff.mp e
  obtain ⟨⟨t2, Γ2⟩, e2, e⟩ := Option.bind_eq_some_iff.mp e
  refine ⟨W, Γ, vs, tsd ds, t1, Γ1, c, e1, fun v H1 c1 => ⟨W, Γ1, v :: vs, t1 :: tsd ds, t2, Γ2, c1, e2, fun w H2 c2 => ?_⟩⟩
  cases t1 with
  | al k => cases e
  | md m =>
    cases t2 with
    | al k => cases e
    | md m' =>
      dsimp only at e
      split at e
      · cases e
      · rename_i hno
        cases e
        obtain ⟨O, c2⟩ := c2
        refine ⟨v, w, rfl, ?_⟩
        obtain ⟨O3, c3⟩ := c2.storeT (ts := .md m :: tsd ds) (noAl_tsd ds) (fun z => hno (.inr z))
        have c4 := c3.store (fun z => hno (.inl z))
        rw [List.set_comm _ _ hij]
        exact q _ _ c4
end
end Fx

end

/-! Fx11: the bag of draws: [cells, digits, mixed] -/
noncomputable section
namespace Fx
open PySem PySem.Spec PyProof.Rows L2

section
variable {K : PySem.W.Frag} {np : Nat} {W : Wd} {O O' : Own} {σ σ' : L2.St} {H H' : Hp} {Γ Γ' : Gm} {vs : List V} {ts : List TV}
theorem canLay_ints : ∀ (ns : List Int), PyData.canLayAll0 (ns.map .int) = true
  | [] => rfl
  | n :: ns => by
    show (PyData.canLay0 (.int n) && PyData.canLayAll0 (ns.map .int)) = true
    rw [canLay_ints ns]
    rfl
theorem depth_ints : ∀ (ns : List Int), PyData.depthAll (ns.map .int) = 0
  | [] => rfl
  | n :: ns => by
    show max (PyData.depth (.int n)) (PyData.depthAll (ns.map .int)) = 0
    rw [depth_ints ns]
    rfl
theorem shaped_ints (ns : List Int) : SeqAt.shaped (.list (ns.map .int)) = true := by
  unfold SeqAt.shaped
  rw [show PyData.canLay0 (.list (ns.map .int)) = PyData.canLayAll0 (ns.map .int) from rfl, canLay_ints, show PyData.depth (.list (ns.map .int)) = PyData.depthAll (ns.map .int) + 1 from rfl, depth_ints]
  rfl
theorem dpAll_ints : ∀ (ns : List Int), DpAll K H (ns.map V.int) (ns.map .int)
  | [] => .nil
  | n :: ns => .cons (.int n) (dpAll_ints ns)
theorem eqv_nil (ns : List Int) : PyData.eqv (.list (ns.map .int)) (.list []) = ns.isEmpty := by
  cases ns <;> rfl
def bagS (Γ : Gm) (i : Nat) : Option (List Int × Int × Int) := match Γ[i]? with
  | some (some (.bag c b m)) => some (c, b, m)
  | _ => none
theorem bagS_to {i : Nat} {c : List Int} {b m : Int} (e : bagS Γ i = some (c, b, m)) : Γ[i]? = some (some (.bag c b m)) := by
  unfold bagS at e
  split at e
  · rename_i h
    cases e
    exact h
  · cases e
theorem Cf.bagAt {i : Nat} {c : List Int} {b m : Int} (g : Cf K np W O σ H Γ vs ts) (hi : Γ[i]? = some (some (.bag c b m))) :
    ∃ x y, σ[i]? = some (some (.ref x)) ∧ x ≠ y ∧ O x = some (.slot i) ∧ O y = some (.slot i) ∧ H x = some (.lst [.ref y, .int b, .int m]) ∧ H y = some (.lst (c.map .int)) := by
  obtain ⟨v, e, x, y, rfl, ne, ox, oy, hx, hy⟩ := g.sl i _ hi
  exact ⟨x, y, e, ne, ox, oy, hx, hy⟩
end
section
variable {X : Cx} {np : Nat} {pos : Pos} {e : Expr} {f : FE}
/-- bag[1], bag[2] -/
def fBagIx (i : Nat) (k : Int) : FE := fun Γ => (bagS Γ i).bind fun p => if k = 1 then some (.md (.dat (.int p.2.1)), Γ) else if k = 2 then some (.md (.dat (.int p.2.2)), Γ) else none
theorem fx_bagIx (i : Nat) {k : Int} {x : Str} {px pk : Pos} {j} (hN : X.N[i]? = some x := by rfl) (hv : Vis X.env.scope x := by first | exact Or.inl rfl | exact Or.inr (Or.inl rfl) | exact Or.inr (Or.inr rfl)) (hd : (x == ("__debug__" : Str)) = false := by decide) (hcd : (x == ("__classdict__" : Str)) = false := by decide)
    (hs : PlainIx (.Constant (.int k) j pk) := by intro _ _; rfl) : FX X np (.Subscript (.Name x px) (.Constant (.int k) j pk) pos) (fBagIx i k) := by
  refine PE.weak (pe_ix ix_list (pe_var hN hv hd hcd) pe_int hs) fun σ H Q h => ?_
  obtain ⟨W, Γ, vs, ts, t, Γ', ⟨O, c⟩, e, q⟩ := h
  obtain ⟨⟨cs, b, m⟩, e1, e⟩ := Option.bind_eq_some_iff.mp e
  obtain ⟨a, y, ev, ne, oa, oy, ha, hy⟩ := c.bagAt (bagS_to e1)
  refine ⟨.ref a, ev, a, [.ref y, .int b, .int m], k, ?_⟩
  dsimp only at e
  split at e
  · rename_i hk
    cases e
    subst hk
    exact ⟨_, rfl, rfl, .of ha, rfl, q _ H ⟨O, c.push (t := .md (.dat (.int b))) (.int b)⟩⟩
  · split at e
    · rename_i hk
      cases e
      subst hk
      exact ⟨_, rfl, rfl, .of ha, rfl, q _ H ⟨O, c.push (t := .md (.dat (.int m))) (.int m)⟩⟩
    · cases e
/-- bag[0] != [] -/
def fBagNe (i : Nat) : FE := fun Γ => (bagS Γ i).map fun p => (.md (.dat (.bool (!p.1.isEmpty))), Γ)
theorem bagNe_read {i : Nat} {σ : L2.St} {H : Hp} {Q : VK} (h : up X.K np (fBagNe i) σ H Q) : tOp (rNeD X.K) (tOp (rIxL X.K) (tVar i) (tC (.int 0))) (tLst tNil) σ H Q := by
  obtain ⟨W, Γ, vs, ts, t, Γ', ⟨O, c⟩, e, q⟩ := h
  obtain ⟨⟨cs, b, m⟩, e1, e⟩ := Option.map_eq_some_iff.mp e
  cases e
  obtain ⟨a, y, ev, ne, oa, oy, ha, hy⟩ := c.bagAt (bagS_to e1)
  refine ⟨.ref a, ev, a, _, 0, .ref y, rfl, rfl, .of ha, rfl, Nat.zero_le _, fun p hp => ?_⟩
  have n := Ev.new (o := .lst []) c.dom hp
  have yp : y ≠ p := ne_of_none hy hp
  refine ⟨.list (cs.map .int), .list [], .lst (.of (by rw [upd_ne yp]; exact hy)) (dpAll_ints cs), .lst (.of upd_same) .nil, shaped_ints cs, rfl, ?_⟩
  rw [eqv_nil]
  exact q _ _ ⟨O, (c.ev0 n).push (t := .md (.dat (.bool (!cs.isEmpty)))) (.bl _)⟩
theorem fx_bagNe (i : Nat) {x : Str} {px pk ps pl : Pos} {j} (hu : X.A.units + 64 < cLine) (hN : X.N[i]? = some x := by rfl) (hv : Vis X.env.scope x := by first | exact Or.inl rfl | exact Or.inr (Or.inl rfl) | exact Or.inr (Or.inr rfl)) (hd : (x == ("__debug__" : Str)) = false := by decide) (hcd : (x == ("__classdict__" : Str)) = false := by decide)
    (hs : PlainIx (.Constant (.int 0) j pk) := by intro _ _; rfl) : FX X np (.Compare (.Subscript (.Name x px) (.Constant (.int 0) j pk) ps) [.NotEq] [.List [] pl] pos) (fBagNe i) :=
  PE.weak (pe_cmpR (op_neD hu) (pe_ix ix_list (pe_var hN hv hd hcd) pe_int hs) (pe_lst pa_nil) (nomark _)) fun _ _ _ h => bagNe_read h
theorem ft_bagNe (i : Nat) {x : Str} {px pk ps pl : Pos} {j} (hu : X.A.units + 64 < cLine) (hN : X.N[i]? = some x := by rfl) (hv : Vis X.env.scope x := by first | exact Or.inl rfl | exact Or.inr (Or.inl rfl) | exact Or.inr (Or.inr rfl)) (hd : (x == ("__debug__" : Str)) = false := by decide) (hcd : (x == ("__classdict__" : Str)) = false := by decide)
    (hs : PlainIx (.Constant (.int 0) j pk) := by intro _ _; rfl) : FTX X np (.Compare (.Subscript (.Name x px) (.Constant (.int 0) j pk) ps) [.NotEq] [.List [] pl] pos) (fT (fBagNe i)) := by
  refine PT.weak (pt_cmpR (op_neD hu) (pe_ix ix_list (pe_var hN hv hd hcd) pe_int hs) (pe_lst pa_nil) (nomark _)) fun σ H Q h => ?_
  exact bagNe_read (np := np) (asTest h)
/-- bag[0].pop() -/
def fBagPop (i : Nat) : FE := fun Γ => (bagS Γ i).bind fun p => p.1[p.1.length - 1]?.map fun n => (.md (.dat (.int n)), Γ.set i (some (.bag p.1.dropLast p.2.1 p.2.2)))
theorem fx_bagPop (i : Nat) {x : Str} {px pk ps pa : Pos} {j} (hN : X.N[i]? = some x := by rfl) (hv : Vis X.env.scope x := by first | exact Or.inl rfl | exact Or.inr (Or.inl rfl) | exact Or.inr (Or.inr rfl)) (hd : (x == ("__debug__" : Str)) = false := by decide) (hcd : (x == ("__classdict__" : Str)) = false := by decide)
    (hs : PlainIx (.Constant (.int 0) j pk) := by intro _ _; rfl) (h1 : attributeBase (.Subscript (.Name x px) (.Constant (.int 0) j pk) ps) "pop" X.env (eval (.Subscript (.Name x px) (.Constant (.int 0) j pk) ps) X.env) = eval (.Subscript (.Name x px) (.Constant (.int 0) j pk) ps) X.env := by rfl)
    (h3 : (pa.endLine == pos.line) = true := by rfl) : FX X np (.Call (.Attribute (.Subscript (.Name x px) (.Constant (.int 0) j pk) ps) "pop" pa) [] [] pos) (fBagPop i) := by
  refine PE.weak (pe_bm0 PySem.F.plainAttrs_list PySem.F.slot_list_pop PySem.F.type_list_pop mt_pop (pe_ix ix_list (pe_var hN hv hd hcd) pe_int hs) h1 h3) fun σ H Q h => ?_
  obtain ⟨W, Γ, vs, ts, t, Γ', ⟨O, c⟩, e, q⟩ := h
  obtain ⟨⟨cs, b, m⟩, e1, e⟩ := Option.bind_eq_some_iff.mp e
  obtain ⟨n, e2, e⟩ := Option.map_eq_some_iff.mp e
  cases e
  obtain ⟨a, y, ev, ne, oa, oy, ha, hy⟩ := c.bagAt (bagS_to e1)
  refine ⟨.ref a, ev, a, _, 0, .ref y, rfl, rfl, .of ha, rfl, .inl ⟨rfl, _, .of hy⟩, y, _, .int n, rfl, rfl, hy, ?_, ?_⟩
  · rw [List.length_map, List.getElem?_map, e2]
    rfl
  have w := Ev.write (o := .lst (cs.map V.int).dropLast) c.dom oy
  have c2 := c.mutS (m' := .bag cs.dropLast b m) (v := .ref a) (bagS_to e1) rfl w ev ⟨a, y, rfl, ne, oa, oy, by rw [upd_ne ne]; exact ha, by rw [upd_same, List.map_dropLast]⟩ rfl
  exact q _ _ ⟨O, c2.push (t := .md (.dat (.int n))) (.int n)⟩
/-- bag[1] = e, bag[2] = e -/
def fBagPut (i : Nat) (k : Int) (f : FE) : FS := fun Γ => (f Γ).bind fun p => (intT p.1).bind fun n => (bagS p.2 i).bind fun b => if k = 1 then some (.nx (p.2.set i (some (.bag b.1 n b.2.2)))) else if k = 2 then some (.nx (p.2.set i (some (.bag b.1 b.2.1 n)))) else none
theorem fs_bagPut (i : Nat) {k : Int} {x : Str} {px ps pk : Pos} {v : Expr} {j} (hv' : FX X np v f) (hN : X.N[i]? = some x := by rfl) (hv : Vis X.env.scope x := by first | exact Or.inl rfl | exact Or.inr (Or.inl rfl) | exact Or.inr (Or.inr rfl)) (hd : (x == ("__debug__" : Str)) = false := by decide) (hcd : (x == ("__classdict__" : Str)) = false := by decide)
    (h0 : ∀ v, assign (.Subscript (.Name x px) (.Constant (.int k) j pk) ps) X.env v = (do
      let ov ← holding [v] (eval (.Name x px) X.env)
      let iv ← holding [v, ov] (eval (.Constant (.int k) j pk) X.env)
      standAt ps
      holding [v, ov, iv] (setItem ov iv v)
      release [v, ov, iv] []) := by intro _; rfl)
    (hs : swapsWithSole [.Subscript (.Name x px) (.Constant (.int k) j pk) ps] v pos.line X.env = pure false := by rfl) (hw : swappedStores [.Subscript (.Name x px) (.Constant (.int k) j pk) ps] v X.env = pure none := by rfl)
    (h1 : (assignEach [.Subscript (.Name x px) (.Constant (.int k) j pk) ps] X.env).map (·.2) = [assign (.Subscript (.Name x px) (.Constant (.int k) j pk) ps) X.env] := by rfl) :
    FSX X np (.Assign [.Subscript (.Name x px) (.Constant (.int k) j pk) ps] v pos) (fBagPut i k f) := by
  refine PS.weak (ps_asg hv' (pg_sub (pe_var hN hv hd hcd) pe_int set_list h0) hs hw h1) fun D σ H h => ?_
  obtain ⟨W, Γ, vs, ds, o, c, e, q⟩ := h
  obtain ⟨⟨t1, Γ1⟩, g1, e⟩ := Option.bind_eq_some_iff.mp e
  obtain ⟨n, g2, e⟩ := Option.bind_eq_some_iff.mp e
  obtain ⟨⟨cs, b, m⟩, g3, e⟩ := Option.bind_eq_some_iff.mp e
  have h1' : t1 = .md (.dat (.int n)) := intT_to g2
  subst h1'
  refine ⟨W, Γ, vs, tsd ds, _, Γ1, c, g1, fun z H1 c1 => ?_⟩
  obtain ⟨O, c1⟩ := c1
  obtain ⟨a, y, ev, ne, oa, oy, ha, hy⟩ := c1.bagAt (bagS_to g3)
  have rz : Fz X.K O H1 (.int n) z := c1.top
  cases rz
  refine ⟨.ref a, ev, a, [.ref y, .int b, .int m], k, ?_⟩
  dsimp only at e
  split at e
  · rename_i hk
    cases e
    subst hk
    refine ⟨1, rfl, rfl, ha, rfl, ?_⟩
    have w := Ev.write (o := .lst [.ref y, .int n, .int m]) c1.dom oa
    exact q _ _ ⟨O, (c1.pop.mutS (m' := .bag cs n m) (v := .ref a) (bagS_to g3) rfl w ev ⟨a, y, rfl, ne, oa, oy, upd_same, by rw [upd_ne ne.symm]; exact hy⟩ rfl)⟩
  · split at e
    · rename_i hk
      cases e
      subst hk
      refine ⟨2, rfl, rfl, ha, rfl, ?_⟩
      have w := Ev.write (o := .lst [.ref y, .int b, .int n]) c1.dom oa
      exact q _ _ ⟨O, (c1.pop.mutS (m' := .bag cs b n) (v := .ref a) (bagS_to g3) rfl w ev ⟨a, y, rfl, ne, oa, oy, upd_same, by rw [upd_ne ne.symm]; exact hy⟩ rfl)⟩
    · cases e
/-- [cells, b, m], the cells a new list of whole numbers -/
def fMkBag (fa fb fc : FE) : FE := fun Γ => (fa Γ).bind fun p => (fb p.2).bind fun p2 => (fc p2.2).bind fun p3 => (intT p2.1).bind fun b => (intT p3.1).bind fun m => match p.1 with
  | .md (.lst ds) => (intsOf ds).map fun ns => (.md (.bag ns b m), p3.2)
  | _ => none
theorem fx_mkBag {a b c : Expr} {fa fb fc : FE} (ha : FX X np a fa) (hb : FX X np b fb) (hc : FX X np c fc) (n1 : starEach [a, b, c] X.env = (false, eval a X.env) :: starEach [b, c] X.env := by rfl) (n2 : starEach [b, c] X.env = (false, eval b X.env) :: starEach [c] X.env := by rfl)
    (n3 : starEach [c] X.env = (false, eval c X.env) :: starEach [] X.env := by rfl) : FX X np (.List [a, b, c] pos) (fMkBag fa fb fc) := by
  refine PE.weak (pe_lst (pa_cons ha (pa_cons hb (pa_cons hc pa_nil n3) n2) n1)) fun σ H Q h => ?_
  obtain ⟨W, Γ, vs, ts, t, Γ', c, e, q⟩ := h
  obtain ⟨⟨t1, Γ1⟩, e1, e⟩ := Option.bind_eq_some_iff.mp e
  obtain ⟨⟨t2, Γ2⟩, e2, e⟩ := Option.bind_eq_some_iff.mp e
  obtain ⟨⟨t3, Γ3⟩, e3, e⟩ := Option.bind_eq_some_iff.mp e
  obtain ⟨b, e4, e⟩ := Option.bind_eq_some_iff.mp e
  obtain ⟨m, e5, e⟩ := Option.bind_eq_some_iff.mp e
  have h2 : t2 = .md (.dat (.int b)) := intT_to e4
  subst h2
  have h3 : t3 = .md (.dat (.int m)) := intT_to e5
  subst h3
  refine ⟨W, Γ, vs, ts, t1, Γ1, c, e1, fun x H1 c1 => ⟨W, Γ1, _, _, _, Γ2, c1, e2, fun y H2 c2 => ⟨W, Γ2, _, _, _, Γ3, c2, e3, fun z H3 c3 => ?_⟩⟩⟩
  cases t1 with
  | al k => cases e
  | md md =>
    cases md with
    | lst ds =>
      obtain ⟨ns, e6, e⟩ := Option.map_eq_some_iff.mp e
      cases e
      obtain ⟨O, c3⟩ := c3
      have rz : Fz X.K O H3 (.int m) z := c3.top
      have ry : Fz X.K O H3 (.int b) y := c3.pop.top
      cases rz
      cases ry
      obtain ⟨a, ws, rfl, oa, ha', fa'⟩ := (show MR X.K O H3 (.tmp ts.length) (.lst ds) x from c3.pop.pop.top)
      rw [intsOf_to e6] at fa'
      rw [fa'.intsV] at ha'
      refine ⟨by show 3 ≤ sizeLine; decide, fun p hp => ?_⟩
      have n := Ev.newOwn (o := .lst [.ref a, .int b, .int m]) (t := .tmp ts.length) (by simp) c3.dom hp
      have ap : a ≠ p := ne_of_none ha' hp
      exact q _ _ ⟨_, (c3.pop.pop.pop.ev0 n).push (t := .md (.bag ns b m)) ⟨p, a, rfl, ap.symm, put_same, by rw [put_ne ap]; exact oa, upd_same, by rw [upd_ne ap]; exact ha'⟩⟩
    | _ => cases e
end
end Fx

end

/-! Fx12: defs of the text, calls by place and by names, unpacking, chains -/
noncomputable section
namespace Fx
open PySem PySem.Spec PyProof.Rows L2

/-- a def of the text that keeps its meaning F, at level j -/
structure Def (P : Program) (w : World) (K : PySem.W.Frag) (mg : Str → Option Value) (base : Heap) (j : Nat) (x : Str) (st : Stmt) (ps : List Str) (F : FF) : Prop where
  ex : ∃ f fd, Fun K x x st f fd ∧ FnG P w K mg base j f fd ps (spF K F) ∧ mg x = some (.ref f)
  bd : ∀ (kV doc pm : Value) (an : Option Addr) (cdv ct : Value) (us : List Value), us.length = ps.length → bindArgs (PySem.W.fnOf x x (defArgs st) (defBody st) (defScope st) .none kV doc pm an cdv ct) ⟨us, []⟩ = pure (ps.zip us)
def At (K : PySem.W.Frag) (mg : Str → Option Value) (x : Str) (st : Stmt) : Prop := ∃ f fd, Fun K x x st f fd ∧ mg x = some (.ref f)
theorem def_ok {P : Program} {w : World} {K : PySem.W.Frag} {mg : Str → Option Value} {base : Heap} {x : Str} {st : Stmt} {ps N : List Str} {g : FS} (k : Nat) (E : At K mg x st) (S : FnScope N ps (defScope st))
    (bd : ∀ (kV doc pm : Value) (an : Option Addr) (cdv ct : Value) (us : List Value), us.length = ps.length → bindArgs (PySem.W.fnOf x x (defArgs st) (defBody st) (defScope st) .none kV doc pm an cdv ct) ⟨us, []⟩ = pure (ps.zip us))
    (hbody : ∀ (f : Addr) (cdv : Value) (A : Around) (outer : List Env) (s : Shared) (H : Hp) (E : XK), RoomG k (A.deeper (envOfC x (defScope st) s.heap.objs.size f cdv)) →
      FSsX (cxOf CX0 P w K mg base N x (defScope st) f cdv A outer s H E).nox ps.length (defBody st) g) : Def P w K mg base (k + 1) x st ps (fnOf ps.length N.length g) := by
  obtain ⟨f, fd, F, hm⟩ := E
  exact ⟨⟨f, fd, F, fn_ok F S fun cdv A outer s H Q E hr => hbody f cdv A outer s H E hr, hm⟩, bd⟩
theorem Def.mono {P : Program} {w : World} {K : PySem.W.Frag} {mg : Str → Option Value} {base : Heap} {i j : Nat} {x : Str} {st : Stmt} {ps : List Str} {F : FF} (D : Def P w K mg base i x st ps F) (h : i ≤ j) : Def P w K mg base j x st ps F := by
  obtain ⟨⟨f, fd, a, b, c⟩, d⟩ := D
  exact ⟨⟨f, fd, a, b.mono h, c⟩, d⟩
theorem Def.imp {P : Program} {w : World} {K : PySem.W.Frag} {mg : Str → Option Value} {base : Heap} {i : Nat} {x : Str} {st : Stmt} {ps : List Str} {F G : FF} (D : Def P w K mg base i x st ps F) (h : ∀ ms r, G ms = some r → F ms = some r) : Def P w K mg base i x st ps G := by
  obtain ⟨⟨f, fd, a, b, c⟩, d⟩ := D
  refine ⟨⟨f, fd, a, b.imp fun vs H Q E q => ?_, c⟩, d⟩
  obtain ⟨O, ms, r, ms', q1, q2, q3, q4, q5, q6⟩ := q
  exact ⟨O, ms, r, ms', q1, q2, q3, q4, h _ _ q5, q6⟩

section
variable {X : Cx} {np k : Nat} {st : Stmt} {ps ks : List Str} {x : Str} {p pos : Pos} {e : Expr} {es : List Expr} {F : FF} {fs fk : FA} {kws : List Keyword}
theorem fx_callD (D : Def X.prog X.w X.K X.mg X.base k x st ps F) (hr : RoomG k X.A) (ha : FAX X np (e :: es) fs) (hg : Gl X x := by rfl) (hdb : (x == ("__debug__" : Str)) = false := by decide) (he : starEach (e :: es) X.env = (false, eval e X.env) :: starEach es X.env := by rfl) (hpl : (backTo pos (starEach es X.env)).any (·.1) = false := by rfl) :
    FX X np (.Call (.Name x p) (e :: es) [] pos) (fCall F fs) := by
  obtain ⟨⟨f, fd, Fn, G, hm⟩, bd⟩ := D
  exact fx_call G hr hm Fn.kp (Fn.binds bd) ha hg hdb he hpl

/-- keywords -/
def FKX (X : Cx) (np : Nat) (ks : List Keyword) (f : FA) : Prop := PK X ks (upA X.K np f)
theorem PK.weak {X : Cx} {e : List Keyword} {t t' : TA} (h : PK X e t) (w : ∀ σ H Q, t' σ H Q → t σ H Q) : PK X e t' := ⟨fun pos pins s σ H Q I q => h.run pos pins s σ H Q I (w σ H Q q)⟩
theorem fk_nil : FKX X np [] fANil := by
  refine PK.weak pk_nil fun σ H Q h => ?_
  obtain ⟨W, Γ, vs, ts, us, Γ', c, e, q⟩ := h
  cases e
  exact q [] H c rfl
theorem fk_cons {fa : FE} {nm : Option Str} {kp : Pos} (ha : FX X np e fa) (hr : FKX X np kws fs) : FKX X np (⟨nm, e, kp⟩ :: kws) (fACons fa fs) := by
  refine PK.weak (pk_cons ha hr) fun σ H Q h => ?_
  obtain ⟨W, Γ, vs, ts, us, Γ', c, e, q⟩ := h
  obtain ⟨⟨t1, Γ1⟩, e1, e⟩ := Option.bind_eq_some_iff.mp e
  obtain ⟨⟨us', Γ2⟩, e2, e⟩ := Option.map_eq_some_iff.mp e
  cases e
  refine ⟨W, Γ, vs, ts, t1, Γ1, c, e1, fun x H1 c1 => ⟨W, Γ1, x :: vs, t1 :: ts, us', Γ2, c1, e2, fun xs H2 c2 hl => q (x :: xs) H2 ?_ (by simp [hl])⟩⟩
  rw [List.reverse_cons, List.reverse_cons, List.append_assoc, List.append_assoc]
  exact c2
def gK (n m : Nat) (js : List Nat) (us ws : List Value) : List Value := if us.length = n ∧ ws.length = m then js.map fun j => (us ++ ws).getD j .none else []
def gKV (n m : Nat) (js : List Nat) (us ws : List V) : List V := if us.length = n ∧ ws.length = m then js.map fun j => (us ++ ws).getD j .non else []
theorem vals_getD {xs : List V} {us : List Value} (r : Vals xs us) (j : Nat) : RelV (xs.getD j .non) (us.getD j .none) := by
  rw [List.getD_eq_getElem?_getD, List.getD_eq_getElem?_getD]
  cases h : xs[j]? with
  | none =>
    rw [r.none_of h]
    rfl
  | some x =>
    obtain ⟨u, e, q⟩ := r.get h
    rw [e]
    exact q
theorem gK_rel {n m : Nat} {js : List Nat} {vs zs : List V} {us ws : List Value} (r : Vals vs us) (r' : Vals zs ws) : Vals (gKV n m js vs zs) (gK n m js us ws) := by
  unfold gKV gK
  rw [r.length, r'.length]
  split
  · have : ∀ js : List Nat, Vals (js.map fun j => (vs ++ zs).getD j .non) (js.map fun j => (us ++ ws).getD j .none) := by
      intro js
      induction js with
      | nil => exact .nil
      | cons j js ih => exact .cons (vals_getD (r.append r') j) ih
    exact this js
  · exact .nil
theorem kbinds {K : PySem.W.Frag} {fd : FuncData} {n m : Nat} {js : List Nat} (h0 : 0 < ps.length) (h : ∀ us ws : List Value, us.length = n → ws.length = m → bindArgs fd ⟨us, ks.zip ws⟩ = pure (ps.zip (js.map fun j => (us ++ ws).getD j .none))) : KBinds K fd ps ks (gK n m js) (gKV n m js) := by
  refine ⟨fun s us ws _ hl => ?_, gK_rel⟩
  unfold gK at hl ⊢
  split at hl
  · rename_i hh
    rw [if_pos hh]
    exact .of_eq (h us ws hh.1 hh.2)
  · simp at hl
    omega
theorem kw0_run {f : Addr} {fd : FuncData} {sp : Sp} {tk : TA} {g : List Value → List Value → List Value} {gV : List V → List V → List V} (G : FnG X.prog X.w X.K X.mg X.base k f fd ps sp) (hr : RoomG k X.A) (hg : Gl X x) (hm : X.mg x = some (.ref f)) (hk : PySem.W.keepIn X.K (.ref f) = true) (hb : KBinds X.K fd ps ks g gV)
    (hkw : PK X kws tk) (hall : (backToKw pos (keywordEach kws X.env)).all (·.1.isSome) = true) (hks : (backToKw pos (keywordEach kws X.env)).filterMap (·.1) = ks) (hdb : (x == ("__debug__" : Str)) = false)
    (hpl : ((backTo pos (starEach [] X.env)).any (·.1) || (backToKw pos (keywordEach kws X.env)).any (·.1.isNone)) = false) : PE X (.Call (.Name x p) [] kws pos) (fun σ H Q => tk σ H fun zs H2 => sp (gV [] zs) H2 Q E0) := by
  constructor
  intro pins s σ H Q I q
  apply wpAny_Call_Name_kw
  apply ld_glob I hg hm _ hdb
  apply PySem.W.callWith_KW0 (h₀ := X.base) I.ok.mod.kin hk hall _ hpl
  apply thn (hkw.run pos pins s σ H _ I q)
  rintro ws s2 ⟨zs, H2, I2, rz, q2⟩
  refine ⟨I2.kIn, ?_⟩
  rw [hks]
  exact callGk (us := []) (vs := []) G hr hb I2 .nil rz q2
/-- the temporaries in the parameters' order -/
def perm (js : List Nat) (us : List TV) : List TV := js.filterMap fun j => us[j]?
def permOk (js : List Nat) (us : List TV) : Bool := js.all fun j => decide (j < us.length)
def fCallK (F : FF) (m : Nat) (js : List Nat) (fs : FA) : FE := fun Γ => (fs Γ).bind fun p => if p.1.length = m ∧ permOk js p.1 = true ∧ (als (perm js p.1)).Nodup then (argsOf p.2 (perm js p.1)).bind fun ms => (F ms).bind fun r => (putArgs (perm js p.1) r.2 p.2).map fun Γ' => (.md r.1, Γ') else none
theorem perm_pair {R : V → TV → Prop} {xs : List V} {us : List TV} (h : Paired R xs us) : ∀ (js : List Nat), permOk js us = true → Paired R (js.map fun j => xs.getD j .non) (perm js us)
  | [], _ => .nil
  | j :: js, hj => by
    unfold permOk at hj
    rw [List.all_cons, Bool.and_eq_true] at hj
    have hlt : j < us.length := of_decide_eq_true hj.1
    have e : us[j]? = some us[j] := List.getElem?_eq_getElem hlt
    obtain ⟨x, hx, r⟩ := Paired.get2 h e
    unfold perm
    rw [List.filterMap_cons, e, List.map_cons, List.getD_eq_getElem?_getD, hx]
    exact .cons r (perm_pair h js hj.2)
theorem fx_callK0 {m : Nat} {js : List Nat} (D : Def X.prog X.w X.K X.mg X.base k x st ps F) (hr : RoomG k X.A) (h0 : 0 < ps.length)
    (hb : ∀ (kV doc pm : Value) (an : Option Addr) (cdv ct : Value) (us ws : List Value), us.length = 0 → ws.length = m → bindArgs (PySem.W.fnOf x x (defArgs st) (defBody st) (defScope st) .none kV doc pm an cdv ct) ⟨us, ks.zip ws⟩ = pure (ps.zip (js.map fun j => (us ++ ws).getD j .none)))
    (hkw : FKX X np kws fk) (hall : (backToKw pos (keywordEach kws X.env)).all (·.1.isSome) = true := by rfl) (hks : (backToKw pos (keywordEach kws X.env)).filterMap (·.1) = ks := by rfl) (hg : Gl X x := by rfl) (hdb : (x == ("__debug__" : Str)) = false := by decide)
    (hpl : ((backTo pos (starEach [] X.env)).any (·.1) || (backToKw pos (keywordEach kws X.env)).any (·.1.isNone)) = false := by rfl) : FX X np (.Call (.Name x p) [] kws pos) (fCallK F m js fk) := by
  obtain ⟨⟨f, fd, Fn, G, hm⟩, bd⟩ := D
  have hkb : KBinds X.K fd ps ks (gK 0 m js) (gKV 0 m js) := by
    obtain ⟨oc, od, kV, doc, pm, an, cdv, ct, osl, rfl, _, _⟩ := Fn.ex
    exact kbinds h0 (hb kV doc pm an cdv ct)
  refine PE.weak (kw0_run G hr hg hm Fn.kp hkb hkw hall hks hdb hpl) fun σ H Q h => ?_
  obtain ⟨W, Γ, vs, ts, t, Γ', c, e, q⟩ := h
  obtain ⟨⟨us, Γ1⟩, e1, e⟩ := Option.bind_eq_some_iff.mp e
  dsimp only at e
  split at e
  · rename_i hh
    obtain ⟨ms, e2, e⟩ := Option.bind_eq_some_iff.mp e
    obtain ⟨⟨r, ms'⟩, e3, e⟩ := Option.bind_eq_some_iff.mp e
    obtain ⟨Γ2, e4, e⟩ := Option.map_eq_some_iff.mp e
    cases e
    refine ⟨W, Γ, vs, ts, us, Γ1, c, e1, fun xs H1 c1 el => ?_⟩
    obtain ⟨O, c1⟩ := c1
    obtain ⟨pr, c2⟩ := c1.args el
    have e5 : gKV 0 m js [] xs = js.map fun j => xs.getD j .non := by
      unfold gKV
      rw [if_pos ⟨rfl, by rw [el]; exact hh.1⟩, List.nil_append]
    rw [e5]
    exact callF c2 (perm_pair pr js hh.2.1) hh.2.2 e2 e3 e4 q
  · cases e

/-! ### unpacking, one-place operators, chains -/
def fAsgG (f : FE) (g : FG) : FS := fun Γ => (f Γ).bind fun p => (frz p.1).bind fun d => (g d p.2).map .nx
theorem fs_asgG {tg : Expr} {f : FE} {g : FG} {is : List Nat} (he : FX X np e f) (hg : FGX X np is tg g) (hs : swapsWithSole [tg] e pos.line X.env = pure false := by rfl) (hw : swappedStores [tg] e X.env = pure none := by rfl)
    (h1 : (assignEach [tg] X.env).map (·.2) = [assign tg X.env] := by rfl) : FSX X np (.Assign [tg] e pos) (fAsgG f g) := by
  refine PS.weak (ps_asg he hg hs hw h1) fun D σ H h => ?_
  obtain ⟨W, Γ, vs, ds, o, c, e, q⟩ := h
  obtain ⟨⟨t1, Γ1⟩, e1, e⟩ := Option.bind_eq_some_iff.mp e
  obtain ⟨d, e2, e⟩ := Option.bind_eq_some_iff.mp e
  obtain ⟨Γ2, e3, e⟩ := Option.map_eq_some_iff.mp e
  cases e
  have h1' : t1 = .md (.dat d) := frz_to e2
  subst h1'
  exact ⟨W, Γ, vs, tsd ds, _, Γ1, c, e1, fun v H1 c1 => ⟨W, Γ1, vs, tsd ds, d, Γ2, c1, e3, fun σ' H' c' _ => q σ' H' c'⟩⟩
def fNeg (f : FE) : FE := fun Γ => (f Γ).bind fun p => (intT p.1).map fun i => (.md (.dat (.int (-i))), p.2)
theorem fx_neg {f : FE} (he : FX X np e f) : FX X np (.UnaryOp .USub e pos) (fNeg f) := by
  refine PE.weak (pe_un un_neg he) fun σ H Q h => ?_
  obtain ⟨W, Γ, vs, ts, t, Γ', c, e, q⟩ := h
  obtain ⟨⟨t1, Γ1⟩, e1, e⟩ := Option.bind_eq_some_iff.mp e
  obtain ⟨i, e2, e⟩ := Option.map_eq_some_iff.mp e
  cases e
  have h1' : t1 = .md (.dat (.int i)) := intT_to e2
  subst h1'
  refine ⟨W, Γ, vs, ts, _, Γ1, c, e1, fun v H1 c1 => ?_⟩
  obtain ⟨O, c1⟩ := c1
  have r : Fz X.K O H1 (.int i) v := c1.top
  cases r
  exact ⟨i, rfl, q _ H1 ⟨O, c1.pop.push (t := .md (.dat (.int (-i)))) (.int _)⟩⟩
/-- a op b op' c -/
def fChain (g g' : PyData → PyData → Option Res) (fa fb fc : FE) : FE := fun Γ => (fa Γ).bind fun p => (fb p.2).bind fun p2 => (dv p2.2 p.1).bind fun d => (dv p2.2 p2.1).bind fun e => (g d e).bind fun r => match r with
  | .val (.bool true) => (fc p2.2).bind fun p3 => (dv p3.2 p2.1).bind fun e' => (dv p3.2 p3.1).bind fun c => (g' e' c).map fun r => (r.fin false, p3.2)
  | .val (.bool false) => some (.md (.dat (.bool false)), p2.2)
  | _ => none
theorem chain_read {a b c : Expr} {fa fb fc : FE} {r r' : R2} {g g' : PyData → PyData → Option Res} (hg : Snd2 X.K r g) (hg' : Snd2 X.K r' g') {σ : L2.St} {H : Hp} {Q : VK} (h : up X.K np (fChain g g' fa fb fc) σ H Q) :
    tChain r r' (up X.K np fa) (up X.K np fb) (up X.K np fc) σ H Q := by
  obtain ⟨W, Γ, vs, ts, t, Γ', c, e, q⟩ := h
  obtain ⟨⟨t1, Γ1⟩, e1, e⟩ := Option.bind_eq_some_iff.mp e
  obtain ⟨⟨t2, Γ2⟩, e2, e⟩ := Option.bind_eq_some_iff.mp e
  obtain ⟨d1, e3, e⟩ := Option.bind_eq_some_iff.mp e
  obtain ⟨d2, e4, e⟩ := Option.bind_eq_some_iff.mp e
  obtain ⟨s, e5, e⟩ := Option.bind_eq_some_iff.mp e
  refine ⟨W, Γ, vs, ts, t1, Γ1, c, e1, fun x H1 c1 => ⟨W, Γ1, x :: vs, t1 :: ts, t2, Γ2, c1, e2, fun y H2 c2 => ?_⟩⟩
  obtain ⟨O, c2⟩ := c2
  refine hg O H2 x y d1 d2 s _ c2.dom (c2.view c2.tm.2.1 e3) (c2.view c2.tm.1 e4) e5 fun v H' ok => ?_
  split at e
  · obtain ⟨ev, rv⟩ := ok
    cases rv
    obtain ⟨⟨t3, Γ3⟩, e6, e⟩ := Option.bind_eq_some_iff.mp e
    obtain ⟨d2', e7, e⟩ := Option.bind_eq_some_iff.mp e
    obtain ⟨d3, e8, e⟩ := Option.bind_eq_some_iff.mp e
    obtain ⟨s', e9, e⟩ := Option.map_eq_some_iff.mp e
    cases e
    refine ⟨true, rfl, iteT ⟨W, Γ2, _, _, t3, Γ3, ⟨O, c2.ev0 ev⟩, e6, fun z H3 c3 => ?_⟩⟩
    obtain ⟨O3, c3⟩ := c3
    exact hg' O3 H3 y z d2' d3 s' Q c3.dom (c3.view c3.pop.top e7) (c3.view c3.top e8) e9 fun v H' ok => q v H' (c3.pop.pop.pop.res ok)
  · obtain ⟨ev, rv⟩ := ok
    cases rv
    cases e
    exact ⟨false, rfl, iteF (q _ _ ⟨O, (c2.pop.pop.ev0 ev).push (t := .md (.dat (.bool false))) (.bl _)⟩)⟩
  · cases e
theorem fx_chain {a b c : Expr} {fa fb fc : FE} {op op' : CmpOp} {r r' : R2} {g g' : PyData → PyData → Option Res} (ho : OpR X (compareOp op) r) (hg : Snd2 X.K r g) (ho' : OpR X (compareOp op') r') (hg' : Snd2 X.K r' g') (ha : FX X np a fa) (hb : FX X np b fb) (hc : FX X np c fc)
    (hm : lastMarks [op, op'] [b, c] = false := by with_unfolding_all rfl) : FX X np (.Compare a [op, op'] [b, c] pos) (fChain g g' fa fb fc) :=
  PE.weak (pe_chain ho ho' ha hb hc hm) fun _ _ _ h => chain_read (a := a) (b := b) (c := c) hg hg' h
theorem ft_chain {a b c : Expr} {fa fb fc : FE} {op op' : CmpOp} {r r' : R2} {g g' : PyData → PyData → Option Res} (ho : OpR X (compareOp op) r) (hg : Snd2 X.K r g) (ho' : OpR X (compareOp op') r') (hg' : Snd2 X.K r' g') (ha : FX X np a fa) (hb : FX X np b fb) (hc : FX X np c fc)
    (hm : lastMarks [op, op'] [b, c] = false := by with_unfolding_all rfl) : FTX X np (.Compare a [op, op'] [b, c] pos) (fT (fChain g g' fa fb fc)) := by
  refine PT.weak (pt_chain ho ho' ha hb hc hm) fun σ H Q h => ?_
  exact chain_read (np := np) (a := a) (b := b) (c := c) hg hg' (asTest h)
end
end Fx

end

set_option maxHeartbeats 1000000
/-! Fx13: list(iterator): list(reversed(x)), list(zip(x, y)) -/
noncomputable section
namespace Fx
open PySem PySem.Spec PyProof.Rows L2

abbrev listAt (h : Heap) (S : Addr) (acc : Array Value) (c : Nat) : Prop := h.get? S = some { cls := .type "list", dict := none, data := .seq acc c, slots := #[] }
/-- what list(..) asks of an iterator at r; fp: what it lives in -/
structure Src (prog : Program) (w : World) (T : String) (r : Addr) (fp : List Addr) (St : Heap → Prop) : Prop where
  ty : ∀ t : Shared, St t.heap → t.TypeIs (.ref r) T
  mem : r ∈ fp
  lt : ∀ g, St g → ∀ b ∈ fp, b < g.objs.size
  kp : ∀ g g', St g → (∀ b ∈ fp, ∀ o, g.get? b = some o → g'.get? b = some o) → St g'
  nl : (Value.type T == Value.type "list") = false
  nt : (Value.type T == Value.type "tuple") = false
  it : ∀ (B : Around) (F : Value → Shared → Prop) (t : Shared) (Q : Value → Shared → Prop), St t.heap → Q (.ref r) t → wpAny (model prog w) B (pyIter (.ref r)) Q F t
  hi : ∀ (B : Around) (F : Value → Shared → Prop) (t : Shared) (Q : Bool → Shared → Prop), St t.heap → (∀ b, Q b t) → wpAny (model prog w) B (Builtin.List.listLengthHint (.ref r)) Q F t
section
variable {prog : Program} {w : World} {A : Around} {E : Value → Shared → Prop} {s : Shared} {T : String} {r S : Addr} {fp : List Addr} {St : Heap → Prop} {R : Result → Shared → Prop}
def loopCode (S r : Addr) (res : Value) : Code := .builtin "list.extend.loop" ⟨[.ref S, .ref r, res], []⟩
theorem src_extend (C : Src prog w T r fp St) (st : St s.heap) (hS : S ∉ fp) (res : Value) {c0 : Nat} (at0 : listAt s.heap S #[] c0)
    (lp : ∀ (g : Heap) (c : Nat), St g → (∀ b o, b ≠ S → s.heap.get? b = some o → g.get? b = some o) → listAt g S #[] c → codeAny (model prog w) A (loopCode S r res) R { s with heap := g }) :
    wpAny (model prog w) A.in1 (Builtin.List.listExtendWith (.ref S) (.ref r) res) (fun fin t => match fin with | .done f => R (.ok f) t | .again c' => c'.quiet = true ∧ codeAny (model prog w) A c' R t) (fun e t => R (.error e) t) s := by
  have ne : S ≠ r := fun z => hS (z ▸ C.mem)
  unfold Builtin.List.listExtendWith
  refine wpAny_bind (wpAny_typeOf (T := T) (C.ty s st) ?_)
  have e1 : Builtin.List.listSameRef (.ref S) (.ref r) = false := by simp [Builtin.List.listSameRef, ne]
  simp only [e1, C.nl, C.nt, Bool.or_false, Bool.false_eq_true, if_false]
  refine wpAny_bind (C.it _ _ _ _ st ?_)
  refine wpAny_bind (wpAny_holding (C.hi _ _ _ _ st fun roomy => ?_))
  have q0 : (PySem.Code.builtin "list.extend.loop" ⟨[.ref S, .ref r, res], []⟩).quiet = true := plainId_quiet PySem.F.plain_extend_loop _
  refine wpAny_ite_split (fun _ => ?_) (fun _ => wpAny_pure ⟨q0, lp s.heap c0 st (fun _ _ _ e => e) at0⟩)
  refine wpAny_bind (wpAny_rule ?_)
  refine wpAny_bind ?_
  show wpAny _ _ (updateSeq S (fun a => a.push .none) >>= fun _ => updateSeq S (fun a => a.pop)) _ _ _
  refine wpAny_bind (wpAny_updateSeq at0 rfl ?_)
  have at1 := Heap.get?_update_self (Obj.mapSeq (fun a => a.push Value.none)) at0 rfl
  refine wpAny_updateSeq (hz := by seq_fits) at1 rfl ?_
  have at2 := Heap.get?_update_self (Obj.mapSeq (fun a => a.pop)) at1 rfl
  have kp2 : ∀ b o, b ≠ S → s.heap.get? b = some o → ((s.heap.update S (Obj.mapSeq (fun a => a.push Value.none))).update S (Obj.mapSeq (fun a => a.pop))).get? b = some o := fun b o nb e =>
    (Heap.get?_update_other _ _ nb.symm).trans ((Heap.get?_update_other _ _ nb.symm).trans e)
  exact wpAny_pure ⟨q0, lp _ _ (C.kp _ _ st fun b hb o e => kp2 b o (fun z => hS (z ▸ hb)) e) kp2 at2⟩
theorem src_call {Q : Value → Shared → Prop} (C : Src prog w T r fp St) (st : St s.heap)
    (lp : ∀ (R : Result → Shared → Prop) (g : Heap) (c : Nat), St g → (∀ b o, s.heap.get? b = some o → g.get? b = some o) → listAt g s.heap.objs.size #[] c → (∀ t, Q (.ref s.heap.objs.size) t → R (.ok (.ret .none)) t) →
      codeAny (model prog w) A.in1 (loopCode s.heap.objs.size r .none) R { s with heap := g }) :
    wpAny (model prog w) A (call (.type "list") [.ref r]) Q E s := by
  refine callType_codes (Q₁ := fun ob t => ob = .ref s.heap.objs.size ∧ t = { s with heap := s.heap.push { cls := .type "list", data := .seq #[] } }) PySem.F.called_list (PySem.F.typeCall_list_1 _) PySem.F.entry_list_init
    (code_list_new _ ⟨rfl, rfl⟩) fun ob t ht => ?_
  obtain ⟨e1, e2⟩ := ht
  subst e1 e2
  have at0 : (s.heap.push { cls := .type "list", data := .seq #[] }).get? s.heap.objs.size = some { cls := .type "list", data := .seq #[] } := Heap.get?_push_size _ rfl
  have hS : s.heap.objs.size ∉ fp := fun z => Nat.lt_irrefl _ (C.lt _ st _ z)
  refine ⟨⟨_, at0, rfl⟩, PySem.F.args_list_init_2 _ _, ?_⟩
  show wpAny _ _ (do let old ← Builtin.List.listItems (.ref s.heap.objs.size); Builtin.List.listUpdate (.ref s.heap.objs.size) (fun _ => #[]); letGo old.toList.reverse; Builtin.List.listExtendWith (.ref s.heap.objs.size) (.ref r) .none) _ _ _
  refine wpAny_bind ?_
  unfold Builtin.List.listItems
  refine wpAny_bind (wpAny_seqItems at0 rfl (wpAny_pure ?_))
  show wpAny _ _ (updateSeq s.heap.objs.size (fun _ => #[]) >>= fun _ => letGo (#[] : Array Value).toList.reverse >>= fun _ => Builtin.List.listExtendWith (.ref s.heap.objs.size) (.ref r) .none) _ _ _
  refine wpAny_bind (wpAny_updateSeq at0 rfl ?_)
  have at1 := Heap.get?_update_self (Obj.mapSeq (fun _ => (#[] : Array Value))) at0 rfl
  have k0 : ∀ b o, s.heap.get? b = some o → ((s.heap.push { cls := .type "list", data := .seq #[] }).update s.heap.objs.size (Obj.mapSeq (fun _ => (#[] : Array Value)))).get? b = some o := fun b o e =>
    (Heap.get?_update_other _ _ (Nat.ne_of_gt (Heap.lt_size e))).trans (Heap.get?_push_of_some _ e)
  refine wpAny_bind (wpAny_letGo ?_)
  refine src_extend (A := A.in1) C (C.kp _ _ st fun b hb o e => k0 b o e) hS .none at1 fun g c sg kg ag => ?_
  exact lp _ g c sg (fun b o e => kg b o (Nat.ne_of_lt (Heap.lt_size e)) (k0 b o e)) ag fun t q => ⟨rfl, q⟩
/-- one turn of the loop -/
theorem loop_turn {res : Value} {acc : Array Value} {c : Nat} (hz : acc.size < sizeLine) (hn : wpAny (model prog w) A.in1 (pyNext (.ref r)) (fun v t => ∃ x, v = some x ∧ listAt t.heap S acc c ∧ ∀ (g : Heap) (c' : Nat), (∀ b o, b ≠ S → t.heap.get? b = some o → g.get? b = some o) → listAt g S (acc.push x) c' → codeAny (model prog w) A (loopCode S r res) R { t with heap := g }) (fun e t => R (.error e) t) s) :
    codeAny (model prog w) A (loopCode S r res) R s := by
  refine codeAny_builtin F.entry_extend_loop ?_
  rw [Around.under_plainId F.plain_extend_loop _]
  show wpAny _ A.in1 (pyNext (.ref r) >>= _) _ _ s
  refine wpAny_bind (wpAny_mono hn (fun v t h => ?_) fun _ _ h => h)
  obtain ⟨x, ev, hl, k⟩ := h
  subst ev
  show wpAny _ A.in1 (updateSeq S (fun a => a.push x) >>= _) _ _ _
  refine wpAny_bind ?_
  refine wpAny_updateSeq hl rfl (wpAny_pure ⟨plainId_quiet F.plain_extend_loop _, k _ _ (fun b o nb e => (Heap.get?_update_other _ _ nb.symm).trans e) (Heap.get?_update_self _ hl rfl)⟩) (by omega) (by show (acc.push x).size ≤ sizeLine + 1; rw [Array.size_push]; omega)
theorem loop_last {res : Value} (hn : wpAny (model prog w) A.in1 (pyNext (.ref r)) (fun v t => v = none ∧ R (.ok (.ret res)) t) (fun e t => R (.error e) t) s) : codeAny (model prog w) A (loopCode S r res) R s := by
  refine codeAny_builtin F.entry_extend_loop ?_
  rw [Around.under_plainId F.plain_extend_loop _]
  show wpAny _ A.in1 (pyNext (.ref r) >>= _) _ _ s
  refine wpAny_bind (wpAny_mono hn (fun v t h => ?_) fun _ _ h => h)
  obtain ⟨ev, k⟩ := h
  subst ev
  exact wpAny_pure k

/-! ### reversed(list) -/
theorem src_rev {it l : Addr} {items : Array Value} {i : Int} : Src prog w "list_reverseiterator" it [it, l] (fun g => g.IsRevIter it l i ∧ g.IsList l items) where
  ty := fun t st => Heap.IsRevIter.typeIs (s := t) st.1
  mem := by simp
  lt := fun g st b hb => by
    obtain ⟨⟨o1, h1, _⟩, ⟨o2, h2, _⟩⟩ := st
    have e : b = it ∨ b = l := by simpa using hb
    rcases e with e | e
    · rw [e]; exact Heap.lt_size h1
    · rw [e]; exact Heap.lt_size h2
  kp := fun g g' st k => ⟨st.1.at fun o e => k it (by simp) o e, st.2.at fun o e => k l (by simp) o e⟩
  nl := by decide +kernel
  nt := by decide +kernel
  it := fun B F t Q st q => wpAny_pyIter_revIter (s := t) st.1 q
  hi := fun B F t Q st q => by
    have ht : t.TypeIs (.ref it) "list_reverseiterator" := Heap.IsRevIter.typeIs (s := t) st.1
    unfold Builtin.List.listLengthHint
    refine wpAny_bind (wpAny_specialOf ht RT.nolen_lri ?_)
    show wpAny _ B (specialOf (Value.ref it) (Str.ofString "__length_hint__") >>= _) _ _ _
    refine wpAny_bind (wpAny_specialOf ht RT.hint_lri ?_)
    generalize hid : ("list_reverseiterator.__length_hint__" : String) = z
    wp_delta
    rw [show splitId z = some ("list_reverseiterator", "__length_hint__") from by subst hid; decide +kernel]
    subst hid
    refine wpAny_bind (wpAny_isInstance (b := true) ht (by rw [isSubtype_type]; kernel_rfl) ?_)
    exact wpAny_pure (q _)
theorem call_list_rev {it l : Addr} {items : Array Value} {Q : Value → Shared → Prop} (hh : A.handled = none) (hi : s.heap.IsRevIter it l ((items.size : Int) - 1)) (hl : s.heap.IsList l items) (hne : l ≠ it) (hz : items.size ≤ sizeLine)
    (q : ∀ (g : Heap) (tk : Nat) (acc : Array Value) (c : Nat), (∀ b o, b ≠ it → s.heap.get? b = some o → g.get? b = some o) → listAt g s.heap.objs.size acc c → ItemsOf (fun i v => items[items.size - 1 - i]? = some v) acc items.size → Q (.ref s.heap.objs.size) { s with heap := g, toks := tk }) :
    wpAny (model prog w) A (call (.type "list") [.ref it]) Q E s := by
  have C : Src prog w "list_reverseiterator" it [it, l] (fun g => g.IsRevIter it l ((items.size : Int) - 1) ∧ g.IsList l items) := src_rev
  refine src_call C ⟨hi, hl⟩ fun R g c st kg ag fin => ?_
  have W := (Walks.listRev (prog := prog) (w := w) (A := A.in1.in1) hh it l hne items).toS
  have hSf : s.heap.objs.size ∉ [it, l] := fun z => Nat.lt_irrefl _ (C.lt _ ⟨hi, hl⟩ _ z)
  have e0 : ((items.size : Nat) : Int) - 1 - ((0 : Nat) : Int) = (items.size : Int) - 1 := by omega
  refine codeAny_extend_loopS W hz _ hSf _ items.size 0 _ _ _ rfl (Nat.zero_le _) ⟨Nat.zero_le _, by rw [e0]; exact st.1, st.2⟩ ag (ItemsOf.nil _) fun t acc c' hm ht hacc => fin t ?_
  rw [Moved.eq_with hm]
  refine q t.heap t.toks acc c' (fun b o hb e => hm.heap b o (fun hmem => ?_) (kg b o e)) ht hacc
  rcases List.mem_cons.mp hmem with e' | hmem
  · exact absurd (Heap.lt_size e) (by rw [e']; exact Nat.lt_irrefl _)
  · exact hb (List.mem_singleton.mp hmem)
end
section
variable {X : Cx}
/-- list(reversed(x)), x a list -/
def tListRev (K : PySem.W.Frag) (te : TE) : TE := fun σ H Q => te σ H fun v H1 => ∃ (a : Addr) (xs : List V), v = .ref a ∧ SqL K H1 a xs ∧ ∀ q, H1 q = none → Q (.ref q) (upd H1 q (.lst xs.reverse))
theorem pe_listRev {e : Expr} {te : TE} {p p2 pos pos2 : Pos} (hc : X.calm = true) (hm : X.mg "list" = none) (hm2 : X.mg "reversed" = none) (he : PE X e te) (hg : Gl X "list" := by rfl) (hg2 : Gl X "reversed" := by rfl)
    (n1 : starEach [e] X.env = (false, eval e X.env) :: starEach [] X.env := by rfl) (n2 : starEach [.Call (.Name "reversed" p2) [e] [] pos2] X.env = (false, eval (.Call (.Name "reversed" p2) [e] [] pos2) X.env) :: starEach [] X.env := by rfl) :
    PE X (.Call (.Name "list" p) [.Call (.Name "reversed" p2) [e] [] pos2] [] pos) (tListRev X.K te) := by
  refine ⟨fun pins s σ H Q I h => Call_ (ld_blt I hg hm boot_list (PyProof.Rows.callWith_type1 (args_cons (Call_ (ld_blt I hg2 hm2 PyProof.Rows.boot_reversed (PyProof.Rows.callWith_type1 (args_cons (thn (he.run pins s σ H _ I h) fun u t ⟨v, H1, J, rv, q⟩ => args_nil ?_) n1) n1 rfl))) n2) n2 rfl))⟩
  obtain ⟨a, xs, ev, hq, q⟩ := q
  subst ev
  obtain rfl : u = Value.ref a := rv
  obtain ⟨its, rl, pl, hz⟩ := J.list hq
  refine call_reversed_list pl.isList (args_nil ?_)
  have J2 : Inv X pins σ H1 { t with heap := t.heap.push (revObj a ((its.toArray.size : Int) - 1)) } := J.kept (t' := t.toks) fun b o e => Heap.get?_push_of_some _ e
  obtain ⟨f0, f1, f2, f3, f4, f5⟩ := J.fpOk (H' := H1) (b := t.heap.objs.size) (Nat.le_refl _) (J.hok.fresh (Nat.le_refl _))
  have hl := pl.isList
  obtain ⟨ol, hol, _⟩ := id hl
  refine call_list_rev (s := { t with heap := t.heap.push (revObj a ((its.toArray.size : Int) - 1)) }) (J.ok.hd hc) ⟨_, Heap.get?_push_size _ rfl, rfl, rfl⟩ (hl.push _) (Nat.ne_of_lt (Heap.lt_size hol)) (by rw [List.size_toArray, ← rl.length]; exact hz) fun g tk acc c kg ag ha => ?_
  have hz1 : (t.heap.push (revObj a ((its.toArray.size : Int) - 1))).objs.size = t.heap.objs.size + 1 := Heap.size_push ..
  refine ⟨.ref (t.heap.push (revObj a ((its.toArray.size : Int) - 1))).objs.size, _, J2.turnedNew (t' := tk) (ob := .lst xs.reverse) (ch := [t.heap.objs.size]) (fun b o hb e => kg b o (by simpa using hb) e) (fun b hb => ?_) (Nat.le_refl _) ?_, rfl, q _ (J2.hok.fresh (Nat.le_refl _))⟩
  · have e : b = t.heap.objs.size := by simpa using hb
    rw [e]
    exact ⟨f0, f1, f2, f3, f4, f5⟩
  · refine ⟨by rw [List.length_reverse]; exact hz, acc.toList, c, RT.vals_rev rl ha, ?_⟩
    rw [Array.toArray_toList]
    exact ag
end
end Fx

end

/-! Fx14: list(zip(x, y)) -/
noncomputable section
namespace Fx
open PySem PySem.Spec PyProof.Rows L2

section
variable {prog : Program} {w : World} {A : Around} {E : Value → Shared → Prop} {s : Shared}
theorem nolen_zip : typeLookup (.type "zip") "__len__" = pure none := by rw [typeLookup_type, builtinLookup_eq_fast]; kernel_rfl
theorem nohint_zip : typeLookup (.type "zip") "__length_hint__" = pure none := by rw [typeLookup_type, builtinLookup_eq_fast]; kernel_rfl
theorem hint_zip {z : Addr} {Q : Bool → Shared → Prop} (ht : s.TypeIs (.ref z) "zip") (q : ∀ b, Q b s) : wpAny (model prog w) A (Builtin.List.listLengthHint (.ref z)) Q E s := by
  unfold Builtin.List.listLengthHint
  refine wpAny_bind (wpAny_specialOf ht nolen_zip ?_)
  show wpAny _ A (specialOf (Value.ref z) (Str.ofString "__length_hint__") >>= _) _ _ _
  refine wpAny_bind (wpAny_specialOf ht nohint_zip ?_)
  exact wpAny_pure (q _)
/-- an iterator over a list or a tuple, as zip pulls it -/
structure Nx (prog : Program) (w : World) (i l : Addr) (xs : Array Value) (St : Nat → Heap → Prop) : Prop where
  fr : ∀ (k : Nat) (g g' : Heap), St k g → (∀ o, g.get? i = some o → g'.get? i = some o) → (∀ o, g.get? l = some o → g'.get? l = some o) → St k g'
  lt : ∀ (k : Nat) (g : Heap), St k g → i < g.objs.size ∧ l < g.objs.size
  item : ∀ (B : Around) (F : Value → Shared → Prop) (t : Shared) (k : Nat) (x : Value) (Q : Value → Shared → Prop), St k t.heap → xs[k]? = some x → (∀ g, St (k + 1) g → Heap.SameBut i t.heap g → Q x { t with heap := g }) →
    wpAny (model prog w) B (Builtin.SmallTypes.nextOf (.ref i)) Q F t
  stop : ∀ (B : Around) (F : Value → Shared → Prop) (t : Shared) (k : Nat) (Q : Value → Shared → Prop), B.handled = none → St k t.heap → xs[k]? = none → (∀ g e, Heap.ExtBut i t.heap g → (∃ o, g.get? e = some o ∧ o.cls = .type "StopIteration") → F (.ref e) { t with heap := g }) →
    wpAny (model prog w) B (Builtin.SmallTypes.nextOf (.ref i)) Q F t
theorem nx_list {i l : Addr} {xs : Array Value} (ne : l ≠ i) : Nx prog w i l xs fun k g => g.IsListIter i l k ∧ g.IsList l xs where
  fr := fun k g g' st h1 h2 => ⟨st.1.at h1, st.2.at h2⟩
  lt := fun k g st => by
    obtain ⟨⟨o1, e1, _⟩, ⟨o2, e2, _⟩⟩ := st
    exact ⟨Heap.lt_size e1, Heap.lt_size e2⟩
  item := fun B F t k x Q st hx q => wpAny_nextOf_list_item st.1 st.2 hx fun g hg sb => q g ⟨hg, st.2.extBut sb.extBut ne⟩ sb
  stop := fun B F t k Q hh st hx q => wpAny_nextOf_list_end hh st.1 st.2 hx q
theorem nx_tup {i l : Addr} {xs : Array Value} (ne : l ≠ i) : Nx prog w i l xs fun k g => g.IsTupleIter i l k ∧ g.IsTuple l xs where
  fr := fun k g g' st h1 h2 => ⟨st.1.at h1, st.2.at h2⟩
  lt := fun k g st => by
    obtain ⟨⟨o1, e1, _⟩, ⟨o2, e2, _⟩⟩ := st
    exact ⟨Heap.lt_size e1, Heap.lt_size e2⟩
  item := fun B F t k x Q st hx q => RZ.nextOf_tuple_item st.1 st.2 hx fun g hg sb => q g ⟨hg, st.2.extBut sb.extBut ne⟩ sb
  stop := fun B F t k Q hh st hx q => RZ.nextOf_tuple_end hh st.1 st.2 hx q
variable {z TI TO T i1 i2 l1 l2 : Addr} {f : Bool} {oT : Obj} {xs ys : Array Value} {x y a b : Value} {k : Nat} {S1 S2 : Nat → Heap → Prop}
theorem zh_item {Q : Value → Shared → Prop} (D : ZipApart z TI TO i1 i2 l1 l2) (N1 : Nx prog w i1 l1 xs S1) (N2 : Nx prog w i2 l2 ys S2) (hz : IsZipHeld s.heap z TI TO T f) (hT : s.heap.get? T = some oT) (hTI : IsPair s.heap TI (.ref i1) (.ref i2))
    (h1 : S1 k s.heap) (h2 : S2 k s.heap) (hx : xs[k]? = some x) (hy : ys[k]? = some y)
    (q : ∀ g, IsZipHeld g z TI TO T true → S1 (k + 1) g → S2 (k + 1) g → IsPair g s.heap.objs.size x y → g.objs.size = s.heap.objs.size + 1 → (∀ c o, c ≠ z → c ≠ i1 → c ≠ i2 → s.heap.get? c = some o → g.get? c = some o) → Q (.ref s.heap.objs.size) { s with heap := g }) :
    wpAny (model prog w) A (Builtin.«zip.__next__» ⟨[.ref z], []⟩) (fun fin t => ∃ v, fin = .done (.ret v) ∧ Q v t) E s := by
  show wpAny _ _ (field (.ref z) 2 >>= _) _ _ _
  refine wpAny_bind (wpAny_field hz rfl (x := .bool false) rfl ?_)
  show wpAny _ _ (field (.ref z) 3 >>= _) _ _ _
  refine wpAny_bind (wpAny_field hz rfl (x := .ref TI) rfl ?_)
  refine wpAny_bind (wpAny_seqItems hTI rfl ?_)
  show wpAny _ _ (Builtin.SmallTypes.ownedTupleIsFree (.ref z) >>= _) _ _ _
  refine wpAny_bind (wpAny_tupleHeld_zip hz hT fun g1 z1 b1 => ?_)
  simp only [Bool.false_eq_true, if_false]
  refine wpAny_bind ?_
  rw [← Array.forIn_toList]
  simp only [List.forIn_cons, List.forIn_nil]
  refine wpAny_bind (wpAny_bind (wpAny_holding ?_))
  show wpAny _ _ (Builtin.SmallTypes.nextOf (.ref i1) >>= _) _ _ _
  have a1 : S1 k g1 := N1.fr k _ _ h1 (fun o e => b1.extBut _ _ D.i1z e) fun o e => b1.extBut _ _ D.l1z e
  have a2 : S2 k g1 := N2.fr k _ _ h2 (fun o e => b1.extBut _ _ D.i2z e) fun o e => b1.extBut _ _ D.l2z e
  refine wpAny_bind (N1.item _ _ { s with heap := g1 } k x _ a1 hx fun g2 c1 b2 => wpAny_pure ?_)
  refine wpAny_pure ?_
  refine wpAny_bind (wpAny_bind (wpAny_holding ?_))
  show wpAny _ _ (Builtin.SmallTypes.nextOf (.ref i2) >>= _) _ _ _
  have a3 : S2 k g2 := N2.fr k _ _ a2 (fun o e => b2.extBut _ _ D.i12.symm e) fun o e => b2.extBut _ _ D.l2i1 e
  refine wpAny_bind (N2.item _ _ { s with heap := g2 } k y _ a3 hy fun g3 c2 b3 => wpAny_pure ?_)
  refine wpAny_pure (wpAny_pure ?_)
  show wpAny _ _ (newTuple [x, y] >>= _) _ _ _
  refine wpAny_bind (wpAny_newTuple ?_)
  have sz : g3.objs.size = s.heap.objs.size := by rw [b3.1, b2.1, b1.1]
  have z3 : IsZipHeld g3 z TI TO T true := b3.extBut _ _ D.i2z.symm (b2.extBut _ _ D.i1z.symm z1)
  have kp : ∀ c o, c ≠ z → c ≠ i1 → c ≠ i2 → s.heap.get? c = some o → g3.get? c = some o := fun c o n1 n2 n3 e => b3.extBut _ _ n3 (b2.extBut _ _ n2 (b1.extBut _ _ n1 e))
  have a4 : S1 (k + 1) g3 := N1.fr _ _ _ c1 (fun o e => b3.extBut _ _ D.i12 e) fun o e => b3.extBut _ _ D.l1i2 e
  refine wpAny_pure ⟨_, rfl, ?_⟩
  show Q (.ref g3.objs.size) _
  have hp : IsPair (g3.push { cls := .type "tuple", data := .seq #[x, y] }) g3.objs.size x y := Heap.get?_push_size _ rfl
  have hs : (g3.push { cls := .type "tuple", data := .seq #[x, y] }).objs.size = g3.objs.size + 1 := Heap.size_push ..
  rw [sz] at hp hs ⊢
  exact q _ (Heap.get?_push_of_some _ z3) (N1.fr _ _ _ a4 (fun o e => Heap.get?_push_of_some _ e) fun o e => Heap.get?_push_of_some _ e) (N2.fr _ _ _ c2 (fun o e => Heap.get?_push_of_some _ e) fun o e => Heap.get?_push_of_some _ e) hp hs fun c o n1 n2 n3 e => Heap.get?_push_of_some _ (kp c o n1 n2 n3 e)
theorem zh_stop {Q : Fin → Shared → Prop} (hh : A.handled = none) (D : ZipApart z TI TO i1 i2 l1 l2) (N1 : Nx prog w i1 l1 xs S1) (N2 : Nx prog w i2 l2 ys S2) (hz : IsZipHeld s.heap z TI TO T f) (hT : s.heap.get? T = some oT) (hTI : IsPair s.heap TI (.ref i1) (.ref i2))
    (h1 : S1 k s.heap) (h2 : S2 k s.heap) (hend : xs[k]? = none ∨ ys[k]? = none)
    (q : ∀ g e, (∀ c o, c ≠ z → c ≠ i1 → c ≠ i2 → s.heap.get? c = some o → g.get? c = some o) → (∃ o, g.get? e = some o ∧ o.cls = .type "StopIteration") → E (.ref e) { s with heap := g }) :
    wpAny (model prog w) A (Builtin.«zip.__next__» ⟨[.ref z], []⟩) Q E s := by
  show wpAny _ _ (field (.ref z) 2 >>= _) _ _ _
  refine wpAny_bind (wpAny_field hz rfl (x := .bool false) rfl ?_)
  show wpAny _ _ (field (.ref z) 3 >>= _) _ _ _
  refine wpAny_bind (wpAny_field hz rfl (x := .ref TI) rfl ?_)
  refine wpAny_bind (wpAny_seqItems hTI rfl ?_)
  show wpAny _ _ (Builtin.SmallTypes.ownedTupleIsFree (.ref z) >>= _) _ _ _
  refine wpAny_bind (wpAny_tupleHeld_zip hz hT fun g1 z1 b1 => ?_)
  simp only [Bool.false_eq_true, if_false]
  refine wpAny_bind ?_
  rw [← Array.forIn_toList]
  simp only [List.forIn_cons, List.forIn_nil]
  refine wpAny_bind (wpAny_bind (wpAny_holding ?_))
  show wpAny _ _ (Builtin.SmallTypes.nextOf (.ref i1) >>= _) _ _ _
  have a1 : S1 k g1 := N1.fr k _ _ h1 (fun o e => b1.extBut _ _ D.i1z e) fun o e => b1.extBut _ _ D.l1z e
  have a2 : S2 k g1 := N2.fr k _ _ h2 (fun o e => b1.extBut _ _ D.i2z e) fun o e => b1.extBut _ _ D.l2z e
  cases hx : xs[k]? with
  | none => exact wpAny_bind (N1.stop _ _ { s with heap := g1 } k _ hh a1 hx fun g2 e b2 he => q g2 e (fun c o n1 n2 _ u => b2 _ _ n2 (b1.extBut _ _ n1 u)) he)
  | some x =>
    have hy : ys[k]? = none := hend.resolve_left (by rw [hx]; exact fun u => nomatch u)
    refine wpAny_bind (N1.item _ _ { s with heap := g1 } k x _ a1 hx fun g2 c1 b2 => wpAny_pure ?_)
    refine wpAny_pure ?_
    refine wpAny_bind (wpAny_bind (wpAny_holding ?_))
    show wpAny _ _ (Builtin.SmallTypes.nextOf (.ref i2) >>= _) _ _ _
    have a3 : S2 k g2 := N2.fr k _ _ a2 (fun o e => b2.extBut _ _ D.i12.symm e) fun o e => b2.extBut _ _ D.l2i1 e
    exact wpAny_bind (N2.stop _ _ { s with heap := g2 } k _ hh a3 hy fun g3 e b3 he => q g3 e (fun c o n1 n2 n3 u => b3 _ _ n3 (b2.extBut _ _ n2 (b1.extBut _ _ n1 u))) he)
theorem zf_item {Q : Value → Shared → Prop} (D : ZipApart z TI TO i1 i2 l1 l2) (N1 : Nx prog w i1 l1 xs S1) (N2 : Nx prog w i2 l2 ys S2) (hz : IsZip s.heap z TI TO .none) (hTI : IsPair s.heap TI (.ref i1) (.ref i2)) (hTO : IsPair s.heap TO a b)
    (h1 : S1 k s.heap) (h2 : S2 k s.heap) (hx : xs[k]? = some x) (hy : ys[k]? = some y)
    (q : ∀ g, IsZipHeld g z TI TO s.heap.objs.size false → S1 (k + 1) g → S2 (k + 1) g → IsPair g s.heap.objs.size x y → g.objs.size = s.heap.objs.size + 1 → (∀ c o, c ≠ z → c ≠ TO → c ≠ i1 → c ≠ i2 → s.heap.get? c = some o → g.get? c = some o) → Q (.ref s.heap.objs.size) { s with heap := g }) :
    wpAny (model prog w) A (Builtin.«zip.__next__» ⟨[.ref z], []⟩) (fun fin t => ∃ v, fin = .done (.ret v) ∧ Q v t) E s := by
  show wpAny _ _ (field (.ref z) 2 >>= _) _ _ _
  refine wpAny_bind (wpAny_field hz rfl (x := .bool false) rfl ?_)
  show wpAny _ _ (field (.ref z) 3 >>= _) _ _ _
  refine wpAny_bind (wpAny_field hz rfl (x := .ref TI) rfl ?_)
  refine wpAny_bind (wpAny_seqItems hTI rfl ?_)
  show wpAny _ _ (Builtin.SmallTypes.ownedTupleIsFree (.ref z) >>= _) _ _ _
  refine wpAny_bind ?_
  unfold Builtin.SmallTypes.ownedTupleIsFree
  refine wpAny_bind (wpAny_field hz rfl (x := .none) rfl (wpAny_pure ?_))
  simp only [if_true]
  refine wpAny_bind (wpAny_rule ?_)
  refine wpAny_bind (wpAny_field hz rfl (x := .ref TO) rfl ?_)
  refine wpAny_bind (wpAny_setField_rec hz (by simp) fun g1 z1 b1 => ?_)
  replace z1 : IsZip g1 z TI TO .ellipsis := z1
  refine wpAny_bind ?_
  simp only [List.zipIdx_cons, List.zipIdx_nil, List.forIn_cons, List.forIn_nil]
  refine wpAny_bind (wpAny_bind (wpAny_onRaise ?_))
  show wpAny _ _ (Builtin.SmallTypes.nextOf (.ref i1) >>= _) _ _ _
  have a1 : S1 k g1 := N1.fr k _ _ h1 (fun o e => b1.extBut _ _ D.i1z e) fun o e => b1.extBut _ _ D.l1z e
  have a2 : S2 k g1 := N2.fr k _ _ h2 (fun o e => b1.extBut _ _ D.i2z e) fun o e => b1.extBut _ _ D.l2z e
  refine wpAny_bind (N1.item _ _ { s with heap := g1 } k x _ a1 hx fun g2 c1 b2 => wpAny_pure ?_)
  have t2 : IsPair g2 TO a b := b2.extBut _ _ D.TOi1 (b1.extBut _ _ D.TOz hTO)
  refine wpAny_bind (wpAny_seqItems t2 rfl ?_)
  refine wpAny_bind (wpAny_updateSeq_pair t2 fun g3 t3 b3 => ?_)
  replace t3 : IsPair g3 TO x b := t3
  refine wpAny_bind (wpAny_letGo (wpAny_pure ?_))
  refine wpAny_bind (wpAny_bind (wpAny_onRaise ?_))
  show wpAny _ _ (Builtin.SmallTypes.nextOf (.ref i2) >>= _) _ _ _
  have a3 : S2 k g3 := N2.fr k _ _ (N2.fr k _ _ a2 (fun o e => b2.extBut _ _ D.i12.symm e) fun o e => b2.extBut _ _ D.l2i1 e) (fun o e => b3.extBut _ _ D.TOi2.symm e) fun o e => b3.extBut _ _ D.l2TO e
  refine wpAny_bind (N2.item _ _ { s with heap := g3 } k y _ a3 hy fun g4 c2 b4 => wpAny_pure ?_)
  have t4 : IsPair g4 TO x b := b4.extBut _ _ D.TOi2 t3
  refine wpAny_bind (wpAny_seqItems t4 rfl ?_)
  refine wpAny_bind (wpAny_updateSeq_pair t4 fun g5 t5 b5 => ?_)
  replace t5 : IsPair g5 TO x y := t5
  refine wpAny_bind (wpAny_letGo (wpAny_pure (wpAny_pure ?_)))
  refine wpAny_bind (wpAny_seqItems t5 rfl ?_)
  refine wpAny_bind (wpAny_newTuple ?_)
  have sz : g5.objs.size = s.heap.objs.size := by rw [b5.1, b4.1, b3.1, b2.1, b1.1]
  have z5 : IsZip g5 z TI TO .ellipsis := b5.extBut _ _ D.TOz.symm (b4.extBut _ _ D.i2z.symm (b3.extBut _ _ D.TOz.symm (b2.extBut _ _ D.i1z.symm z1)))
  have k5 : ∀ c o, c ≠ z → c ≠ TO → c ≠ i1 → c ≠ i2 → s.heap.get? c = some o → g5.get? c = some o := fun c o n1 n2 n3 n4 e => b5.extBut _ _ n2 (b4.extBut _ _ n4 (b3.extBut _ _ n2 (b2.extBut _ _ n3 (b1.extBut _ _ n1 e))))
  have d1 : S1 (k + 1) g5 := N1.fr _ _ _ (N1.fr _ _ _ (N1.fr _ _ _ c1 (fun o e => b3.extBut _ _ D.TOi1.symm e) fun o e => b3.extBut _ _ D.l1TO e) (fun o e => b4.extBut _ _ D.i12 e) fun o e => b4.extBut _ _ D.l1i2 e) (fun o e => b5.extBut _ _ D.TOi1.symm e) fun o e => b5.extBut _ _ D.l1TO e
  have d2 : S2 (k + 1) g5 := N2.fr _ _ _ c2 (fun o e => b5.extBut _ _ D.TOi2.symm e) fun o e => b5.extBut _ _ D.l2TO e
  have zl : z < g5.objs.size := Heap.lt_size z5
  show wpAny _ _ (Builtin.SmallTypes.ownedTupleHandOut (.ref z) (.ref g5.objs.size) >>= _) _ _ _
  refine wpAny_bind ?_
  unfold Builtin.SmallTypes.ownedTupleHandOut
  have z6 : IsZip (g5.push { cls := .type "tuple", data := .seq #[x, y] }) z TI TO .ellipsis := Heap.get?_push_of_some _ z5
  refine wpAny_bind (wpAny_setField_rec z6 (by simp) fun g7 z7 b7 => ?_)
  replace z7 : IsZip g7 z TI TO (rawInt g5.objs.size) := z7
  refine wpAny_setField_rec z7 (by simp) fun g8 z8 b8 => ?_
  replace z8 : IsZip g8 z TI TO (rawInt g5.objs.size) := z8
  have rise : ∀ c o, c ≠ z → g5.get? c = some o → g8.get? c = some o := fun c o n1 e => b8.extBut _ _ n1 (b7.extBut _ _ n1 (Heap.get?_push_of_some _ e))
  have p8 : IsPair g8 g5.objs.size x y := b8.extBut _ _ (Nat.ne_of_gt zl) (b7.extBut _ _ (Nat.ne_of_gt zl) (Heap.get?_push_size _ rfl))
  have s8 : g8.objs.size = g5.objs.size + 1 := by rw [b8.1, b7.1, Heap.size_push]
  rw [sz] at z8 p8 s8
  refine wpAny_pure ⟨_, rfl, ?_⟩
  show Q (.ref g5.objs.size) _
  rw [sz]
  exact q g8 z8 (N1.fr _ _ _ d1 (fun o e => rise _ o D.i1z e) fun o e => rise _ o D.l1z e) (N2.fr _ _ _ d2 (fun o e => rise _ o D.i2z e) fun o e => rise _ o D.l2z e) p8 s8 fun c o n1 n2 n3 n4 e => rise c o n1 (k5 c o n1 n2 n3 n4 e)
theorem zf_stop {Q : Fin → Shared → Prop} (hh : A.handled = none) (D : ZipApart z TI TO i1 i2 l1 l2) (N1 : Nx prog w i1 l1 xs S1) (N2 : Nx prog w i2 l2 ys S2) (hz : IsZip s.heap z TI TO .none) (hTI : IsPair s.heap TI (.ref i1) (.ref i2)) (hTO : IsPair s.heap TO a b)
    (h1 : S1 k s.heap) (h2 : S2 k s.heap) (hend : xs[k]? = none ∨ ys[k]? = none)
    (q : ∀ g e, (∀ c o, c ≠ z → c ≠ TO → c ≠ i1 → c ≠ i2 → s.heap.get? c = some o → g.get? c = some o) → (∃ o, g.get? e = some o ∧ o.cls = .type "StopIteration") → E (.ref e) { s with heap := g }) :
    wpAny (model prog w) A (Builtin.«zip.__next__» ⟨[.ref z], []⟩) Q E s := by
  show wpAny _ _ (field (.ref z) 2 >>= _) _ _ _
  refine wpAny_bind (wpAny_field hz rfl (x := .bool false) rfl ?_)
  show wpAny _ _ (field (.ref z) 3 >>= _) _ _ _
  refine wpAny_bind (wpAny_field hz rfl (x := .ref TI) rfl ?_)
  refine wpAny_bind (wpAny_seqItems hTI rfl ?_)
  show wpAny _ _ (Builtin.SmallTypes.ownedTupleIsFree (.ref z) >>= _) _ _ _
  refine wpAny_bind ?_
  unfold Builtin.SmallTypes.ownedTupleIsFree
  refine wpAny_bind (wpAny_field hz rfl (x := .none) rfl (wpAny_pure ?_))
  simp only [if_true]
  refine wpAny_bind (wpAny_rule ?_)
  refine wpAny_bind (wpAny_field hz rfl (x := .ref TO) rfl ?_)
  refine wpAny_bind (wpAny_setField_rec hz (by simp) fun g1 z1 b1 => ?_)
  replace z1 : IsZip g1 z TI TO .ellipsis := z1
  refine wpAny_bind ?_
  simp only [List.zipIdx_cons, List.zipIdx_nil, List.forIn_cons, List.forIn_nil]
  refine wpAny_bind (wpAny_bind (wpAny_onRaise ?_))
  show wpAny _ _ (Builtin.SmallTypes.nextOf (.ref i1) >>= _) _ _ _
  have a1 : S1 k g1 := N1.fr k _ _ h1 (fun o e => b1.extBut _ _ D.i1z e) fun o e => b1.extBut _ _ D.l1z e
  have a2 : S2 k g1 := N2.fr k _ _ h2 (fun o e => b1.extBut _ _ D.i2z e) fun o e => b1.extBut _ _ D.l2z e
  cases hx : xs[k]? with
  | none =>
    refine wpAny_bind (N1.stop _ _ { s with heap := g1 } k _ hh a1 hx fun g2 e b2 he => ?_)
    obtain ⟨oe, hoe, hce⟩ := he
    have z2 : IsZip g2 z TI TO .ellipsis := b2 _ _ D.i1z.symm z1
    have ez : e ≠ z := fun u => by subst u; rw [z2] at hoe; cases hoe; simp at hce
    exact wpAny_setField_rec z2 (by simp) fun g3 _ b3 => q g3 e (fun c o n1 _ n3 _ u => b3.extBut _ _ n1 (b2 _ _ n3 (b1.extBut _ _ n1 u))) ⟨oe, b3.extBut _ _ ez hoe, hce⟩
  | some x =>
    have hy : ys[k]? = none := hend.resolve_left (by rw [hx]; exact fun u => nomatch u)
    refine wpAny_bind (N1.item _ _ { s with heap := g1 } k x _ a1 hx fun g2 c1 b2 => wpAny_pure ?_)
    have t2 : IsPair g2 TO a b := b2.extBut _ _ D.TOi1 (b1.extBut _ _ D.TOz hTO)
    refine wpAny_bind (wpAny_seqItems t2 rfl ?_)
    refine wpAny_bind (wpAny_updateSeq_pair t2 fun g3 t3 b3 => ?_)
    refine wpAny_bind (wpAny_letGo (wpAny_pure ?_))
    refine wpAny_bind (wpAny_bind (wpAny_onRaise ?_))
    show wpAny _ _ (Builtin.SmallTypes.nextOf (.ref i2) >>= _) _ _ _
    have a3 : S2 k g3 := N2.fr k _ _ (N2.fr k _ _ a2 (fun o e => b2.extBut _ _ D.i12.symm e) fun o e => b2.extBut _ _ D.l2i1 e) (fun o e => b3.extBut _ _ D.TOi2.symm e) fun o e => b3.extBut _ _ D.l2TO e
    refine wpAny_bind (N2.stop _ _ { s with heap := g3 } k _ hh a3 hy fun g4 e b4 he => ?_)
    obtain ⟨oe, hoe, hce⟩ := he
    have z4 : IsZip g4 z TI TO .ellipsis := b4 _ _ D.i2z.symm (b3.extBut _ _ D.TOz.symm (b2.extBut _ _ D.i1z.symm z1))
    have ez : e ≠ z := fun u => by subst u; rw [z4] at hoe; cases hoe; simp at hce
    exact wpAny_setField_rec z4 (by simp) fun g5 _ b5 => q g5 e (fun c o n1 n2 n3 n4 u => b5.extBut _ _ n1 (b4 _ _ n4 (b3.extBut _ _ n2 (b2.extBut _ _ n3 (b1.extBut _ _ n1 u))))) ⟨oe, b5.extBut _ _ ez hoe, hce⟩

/-- a zip that has given k pairs out; S: the list that holds them -/
def ZAt (z TI TO i1 i2 l1 l2 S : Addr) (S1 S2 : Nat → Heap → Prop) (k : Nat) (g : Heap) : Prop :=
  IsPair g TI (.ref i1) (.ref i2) ∧ S1 k g ∧ S2 k g ∧ ((IsZip g z TI TO .none ∧ ∃ a b, IsPair g TO a b) ∨ ∃ T f o, (T ≠ S ∧ T ≠ z ∧ T ≠ i1 ∧ T ≠ i2) ∧ IsZipHeld g z TI TO T f ∧ g.get? T = some o)
variable {S : Addr}
theorem ZAt.kp {g g' : Heap} (N1 : Nx prog w i1 l1 xs S1) (N2 : Nx prog w i2 l2 ys S2) (st : ZAt z TI TO i1 i2 l1 l2 S S1 S2 k g) (nS : S ∉ [z, TI, TO, i1, i2, l1, l2]) (kp : ∀ b o, b ≠ S → g.get? b = some o → g'.get? b = some o) : ZAt z TI TO i1 i2 l1 l2 S S1 S2 k g' := by
  simp only [List.mem_cons, List.not_mem_nil, or_false, not_or] at nS
  obtain ⟨n1, n2, n3, n4, n5, n6, n7⟩ := nS
  obtain ⟨p, s1, s2, hz⟩ := st
  refine ⟨kp _ _ (Ne.symm n2) p, N1.fr _ _ _ s1 (fun o e => kp _ _ (Ne.symm n4) e) fun o e => kp _ _ (Ne.symm n6) e, N2.fr _ _ _ s2 (fun o e => kp _ _ (Ne.symm n5) e) fun o e => kp _ _ (Ne.symm n7) e, ?_⟩
  rcases hz with ⟨hz, a, b, ht⟩ | ⟨T, f, o, nT, hz, ht⟩
  · exact .inl ⟨kp _ _ (Ne.symm n1) hz, a, b, kp _ _ (Ne.symm n3) ht⟩
  · exact .inr ⟨T, f, o, nT, kp _ _ (Ne.symm n1) hz, kp _ _ nT.1 ht⟩
theorem za_next {Q : Option Value → Shared → Prop} (D : ZipApart z TI TO i1 i2 l1 l2) (N1 : Nx prog w i1 l1 xs S1) (N2 : Nx prog w i2 l2 ys S2) (st : ZAt z TI TO i1 i2 l1 l2 S S1 S2 k s.heap) (hS : S < s.heap.objs.size) (hx : xs[k]? = some x) (hy : ys[k]? = some y)
    (q : ∀ g, ZAt z TI TO i1 i2 l1 l2 S S1 S2 (k + 1) g → IsPair g s.heap.objs.size x y → g.objs.size = s.heap.objs.size + 1 → (∀ c o, c ∉ [z, TO, i1, i2] → s.heap.get? c = some o → g.get? c = some o) → Q (some (.ref s.heap.objs.size)) { s with heap := g }) :
    wpAny (model prog w) A (pyNext (.ref z)) Q E s := by
  obtain ⟨p, s1, s2, hz⟩ := st
  have nS : s.heap.objs.size ≠ S := Nat.ne_of_gt hS
  have m1 : s.heap.objs.size ≠ i1 := Nat.ne_of_gt (N1.lt _ _ s1).1
  have m2 : s.heap.objs.size ≠ i2 := Nat.ne_of_gt (N2.lt _ _ s2).1
  rcases hz with ⟨hz, a, b, ht⟩ | ⟨T, f, o, nT, hz, ht⟩
  · have hty : s.TypeIs (.ref z) "zip" := ⟨_, hz, rfl⟩
    have m0 : s.heap.objs.size ≠ z := Nat.ne_of_gt (Heap.lt_size hz)
    unfold pyNext
    refine wpAny_bind (wpAny_attempt (wpAny_callSpecial?_slot (name := Str.ofString "__next__") hty F.slot_zip_next (wpAny_call_entry F.slot_zip_next hty F.entry_zip_next (zf_item D N1 N2 hz p ht s1 s2 hx hy fun g z1 c1 c2 pp sz kp => wpAny_pure (q g ⟨?_, c1, c2, .inr ⟨_, _, _, ⟨nS, m0, m1, m2⟩, z1, pp⟩⟩ pp sz fun c o hc e => ?_)) (F.args_zip_next_1 _))))
    · exact kp _ _ D.TIz D.TITO D.TIi1 D.TIi2 p
    · simp only [List.mem_cons, List.not_mem_nil, or_false, not_or] at hc
      exact kp c o hc.1 hc.2.1 hc.2.2.1 hc.2.2.2 e
  · have hty : s.TypeIs (.ref z) "zip" := ⟨_, hz, rfl⟩
    unfold pyNext
    refine wpAny_bind (wpAny_attempt (wpAny_callSpecial?_slot (name := Str.ofString "__next__") hty F.slot_zip_next (wpAny_call_entry F.slot_zip_next hty F.entry_zip_next (zh_item D N1 N2 hz ht p s1 s2 hx hy fun g z1 c1 c2 pp sz kp => wpAny_pure (q g ⟨?_, c1, c2, .inr ⟨T, true, o, nT, z1, kp _ _ nT.2.1 nT.2.2.1 nT.2.2.2 ht⟩⟩ pp sz fun c o hc e => ?_)) (F.args_zip_next_1 _))))
    · exact kp _ _ D.TIz D.TIi1 D.TIi2 p
    · simp only [List.mem_cons, List.not_mem_nil, or_false, not_or] at hc
      exact kp c o hc.1 hc.2.2.1 hc.2.2.2 e
theorem za_stop {Q : Option Value → Shared → Prop} (hh : A.handled = none) (D : ZipApart z TI TO i1 i2 l1 l2) (N1 : Nx prog w i1 l1 xs S1) (N2 : Nx prog w i2 l2 ys S2) (st : ZAt z TI TO i1 i2 l1 l2 S S1 S2 k s.heap) (hend : xs[k]? = none ∨ ys[k]? = none)
    (q : ∀ g, (∀ c o, c ∉ [z, TO, i1, i2] → s.heap.get? c = some o → g.get? c = some o) → Q none { s with heap := g }) :
    wpAny (model prog w) A (pyNext (.ref z)) Q E s := by
  obtain ⟨p, s1, s2, hz⟩ := st
  rcases hz with ⟨hz, a, b, ht⟩ | ⟨T, f, o, nT, hz, ht⟩
  · have hty : s.TypeIs (.ref z) "zip" := ⟨_, hz, rfl⟩
    unfold pyNext
    refine wpAny_bind (wpAny_attempt (wpAny_callSpecial?_slot (name := Str.ofString "__next__") hty F.slot_zip_next (wpAny_call_entry F.slot_zip_next hty F.entry_zip_next (zf_stop hh D N1 N2 hz p ht s1 s2 hend fun g e kp he => ?_) (F.args_zip_next_1 _))))
    obtain ⟨o, ho, hc⟩ := he
    refine wpAny_bind (wpAny_isInstance (T := "StopIteration") (b := true) ⟨o, ho, hc⟩ isSubtype_stop (wpAny_pure (q g fun c o hc e => ?_)))
    simp only [List.mem_cons, List.not_mem_nil, or_false, not_or] at hc
    exact kp c o hc.1 hc.2.1 hc.2.2.1 hc.2.2.2 e
  · have hty : s.TypeIs (.ref z) "zip" := ⟨_, hz, rfl⟩
    unfold pyNext
    refine wpAny_bind (wpAny_attempt (wpAny_callSpecial?_slot (name := Str.ofString "__next__") hty F.slot_zip_next (wpAny_call_entry F.slot_zip_next hty F.entry_zip_next (zh_stop hh D N1 N2 hz ht p s1 s2 hend fun g e kp he => ?_) (F.args_zip_next_1 _))))
    obtain ⟨o, ho, hc⟩ := he
    refine wpAny_bind (wpAny_isInstance (T := "StopIteration") (b := true) ⟨o, ho, hc⟩ isSubtype_stop (wpAny_pure (q g fun c o hc e => ?_)))
    simp only [List.mem_cons, List.not_mem_nil, or_false, not_or] at hc
    exact kp c o hc.1 hc.2.2.1 hc.2.2.2 e
/-- the list's items: references to new pairs, one behind the other -/
def PairsAt (g : Heap) (B : Nat) (Ts : List Addr) (ps : List (Value × Value)) : Prop := Ts.Pairwise (fun a b => a < b) ∧ (∀ t ∈ Ts, B ≤ t) ∧ Paired (fun t p => IsPair g t p.1 p.2) Ts ps
theorem Paired.snoc {α β : Type} {R : α → β → Prop} {a : α} {b : β} : ∀ {l : List α} {m : List β}, Paired R l m → R a b → Paired R (l ++ [a]) (m ++ [b])
  | _, _, .nil, r => .cons r .nil
  | _, _, .cons r t, q => .cons r (Paired.snoc t q)
theorem Paired.memL {α β : Type} {R : α → β → Prop} {a : α} : ∀ {l : List α} {m : List β}, Paired R l m → a ∈ l → ∃ b, R a b
  | _, _, .nil, h => by cases h
  | _, _, .cons r t, h => by
    rcases List.mem_cons.mp h with e | h
    · subst e; exact ⟨_, r⟩
    · exact Paired.memL t h
theorem PairsAt.kp {g g' : Heap} {B : Nat} {Ts : List Addr} {ps : List (Value × Value)} (h : PairsAt g B Ts ps) (kp : ∀ b o, B ≤ b → g.get? b = some o → g'.get? b = some o) : PairsAt g' B Ts ps := by
  refine ⟨h.1, h.2.1, ?_⟩
  obtain ⟨h1, h2, h3⟩ := h
  clear h1
  induction h3 with
  | nil => exact .nil
  | cons r t ih => exact .cons (kp _ _ (h2 _ List.mem_cons_self) r) (ih fun t ht => h2 t (List.mem_cons_of_mem _ ht))
theorem PairsAt.lt {g : Heap} {B : Nat} {Ts : List Addr} {ps : List (Value × Value)} (h : PairsAt g B Ts ps) : ∀ t ∈ Ts, t < g.objs.size := fun t ht => by
  obtain ⟨p, r⟩ := Paired.memL h.2.2 ht
  exact Heap.lt_size r
theorem zip_loop {res : Value} {R : Result → Shared → Prop} {B : Nat} (hh : A.handled = none) (D : ZipApart z TI TO i1 i2 l1 l2) (N1 : Nx prog w i1 l1 xs S1) (N2 : Nx prog w i2 l2 ys S2) (nS : S ∉ [z, TI, TO, i1, i2, l1, l2]) (hz : xs.size ≤ sizeLine) :
    ∀ (n k : Nat) (s : Shared) (acc : Array Value) (c : Nat) (Ts : List Addr), (xs.toList.zip ys.toList).length - k = n → k ≤ (xs.toList.zip ys.toList).length → B ≤ s.heap.objs.size → S < B → (∀ b ∈ [z, TO, i1, i2], b < B) → ZAt z TI TO i1 i2 l1 l2 S S1 S2 k s.heap → listAt s.heap S acc c →
      acc.toList = Ts.map Value.ref → PairsAt s.heap B Ts ((xs.toList.zip ys.toList).take k) →
      (∀ g acc' c' Ts', (∀ b o, b ∉ [S, z, TO, i1, i2] → s.heap.get? b = some o → g.get? b = some o) → listAt g S acc' c' → acc'.toList = Ts'.map Value.ref → PairsAt g B Ts' (xs.toList.zip ys.toList) → R (.ok (.ret res)) { s with heap := g }) →
      codeAny (model prog w) A (loopCode S z res) R s := by
  intro n
  induction n with
  | zero =>
    intro k s acc c Ts hn hk hB hSB hfp st at0 ea pa fin
    have ek : k = (xs.toList.zip ys.toList).length := by omega
    have hend : xs[k]? = none ∨ ys[k]? = none := by
      rw [List.length_zip] at ek
      rcases Nat.le_total xs.toList.length ys.toList.length with h | h
      · refine .inl (Array.getElem?_eq_none ?_)
        rw [← Array.length_toList]; omega
      · refine .inr (Array.getElem?_eq_none ?_)
        rw [← Array.length_toList]; omega
    refine loop_last (za_stop (A := A.in1) hh D N1 N2 st hend fun g kp => ⟨rfl, ?_⟩)
    have hSz : S ∉ [z, TO, i1, i2] := fun h => nS (by simp only [List.mem_cons, List.not_mem_nil, or_false] at h ⊢; rcases h with h | h | h | h <;> simp [h])
    refine fin g acc c Ts (fun b o hb e => kp b o (fun h => hb (List.mem_cons_of_mem _ h)) e) (kp _ _ hSz at0) ea ?_
    have et : (xs.toList.zip ys.toList).take k = xs.toList.zip ys.toList := by rw [ek, List.take_length]
    rw [et] at pa
    exact pa.kp fun b o hb e => kp b o (fun h => Nat.lt_irrefl _ (Nat.lt_of_lt_of_le (hfp b h) hb)) e
  | succ n ih =>
    intro k s acc c Ts hn hk hB hSB hfp st at0 ea pa fin
    have hlt : k < (xs.toList.zip ys.toList).length := by omega
    have hl := hlt
    rw [List.length_zip] at hl
    have hkx : k < xs.size := by rw [← Array.length_toList]; omega
    have hky : k < ys.size := by rw [← Array.length_toList]; omega
    have hx : xs[k]? = some xs[k] := Array.getElem?_eq_getElem hkx
    have hy : ys[k]? = some ys[k] := Array.getElem?_eq_getElem hky
    have hp : (xs.toList.zip ys.toList)[k]? = some (xs[k], ys[k]) := by
      rw [List.getElem?_zip_eq_some]
      exact ⟨by rw [Array.getElem?_toList]; exact hx, by rw [Array.getElem?_toList]; exact hy⟩
    have et : (xs.toList.zip ys.toList).take (k + 1) = (xs.toList.zip ys.toList).take k ++ [(xs[k], ys[k])] := by rw [List.take_add_one, hp]; rfl
    have hSz : S ∉ [z, TO, i1, i2] := fun h => nS (by simp only [List.mem_cons, List.not_mem_nil, or_false] at h ⊢; rcases h with h | h | h | h <;> simp [h])
    have la : acc.size = k := by
      rw [← Array.length_toList, ea, List.length_map, Paired.len2 pa.2.2, List.length_take]
      omega
    refine loop_turn (by omega) (za_next (A := A.in1) D N1 N2 st (Nat.lt_of_lt_of_le hSB hB) hx hy fun g st1 pp sz kp => ⟨_, rfl, kp _ _ hSz at0, fun g' c' kp' at' => ?_⟩)
    have hg : s.heap.objs.size + 1 ≤ g'.objs.size := Heap.lt_size (kp' _ _ (Nat.ne_of_gt (Nat.lt_of_lt_of_le hSB hB)) pp)
    have kB : ∀ b o, B ≤ b → s.heap.get? b = some o → g.get? b = some o := fun b o hb e => kp b o (fun h => Nat.lt_irrefl _ (Nat.lt_of_lt_of_le (hfp b h) hb)) e
    have kS : ∀ b o, B ≤ b → g.get? b = some o → g'.get? b = some o := fun b o hb e => kp' b o (fun h => Nat.lt_irrefl _ (Nat.lt_of_lt_of_le (h ▸ hSB) hb)) e
    refine ih (k + 1) { s with heap := g' } (acc.push (.ref s.heap.objs.size)) c' (Ts ++ [s.heap.objs.size]) (by omega) hlt (by show B ≤ g'.objs.size; omega) hSB hfp (st1.kp N1 N2 nS kp') at' (by rw [Array.toList_push, ea, List.map_append]; rfl) ?_ fun g2 acc2 c2 Ts2 kp2 at2 ea2 pa2 => ?_
    · rw [et]
      have pa' := (pa.kp kB).kp kS
      refine ⟨List.pairwise_append.mpr ⟨pa.1, List.pairwise_singleton _ _, fun a ha b hb => ?_⟩, fun t ht => ?_, Paired.snoc pa'.2.2 (kS _ _ hB pp)⟩
      · have eb : b = s.heap.objs.size := by simpa using hb
        rw [eb]
        exact pa.lt a ha
      · rcases List.mem_append.mp ht with h | h
        · exact pa.2.1 t h
        · have eb : t = s.heap.objs.size := by simpa using h
          rw [eb]; exact hB
    · refine fin g2 acc2 c2 Ts2 (fun b o hb e => kp2 b o hb (kp' b o (fun h => hb (by simp [h])) (kp b o (fun h => hb (List.mem_cons_of_mem _ h)) e))) at2 ea2 pa2
/-- list(a zip that is new) -/
theorem call_list_zip {Q : Value → Shared → Prop} (hh : A.handled = none) (D : ZipApart z TI TO i1 i2 l1 l2) (N1 : Nx prog w i1 l1 xs S1) (N2 : Nx prog w i2 l2 ys S2) (hzi : IsZip s.heap z TI TO .none) (hTI : IsPair s.heap TI (.ref i1) (.ref i2)) (hTO : IsPair s.heap TO a b) (h1 : S1 0 s.heap) (h2 : S2 0 s.heap) (hz : xs.size ≤ sizeLine)
    (q : ∀ g acc c Ts, (∀ b o, b ∉ [z, TO, i1, i2] → s.heap.get? b = some o → g.get? b = some o) → listAt g s.heap.objs.size acc c → acc.toList = Ts.map Value.ref → PairsAt g (s.heap.objs.size + 1) Ts (xs.toList.zip ys.toList) → Q (.ref s.heap.objs.size) { s with heap := g }) :
    wpAny (model prog w) A (call (.type "list") [.ref z]) Q E s := by
  have l1' := N1.lt _ _ h1
  have l2' := N2.lt _ _ h2
  have lz : z < s.heap.objs.size := Heap.lt_size hzi
  have lI : TI < s.heap.objs.size := Heap.lt_size hTI
  have lO : TO < s.heap.objs.size := Heap.lt_size hTO
  have hlt : ∀ b ∈ [z, TI, TO, i1, i2, l1, l2], b < s.heap.objs.size := fun b hb => by
    simp only [List.mem_cons, List.not_mem_nil, or_false] at hb
    rcases hb with h | h | h | h | h | h | h <;> rw [h]
    · exact lz
    · exact lI
    · exact lO
    · exact l1'.1
    · exact l2'.1
    · exact l1'.2
    · exact l2'.2
  have nS : s.heap.objs.size ∉ [z, TI, TO, i1, i2, l1, l2] := fun h => Nat.lt_irrefl _ (hlt _ h)
  have C : Src prog w "zip" z [z, TI, TO, i1, i2, l1, l2] (fun g => IsZip g z TI TO .none ∧ IsPair g TI (.ref i1) (.ref i2) ∧ IsPair g TO a b ∧ S1 0 g ∧ S2 0 g) := {
    ty := fun t st => ⟨_, st.1, rfl⟩
    mem := by simp
    lt := fun g st b hb => by
      obtain ⟨g1, g2, g3, g4, g5⟩ := st
      simp only [List.mem_cons, List.not_mem_nil, or_false] at hb
      rcases hb with h | h | h | h | h | h | h <;> rw [h]
      · exact Heap.lt_size g1
      · exact Heap.lt_size g2
      · exact Heap.lt_size g3
      · exact (N1.lt _ _ g4).1
      · exact (N2.lt _ _ g5).1
      · exact (N1.lt _ _ g4).2
      · exact (N2.lt _ _ g5).2
    kp := fun g g' st k => ⟨k z (by simp) _ st.1, k TI (by simp) _ st.2.1, k TO (by simp) _ st.2.2.1, N1.fr _ _ _ st.2.2.2.1 (fun o e => k i1 (by simp) o e) fun o e => k l1 (by simp) o e, N2.fr _ _ _ st.2.2.2.2 (fun o e => k i2 (by simp) o e) fun o e => k l2 (by simp) o e⟩
    nl := by decide +kernel
    nt := by decide +kernel
    it := fun B F t Q st q => wpAny_pyIter_zip st.1 q
    hi := fun B F t Q st q => hint_zip ⟨_, st.1, rfl⟩ q }
  refine src_call C ⟨hzi, hTI, hTO, h1, h2⟩ fun R g c st kg ag fin => ?_
  have hg : s.heap.objs.size < g.objs.size := Heap.lt_size ag
  refine zip_loop (A := A.in1) (B := s.heap.objs.size + 1) hh D N1 N2 nS hz _ 0 { s with heap := g } #[] c [] rfl (Nat.zero_le _) hg (Nat.lt_succ_self _) (fun b hb => ?_) ⟨st.2.1, st.2.2.2.1, st.2.2.2.2, .inl ⟨st.1, a, b, st.2.2.1⟩⟩ ag rfl ⟨List.Pairwise.nil, fun t ht => (by cases ht), by rw [List.take_zero]; exact .nil⟩ fun g' acc c' Ts kp at' ea pa => fin _ (q g' acc c' Ts (fun b o hb e => kp b o (fun h => ?_) (kg b o e)) at' ea pa)
  · exact Nat.lt_succ_of_lt (hlt b (by simp only [List.mem_cons, List.not_mem_nil, or_false] at hb ⊢; rcases hb with h | h | h | h <;> simp [h]))
  · rcases List.mem_cons.mp h with h | h
    · exact absurd (Heap.lt_size e) (by rw [h]; exact Nat.lt_irrefl _)
    · exact hb h
end
end Fx

end

/-! Fx15: the rules for list(zip(x, y)), list(reversed(x)), ranges, enumerate, zip -/
noncomputable section
namespace Fx
open PySem PySem.Spec PyProof.Rows L2

def updL (H : Hp) : List (Addr × HO) → Hp
  | [] => H
  | p :: r => updL (upd H p.1 p.2) r
theorem updL_ne {b : Addr} : ∀ {l : List (Addr × HO)} {H : Hp}, b ∉ l.map (·.1) → updL H l b = H b
  | [], _, _ => rfl
  | p :: r, H, h => by
    have h' : b ≠ p.1 ∧ b ∉ r.map (·.1) := by simpa using h
    show updL (upd H p.1 p.2) r b = H b
    rw [updL_ne h'.2, upd_ne h'.1]
theorem updL_at {p : Addr × HO} : ∀ {l : List (Addr × HO)} {H : Hp}, (l.map (·.1)).Nodup → p ∈ l → updL H l p.1 = some p.2
  | q :: r, H, nd, h => by
    have nd' := List.nodup_cons.mp (show (q.1 :: r.map (·.1)).Nodup from nd)
    show updL (upd H q.1 q.2) r p.1 = some p.2
    rcases List.mem_cons.mp h with e | h
    · subst e
      rw [updL_ne nd'.1, upd_same]
    · exact updL_at nd'.2 h
section
variable {X : Cx} {pins : List (Addr × Obj)} {σ : L2.St}
/-- many new objects at once -/
theorem Inv.many {g : Heap} {tk : Nat} : ∀ (news : List (Addr × HO)) (s : Shared) (H : Hp), Inv X pins σ H s → (∀ b u, s.heap.get? b = some u → g.get? b = some u) → (news.map (·.1)).Nodup → (∀ p ∈ news, s.heap.get? p.1 = none ∧ H p.1 = none) →
    (∀ p ∈ news, ∀ (H' : Hp) (G : Heap), G.get? p.1 = g.get? p.1 → ObjOk X.prog X.w H' G p.1 p.2) → Inv X pins σ (updL H news) { s with heap := g, toks := tk }
  | [], s, H, I, k, _, _, _ => I.kept k
  | p :: r, s, H, I, k, nd, fr, ok => by
    have nd' := List.nodup_cons.mp (show (p.1 :: r.map (·.1)).Nodup from nd)
    obtain ⟨G, g1, g2⟩ := restrict g fun b => (s.heap.get? b).isSome || b == p.1
    have gp : G.get? p.1 = g.get? p.1 := g1 _ (by simp)
    have kG : ∀ b u, s.heap.get? b = some u → G.get? b = some u := fun b u e => by rw [g1 b (by simp [e])]; exact k b u e
    have I1 : Inv X pins σ (upd H p.1 p.2) { s with heap := G, toks := tk } := I.laidN kG (fr p List.mem_cons_self).1 (fr p List.mem_cons_self).2 (ok p List.mem_cons_self _ _ gp)
    have I2 := Inv.many (g := g) (tk := tk) r { s with heap := G, toks := tk } (upd H p.1 p.2) I1 (fun b u e => by
      by_cases h : ((s.heap.get? b).isSome || b == p.1) = true
      · rw [← g1 b h]; exact e
      · have := g2 b (by simpa using h)
        rw [show G.get? b = some u from e] at this
        cases this) nd'.2 (fun q hq => by
      have nq : q.1 ≠ p.1 := fun z => nd'.1 (z ▸ List.mem_map_of_mem hq)
      obtain ⟨f1, f2⟩ := fr q (List.mem_cons_of_mem _ hq)
      exact ⟨g2 _ (by simp [f1, nq]), by rw [upd_ne nq]; exact f2⟩) fun q hq => ok q (List.mem_cons_of_mem _ hq)
    exact I2
end
/-- a new list of new pairs -/
def NewPairs (H H2 : Hp) (p : Addr) (xs ys : List V) : Prop := H p = none ∧ (∀ b o, H b = some o → H2 b = some o) ∧ ∃ Ts : List Addr, H2 p = some (.lst (Ts.map V.ref)) ∧ Paired (fun t q => t ≠ p ∧ H t = none ∧ H2 t = some (.tup [q.1, q.2])) Ts (xs.zip ys)
def tListZip (K : PySem.W.Frag) (ta : TA) : TE := fun σ H Q => ta σ H fun vs H1 => ∃ a b xs ys, vs = [.ref a, .ref b] ∧ ((SqL K H1 a xs ∧ SqL K H1 b ys) ∨ (SqT K H1 a xs ∧ SqT K H1 b ys)) ∧ ∀ p H2, NewPairs H1 H2 p xs ys → Q (.ref p) H2
theorem vals_zip {xs ys : List V} {us ws : List Value} (r : Vals xs us) (r' : Vals ys ws) : Paired (fun (p : V × V) (q : Value × Value) => RelV p.1 q.1 ∧ RelV p.2 q.2) (xs.zip ys) (us.zip ws) := by
  induction r generalizing ys ws with
  | nil => exact .nil
  | cons h t ih =>
    cases r' with
    | nil => exact .nil
    | cons h' t' => exact .cons ⟨h, h'⟩ (ih t')
theorem Paired.comp {α β γ : Type} {R : α → β → Prop} {S : γ → β → Prop} : ∀ {l : List α} {m : List β} {n : List γ}, Paired R l m → Paired S n m → Paired (fun a c => ∃ b, R a b ∧ S c b) l n
  | _, _, _, .nil, h => by cases h; exact .nil
  | _, _, _, .cons r t, h => by
    cases h with
    | cons r' t' => exact .cons ⟨_, r, r'⟩ (Paired.comp t t')
theorem Paired.ofGet {α β : Type} {R : α → β → Prop} : ∀ {l : List α} {m : List β}, l.length = m.length → (∀ (i : Nat) (a : α) (b : β), l[i]? = some a → m[i]? = some b → R a b) → Paired R l m
  | [], [], _, _ => .nil
  | [], _ :: _, e, _ => by simp at e
  | _ :: _, [], e, _ => by simp at e
  | a :: l, b :: m, e, h => .cons (h 0 a b rfl rfl) (Paired.ofGet (by simpa using e) fun i a b h1 h2 => h (i + 1) a b (by simpa using h1) (by simpa using h2))
section
variable {X : Cx} {pins : List (Addr × Obj)} {σ : L2.St} {H1 : Hp} {t : Shared}
theorem newPairs_fin {Q : VK} {B : Addr} {xs ys : List V} {us ws : List Value} {g : Heap} {acc : Array Value} {c : Nat} {Ts : List Addr} {S : Addr} (J : Inv X pins σ H1 t) (kp : ∀ b o, t.heap.get? b = some o → g.get? b = some o) (hS : t.heap.objs.size ≤ S) (hz : xs.length ≤ sizeLine)
    (ag : listAt g S acc c) (ea : acc.toList = Ts.map Value.ref) (pa : PairsAt g (S + 1) Ts (us.zip ws)) (r : Vals xs us) (r' : Vals ys ws) (q : ∀ p H2, NewPairs H1 H2 p xs ys → Q (.ref p) H2) :
    EP X pins σ Q (.ref S) { t with heap := g } := by
  have pz := Paired.comp pa.2.2 (vals_zip r r')
  have hlen : Ts.length = (xs.zip ys).length := Paired.len2 pz
  let news : List (Addr × HO) := (S, .lst (Ts.map V.ref)) :: (Ts.zip (xs.zip ys)).map fun p => (p.1, .tup [p.2.1, p.2.2])
  have e1 : ((Ts.zip (xs.zip ys)).map fun p => ((p.1, HO.tup [p.2.1, p.2.2]) : Addr × HO)).map (·.1) = Ts := by
    rw [List.map_map]
    show (Ts.zip (xs.zip ys)).map Prod.fst = Ts
    exact List.map_fst_zip (by omega)
  have nd : (news.map (·.1)).Nodup := by
    show (S :: ((Ts.zip (xs.zip ys)).map fun p => ((p.1, HO.tup [p.2.1, p.2.2]) : Addr × HO)).map (·.1)).Nodup
    rw [e1]
    refine List.nodup_cons.mpr ⟨fun h => Nat.lt_irrefl _ (pa.2.1 S h), List.Pairwise.imp (fun {a b} (h : a < b) => Nat.ne_of_lt h) pa.1⟩
  have up : ∀ p ∈ news, t.heap.objs.size ≤ p.1 := fun p hp => by
    have hm : p.1 ∈ S :: Ts := by
      have := List.mem_map_of_mem (f := fun x : Addr × HO => x.1) hp
      have e2 : news.map (·.1) = S :: Ts := by
        show S :: ((Ts.zip (xs.zip ys)).map fun p => ((p.1, HO.tup [p.2.1, p.2.2]) : Addr × HO)).map (·.1) = _
        rw [e1]
      rw [← e2]; exact this
    rcases List.mem_cons.mp hm with h | h
    · rw [h]; exact hS
    · have := pa.2.1 _ h
      omega
  have fr : ∀ p ∈ news, t.heap.get? p.1 = none ∧ H1 p.1 = none := fun p hp => by
    refine ⟨?_, J.hok.fresh (up p hp)⟩
    cases e : t.heap.get? p.1 with
    | none => rfl
    | some o => exact absurd (Heap.lt_size e) (Nat.not_lt.mpr (up p hp))
  have J2 := Inv.many (g := g) (tk := t.toks) news t H1 J kp nd fr fun p hp H' G eg => by
    rcases List.mem_cons.mp hp with h | h
    · subst h
      refine ⟨?_, acc.toList, c, ?_, ?_⟩
      · rw [List.length_map, hlen, List.length_zip]; omega
      · rw [ea]; exact vals_refs _
      · rw [Array.toArray_toList]; exact eg.trans ag
    · obtain ⟨⟨T, x, y⟩, hm, rfl⟩ := List.mem_map.mp h
      obtain ⟨i, hi⟩ := List.mem_iff_getElem?.mp hm
      obtain ⟨h1, h2⟩ := List.getElem?_zip_eq_some.mp hi
      obtain ⟨T', eT, b, hp1, hr1, hr2⟩ := Paired.get2 pz h2
      have : T' = T := by rw [show Ts[i]? = some T' from eT] at h1; exact Option.some.inj h1
      subst this
      exact ⟨by show 2 ≤ sizeLine; decide, [b.1, b.2], .cons hr1 (.cons hr2 .nil), ⟨_, (show G.get? _ = _ from eg).trans hp1, rfl, _, rfl⟩⟩
  refine ⟨.ref S, updL H1 news, J2, rfl, q S _ ⟨J.hok.fresh hS, fun b o e => ?_, Ts, ?_, ?_⟩⟩
  · refine (updL_ne fun h => ?_).trans e
    obtain ⟨p, hp, hb⟩ := List.mem_map.mp h
    rw [← hb, (fr p hp).2] at e
    cases e
  · exact updL_at (p := (S, HO.lst (Ts.map V.ref))) nd List.mem_cons_self
  · refine Paired.ofGet hlen fun i T pq h1 h2 => ?_
    have hT : T ∈ Ts := List.mem_iff_getElem?.mpr ⟨i, h1⟩
    have hm : ((T, HO.tup [pq.1, pq.2]) : Addr × HO) ∈ news := by
      refine List.mem_cons_of_mem _ (List.mem_map.mpr ⟨(T, pq), ?_, rfl⟩)
      exact List.mem_iff_getElem?.mpr ⟨i, List.getElem?_zip_eq_some.mpr ⟨h1, h2⟩⟩
    have h3 := pa.2.1 T hT
    exact ⟨Nat.ne_of_gt h3, (fr _ hm).2, updL_at (p := (T, HO.tup [pq.1, pq.2])) nd hm⟩
theorem pe_listZip {e e2 : Expr} {ta : TA} {p p2 pos pos2 : Pos} (hc : X.calm = true) (hm : X.mg "list" = none) (hm2 : X.mg "zip" = none) (ha : PA X [e, e2] ta) (hg : Gl X "list" := by rfl) (hg2 : Gl X "zip" := by rfl)
    (hs : starEach [e, e2] X.env = (false, eval e X.env) :: starEach [e2] X.env := by rfl) (hpl : (backTo pos2 (starEach [e2] X.env)).any (·.1) = false := by rfl) (n2 : starEach [.Call (.Name "zip" p2) [e, e2] [] pos2] X.env = (false, eval (.Call (.Name "zip" p2) [e, e2] [] pos2) X.env) :: starEach [] X.env := by rfl) :
    PE X (.Call (.Name "list" p) [.Call (.Name "zip" p2) [e, e2] [] pos2] [] pos) (tListZip X.K ta) := by
  refine ⟨fun pins s σ H Q I h => Call_ (ld_blt I hg hm boot_list (PyProof.Rows.callWith_type1 (args_cons (Call_ (ld_blt I hg2 hm2 PyProof.Rows.boot_zip (PyProof.Rows.callWith_type1 (thn (ha.run pos2 pins s σ H _ I h) fun us t ⟨vs, H1, J, rv, q⟩ => ?_) hs hpl))) n2) n2 rfl))⟩
  obtain ⟨a, b, xs, ys, ev, hq, q⟩ := q
  subst ev
  cases rv with
  | cons r rr =>
    cases rr with
    | cons r' rr =>
      cases rr
      cases r
      cases r'
      rcases hq with ⟨qx, qy⟩ | ⟨qx, qy⟩
      · obtain ⟨us, rx, p1, z1⟩ := J.list qx
        obtain ⟨ws, ry, p3, z2⟩ := J.list qy
        refine call_zip_2 p1.isList p3.isList fun g hz hTI hTO h1 h2 hsz hk => args_nil ?_
        have J2 : Inv X pins σ H1 { t with heap := g } := J.kept (t' := t.toks) hk
        have ne1 : a ≠ t.heap.objs.size := Nat.ne_of_lt p1.lt
        have ne2 : b ≠ t.heap.objs.size + 1 := Nat.ne_of_lt (Nat.lt_succ_of_lt p3.lt)
        refine call_list_zip (s := { t with heap := g }) (J.ok.hd hc) (PySem.W.ktu_apart t.heap.objs.size a b p1.lt p3.lt) (nx_list (xs := us.toArray) ne1) (nx_list (xs := ws.toArray) ne2) hz hTI hTO ⟨h1, p1.isList.at fun o e => hk _ o e⟩ ⟨h2, p3.isList.at fun o e => hk _ o e⟩ (by rw [List.size_toArray, ← rx.length]; exact z1) fun g2 acc c Ts kp ag ea pa => ?_
        refine newPairs_fin (t := t) (g := g2) (B := a) (us := us) (ws := ws) J (fun b o e => kp b o (fun h => ?_) (hk b o e)) (by show t.heap.objs.size ≤ g.objs.size; omega) z1 ag ea pa rx ry q
        have := Heap.lt_size e
        simp only [List.mem_cons, List.not_mem_nil, or_false] at h
        rcases h with h | h | h | h <;> rw [h] at this
        · exact absurd this (Nat.not_lt.mpr (Nat.le_add_right _ _))
        · exact absurd this (Nat.not_lt.mpr (Nat.le_add_right _ _))
        · exact Nat.lt_irrefl _ this
        · exact absurd this (Nat.not_lt.mpr (Nat.le_add_right _ _))
      · obtain ⟨us, rx, p1, z1⟩ := J.tuple qx
        obtain ⟨ws, ry, p3, z2⟩ := J.tuple qy
        obtain ⟨o1, ho1, _⟩ := id p1
        obtain ⟨o2, ho2, _⟩ := id p3
        have p1' : t.heap.IsTuple a us.toArray := p1
        have p3' : t.heap.IsTuple b ws.toArray := p3
        refine RZ.call_zipT p1' p3' fun g hz hTI hTO h1 h2 hsz hk => args_nil ?_
        have ne1 : a ≠ t.heap.objs.size := Nat.ne_of_lt (Heap.lt_size ho1)
        have ne2 : b ≠ t.heap.objs.size + 1 := Nat.ne_of_lt (Nat.lt_succ_of_lt (Heap.lt_size ho2))
        refine call_list_zip (s := { t with heap := g }) (J.ok.hd hc) (PySem.W.ktu_apart t.heap.objs.size a b (Heap.lt_size ho1) (Heap.lt_size ho2)) (nx_tup (xs := us.toArray) ne1) (nx_tup (xs := ws.toArray) ne2) hz hTI hTO ⟨h1, p1'.at fun o e => hk _ o e⟩ ⟨h2, p3'.at fun o e => hk _ o e⟩ (by rw [List.size_toArray, ← rx.length]; exact z1) fun g2 acc c Ts kp ag ea pa => ?_
        refine newPairs_fin (t := t) (g := g2) (B := a) (us := us) (ws := ws) J (fun b o e => kp b o (fun h => ?_) (hk b o e)) (by show t.heap.objs.size ≤ g.objs.size; omega) z1 ag ea pa rx ry q
        have := Heap.lt_size e
        simp only [List.mem_cons, List.not_mem_nil, or_false] at h
        rcases h with h | h | h | h <;> rw [h] at this
        · exact absurd this (Nat.not_lt.mpr (Nat.le_add_right _ _))
        · exact absurd this (Nat.not_lt.mpr (Nat.le_add_right _ _))
        · exact Nat.lt_irrefl _ this
        · exact absurd this (Nat.not_lt.mpr (Nat.le_add_right _ _))
end
end Fx

end

/-! Fx16: list(reversed(x)), list(zip(x, y)), tuples and lists of ranges, enumerate, zip, sorted(set(x)) -/
noncomputable section
namespace Fx
open PySem PySem.Spec PyProof.Rows L2

section
variable {X : Cx} {np : Nat} {pos : Pos}
def fListRev (ow : Bool) (f : FE) : FE := fun Γ => (f Γ).bind fun p => (dv p.2 p.1).bind fun d => match d with
  | .list ds => some ((Res.new ds.reverse).fin ow, p.2)
  | _ => none
theorem fx_listRev {ow : Bool} {a : Expr} {fa : FE} {p p2 pos2 : Pos} (hc : X.calm = true) (ml : X.mg "list" = none) (mr : X.mg "reversed" = none) (ha : FX X np a fa) (hg : Gl X "list" := by rfl) (hg2 : Gl X "reversed" := by rfl)
    (n1 : starEach [a] X.env = (false, eval a X.env) :: starEach [] X.env := by rfl) (n2 : starEach [.Call (.Name "reversed" p2) [a] [] pos2] X.env = (false, eval (.Call (.Name "reversed" p2) [a] [] pos2) X.env) :: starEach [] X.env := by rfl) :
    FX X np (.Call (.Name "list" p) [.Call (.Name "reversed" p2) [a] [] pos2] [] pos) (fListRev ow fa) := by
  refine PE.weak (pe_listRev hc ml mr ha hg hg2 n1 n2) fun σ H Q h => ?_
  obtain ⟨W, Γ, vs, ts, t, Γ', c, e, q⟩ := h
  obtain ⟨⟨t1, Γ1⟩, e1, e⟩ := Option.bind_eq_some_iff.mp e
  obtain ⟨d, e2, e⟩ := Option.bind_eq_some_iff.mp e
  split at e
  · rename_i ds
    cases e
    refine ⟨W, Γ, vs, ts, _, Γ1, c, e1, fun x H1 c1 => ?_⟩
    obtain ⟨O, c1⟩ := c1
    obtain ⟨a, xs, rfl, ha, fa⟩ := c1.view c1.top e2
    exact ⟨a, xs, rfl, .of ha, fun p hp => okn (fun v H' ok => q v H' (c1.pop.res ok)) hp fa.reverse⟩
  · cases e
def fListZip (ow : Bool) (fs : FA) : FE := fun Γ => (fs Γ).bind fun p => (dvs p.2 p.1).bind fun ds => match ds with
  | [.list as, .list bs] => some ((Res.new (zipD as bs)).fin ow, p.2)
  | [.tuple as, .tuple bs] => some ((Res.new (zipD as bs)).fin ow, p.2)
  | _ => none
theorem zip_frozen {K : PySem.W.Frag} {O : Own} {H H2 : Hp} {p : Addr} {as bs : List PyData} {xs ys : List V} (fa : FzA K O H as xs) (fb : FzA K O H bs ys) (kp : Kp O H O H2) (hT : ∀ t, t ≠ p → H t = none → O t = none) : ∀ {Ts : List Addr}, Paired (fun t q => t ≠ p ∧ H t = none ∧ H2 t = some (.tup [q.1, q.2])) Ts (xs.zip ys) → FzA K O H2 (zipD as bs) (Ts.map V.ref) := by
  intro Ts h
  have hl : Ts.length = (xs.zip ys).length := Paired.len2 h
  refine FzA.of_get ?_ fun i d v e1 e2 => ?_
  · unfold zipD
    rw [List.length_map, List.length_map, hl, List.length_zip, List.length_zip, fa.length, fb.length]
  · obtain ⟨x, y, g1, g2, rfl⟩ := zipD_get e1
    obtain ⟨u, eu, ru⟩ := fa.get g1
    obtain ⟨w, ew, rw'⟩ := fb.get g2
    have ez : (xs.zip ys)[i]? = some (u, w) := List.getElem?_zip_eq_some.mpr ⟨eu, ew⟩
    obtain ⟨T, eT, h0, h1, h2⟩ := Paired.get2 h ez
    rw [List.getElem?_map, show Ts[i]? = some T from eT] at e2
    cases e2
    exact .tup (.inl h2) (hT T h0 h1) (.cons (Fz.kp kp _ _ ru) (.cons (Fz.kp kp _ _ rw') .nil))
theorem Cf.newZip {K : PySem.W.Frag} {W : Wd} {O : Own} {σ : L2.St} {H H2 : Hp} {Γ : Gm} {vs : List V} {ts : List TV} {ow : Bool} {p : Addr} {as bs : List PyData} {xs ys : List V} (c : Cf K np W O σ H Γ vs ts) (fa : FzA K O H as xs) (fb : FzA K O H bs ys) (n : NewPairs H H2 p xs ys) :
    Cfg K np W σ H2 Γ (.ref p :: vs) ((Res.new (zipD as bs)).fin ow :: ts) := by
  obtain ⟨hp, kp, Ts, h2, pr⟩ := n
  have k0 : Kp O H O H2 := fun b o e n => ⟨kp b o e, n⟩
  have dom2 : ∀ b t, O b = some t → H2 b ≠ none := fun b t q => by
    cases z : H b with
    | none => exact absurd z (c.dom b t q)
    | some o => rw [kp b o z]; exact fun z => by cases z
  cases ow with
  | false =>
    have a0 : Ev J0 O H O H2 := ⟨fun b o e _ => ⟨kp b o e, rfl⟩, dom2, fun _ h => h⟩
    exact ⟨O, (c.ev0 a0).push (.lst h2 (own_none c.dom hp) (zip_frozen fa fb k0 (fun t _ h => own_none c.dom h) pr))⟩
  | true =>
    have n1 : ∀ b o, H b = some o → put O p (.tmp ts.length) b = O b := fun b o e => put_ne (ne_of_none e hp)
    have k1 : Kp O H (put O p (.tmp ts.length)) H := fun b o e n => ⟨e, (n1 b o e).trans n⟩
    have a1 : Ev J0 O H (put O p (.tmp ts.length)) H2 := by
      refine ⟨fun b o e _ => ⟨kp b o e, n1 b o e⟩, fun b t q => ?_, fun b q => ?_⟩
      · by_cases e : b = p
        · rw [e, h2]; exact fun z => by cases z
        · rw [put_ne e] at q; exact dom2 b t q
      · by_cases e : b = p
        · rw [e, put_same] at q; cases q
        · rwa [put_ne e] at q
    refine ⟨_, (c.ev0 a1).push ⟨p, _, rfl, put_same, h2, ?_⟩⟩
    exact zip_frozen (p := p) (FzA.kp k1 _ _ fa) (FzA.kp k1 _ _ fb) (fun b o e n => ⟨kp b o e, n⟩) (fun t h0 h => by rw [put_ne h0]; exact own_none c.dom h) pr
theorem fx_listZip {ow : Bool} {e e2 : Expr} {fs : FA} {p p2 pos2 : Pos} (hc : X.calm = true) (ml : X.mg "list" = none) (mz : X.mg "zip" = none) (ha : FAX X np [e, e2] fs) (hg : Gl X "list" := by rfl) (hg2 : Gl X "zip" := by rfl)
    (hs : starEach [e, e2] X.env = (false, eval e X.env) :: starEach [e2] X.env := by rfl) (hpl : (backTo pos2 (starEach [e2] X.env)).any (·.1) = false := by rfl) (n2 : starEach [.Call (.Name "zip" p2) [e, e2] [] pos2] X.env = (false, eval (.Call (.Name "zip" p2) [e, e2] [] pos2) X.env) :: starEach [] X.env := by rfl) :
    FX X np (.Call (.Name "list" p) [.Call (.Name "zip" p2) [e, e2] [] pos2] [] pos) (fListZip ow fs) := by
  refine PE.weak (pe_listZip hc ml mz ha hg hg2 hs hpl n2) fun σ H Q h => ?_
  obtain ⟨W, Γ, vs, ts, t, Γ', c, e, q⟩ := h
  obtain ⟨⟨us, Γ1⟩, e1, e⟩ := Option.bind_eq_some_iff.mp e
  obtain ⟨ds, e2, e⟩ := Option.bind_eq_some_iff.mp e
  refine ⟨W, Γ, vs, ts, us, Γ1, c, e1, fun xs H1 c1 el => ?_⟩
  obtain ⟨O, c1⟩ := c1
  obtain ⟨pr, c2⟩ := c1.args el
  have vw := c2.views pr e2
  split at e
  · cases e
    obtain ⟨x, y, rfl, ⟨a, us, rfl, ha, fa⟩, ⟨b, ws, rfl, hb, fb⟩⟩ := vw.two
    exact ⟨a, b, us, ws, rfl, .inl ⟨.of ha, .of hb⟩, fun p H2 n => q _ H2 (c2.newZip fa fb n)⟩
  · cases e
    obtain ⟨x, y, rfl, h1, h2⟩ := vw.two
    obtain ⟨a, us, rfl, ha, fa⟩ := Fz.sqT h1
    obtain ⟨b, ws, rfl, hb, fb⟩ := Fz.sqT h2
    exact ⟨a, b, us, ws, rfl, .inr ⟨ha, hb⟩, fun p H2 n => q _ H2 (c2.newZip fa fb n)⟩
  · cases e

/-! ### ranges -/
def fTupR1 (f : FE) : FE := fun Γ => (f Γ).bind fun p => (intT p.1).bind fun n => (rgA n).map fun l => (.md (.dat (.tuple l)), p.2)
theorem fx_tupR1 {a : Expr} {p pr pc : Pos} {fa : FE} (hc : X.calm = true) (ml : X.mg "tuple" = none) (mr : X.mg "range" = none) (ha : FX X np a fa) (gl : Gl X "tuple" := by rfl) (gr : Gl X "range" := by rfl)
    (n1 : starEach [a] X.env = (false, eval a X.env) :: starEach [] X.env := by rfl) (n2 : starEach [.Call (.Name "range" pr) [a] [] pc] X.env = (false, eval (.Call (.Name "range" pr) [a] [] pc) X.env) :: starEach [] X.env := by rfl) :
    FX X np (.Call (.Name "tuple" p) [.Call (.Name "range" pr) [a] [] pc] [] pos) (fTupR1 fa) := by
  refine PE.weak (pe_tupRg hc gl ml (prg_1 gr mr ha n1) n2) fun σ H Q h => ?_
  obtain ⟨W, Γ, vs, ts, t, Γ', c, e, q⟩ := h
  obtain ⟨⟨t1, Γ1⟩, e1, e⟩ := Option.bind_eq_some_iff.mp e
  obtain ⟨n, e2, e⟩ := Option.bind_eq_some_iff.mp e
  obtain ⟨l, e3, e4⟩ := Option.map_eq_some_iff.mp e
  cases e4
  have ht : t1 = .md (.dat (.int n)) := intT_to e2
  subst ht
  obtain ⟨hn, el⟩ := rgA_to e3
  subst el
  refine ⟨W, Γ, vs, ts, _, Γ1, c, e1, fun x H1 c1 => ?_⟩
  obtain ⟨O, c1⟩ := c1
  have r : Fz X.K O H1 (.int n) x := c1.top
  cases r
  refine ⟨n, rfl, rg2Ok_to hn, fun p hp => ?_⟩
  have fz := rangeV (K := X.K) (O := O) (H := H1) 0 n
  rw [Int.sub_zero] at fz
  exact okt c1.dom (fun v H' ok => q v H' (c1.pop.res (ow := false) ok)) hp fz
def fTupR2 (fa fb : FE) : FE := fun Γ => (fa Γ).bind fun p => (fb p.2).bind fun p2 => (intT p.1).bind fun i => (intT p2.1).bind fun j => (rgB i j).map fun l => (.md (.dat (.tuple l)), p2.2)
def fListR2 (ow : Bool) (fa fb : FE) : FE := fun Γ => (fa Γ).bind fun p => (fb p.2).bind fun p2 => (intT p.1).bind fun i => (intT p2.1).bind fun j => (rgB i j).map fun l => ((Res.new l).fin ow, p2.2)
section
variable {a b : Expr} {p pr pc : Pos} {fa fb : FE}
theorem fx_tupR2 (hc : X.calm = true) (ml : X.mg "tuple" = none) (mr : X.mg "range" = none) (ha : FX X np a fa) (hb : FX X np b fb) (gl : Gl X "tuple" := by rfl) (gr : Gl X "range" := by rfl)
    (n0 : starEach [a, b] X.env = (false, eval a X.env) :: starEach [b] X.env := by rfl) (n1 : starEach [b] X.env = (false, eval b X.env) :: starEach [] X.env := by rfl) (hp : (backTo pc (starEach [b] X.env)).any (·.1) = false := by rfl) (n2 : starEach [.Call (.Name "range" pr) [a, b] [] pc] X.env = (false, eval (.Call (.Name "range" pr) [a, b] [] pc) X.env) :: starEach [] X.env := by rfl) :
    FX X np (.Call (.Name "tuple" p) [.Call (.Name "range" pr) [a, b] [] pc] [] pos) (fTupR2 fa fb) := by
  refine PE.weak (pe_tupRg hc gl ml (prg_2 gr mr ha hb n0 n1 hp) n2) fun σ H Q h => ?_
  obtain ⟨W, Γ, vs, ts, t, Γ', c, e, q⟩ := h
  obtain ⟨⟨t1, Γ1⟩, e1, e⟩ := Option.bind_eq_some_iff.mp e
  obtain ⟨⟨t2, Γ2⟩, e2, e⟩ := Option.bind_eq_some_iff.mp e
  obtain ⟨i, e3, e⟩ := Option.bind_eq_some_iff.mp e
  obtain ⟨j, e4, e5⟩ := Option.bind_eq_some_iff.mp e
  have h1 : t1 = .md (.dat (.int i)) := intT_to e3
  have h2 : t2 = .md (.dat (.int j)) := intT_to e4
  subst h1 h2
  obtain ⟨l, e6, e7⟩ := Option.map_eq_some_iff.mp e5
  cases e7
  obtain ⟨hn, el⟩ := rgB_to e6
  subst el
  refine ⟨W, Γ, vs, ts, _, Γ1, c, e1, fun x H1 c1 => ⟨W, Γ1, _, _, _, Γ2, c1, e2, fun y H2 c2 => ?_⟩⟩
  obtain ⟨O, c2⟩ := c2
  have r : Fz X.K O H2 (.int j) y := c2.top
  have r' : Fz X.K O H2 (.int i) x := c2.pop.top
  cases r
  cases r'
  exact ⟨i, j, rfl, rfl, rg2Ok_to hn, fun p hp => okt c2.dom (fun v H' ok => q v H' (c2.pop.pop.res (ow := false) ok)) hp (rangeV i j)⟩
theorem fx_listR2 {ow : Bool} (hc : X.calm = true) (ml : X.mg "list" = none) (mr : X.mg "range" = none) (ha : FX X np a fa) (hb : FX X np b fb) (gl : Gl X "list" := by rfl) (gr : Gl X "range" := by rfl)
    (n0 : starEach [a, b] X.env = (false, eval a X.env) :: starEach [b] X.env := by rfl) (n1 : starEach [b] X.env = (false, eval b X.env) :: starEach [] X.env := by rfl) (hp : (backTo pc (starEach [b] X.env)).any (·.1) = false := by rfl) (n2 : starEach [.Call (.Name "range" pr) [a, b] [] pc] X.env = (false, eval (.Call (.Name "range" pr) [a, b] [] pc) X.env) :: starEach [] X.env := by rfl) :
    FX X np (.Call (.Name "list" p) [.Call (.Name "range" pr) [a, b] [] pc] [] pos) (fListR2 ow fa fb) := by
  refine PE.weak (pe_listRg hc gl ml (prg_2 gr mr ha hb n0 n1 hp) n2) fun σ H Q h => ?_
  obtain ⟨W, Γ, vs, ts, t, Γ', c, e, q⟩ := h
  obtain ⟨⟨t1, Γ1⟩, e1, e⟩ := Option.bind_eq_some_iff.mp e
  obtain ⟨⟨t2, Γ2⟩, e2, e⟩ := Option.bind_eq_some_iff.mp e
  obtain ⟨i, e3, e⟩ := Option.bind_eq_some_iff.mp e
  obtain ⟨j, e4, e5⟩ := Option.bind_eq_some_iff.mp e
  have h1 : t1 = .md (.dat (.int i)) := intT_to e3
  have h2 : t2 = .md (.dat (.int j)) := intT_to e4
  subst h1 h2
  obtain ⟨l, e6, e7⟩ := Option.map_eq_some_iff.mp e5
  cases e7
  obtain ⟨hn, el⟩ := rgB_to e6
  subst el
  refine ⟨W, Γ, vs, ts, _, Γ1, c, e1, fun x H1 c1 => ⟨W, Γ1, _, _, _, Γ2, c1, e2, fun y H2 c2 => ?_⟩⟩
  obtain ⟨O, c2⟩ := c2
  have r : Fz X.K O H2 (.int j) y := c2.top
  have r' : Fz X.K O H2 (.int i) x := c2.pop.top
  cases r
  cases r'
  exact ⟨i, j, rfl, rfl, rg2Ok_to hn, fun p hp => okn (fun v H' ok => q v H' (c2.pop.pop.res ok)) hp (rangeV i j)⟩
end

/-! ### zip that is walked -/
def fZip (fs : FA) : FI := fun Γ => (fs Γ).bind fun p => match p.1 with
  | [.md (.dat (.list as)), .md (.dat (.list bs))] => some (zipD as bs, p.2)
  | [.md (.dat (.tuple as)), .md (.dat (.tuple bs))] => some (zipD as bs, p.2)
  | _ => none
theorem fi_zip {e e2 : Expr} {fs : FA} {p tpos : Pos} {elts : List Expr} {kk : Nat} (hm : X.mg "zip" = none) (ha : FAX X np [e, e2] fs) (hg : Gl X "zip" := by rfl) (hs : starEach [e, e2] X.env = (false, eval e X.env) :: starEach [e2] X.env := by rfl) (hpl : (backTo pos (starEach [e2] X.env)).any (·.1) = false := by rfl) :
    FIX X np (.Tuple elts kk tpos) (.Call (.Name "zip" p) [e, e2] [] pos) (fZip fs) := by
  refine PI.weak (RZ.pi_zipA hg hm ha hs hpl) fun σ H R h => ?_
  obtain ⟨W, Γ, vs, ts, items, Γ', c, e, q⟩ := h
  obtain ⟨⟨us, Γ1⟩, e1, e⟩ := Option.bind_eq_some_iff.mp e
  refine ⟨W, Γ, vs, ts, us, Γ1, c, e1, fun xs H1 c1 el => ?_⟩
  obtain ⟨O, c1⟩ := c1
  dsimp only at e
  split at e
  · cases e
    match xs, el with
    | [x, y], _ =>
      have cc : Cf X.K np W O σ H1 Γ' (y :: x :: vs) (.md (.dat (.list _)) :: .md (.dat (.list _)) :: ts) := c1
      have r1 : Fz X.K O H1 _ y := cc.top
      have r2 : Fz X.K O H1 _ x := cc.pop.top
      obtain ⟨a, us, rfl, ha, fa, _⟩ := r2.sqL
      obtain ⟨b, ws, rfl, hb, fb, _⟩ := r1.sqL
      exact ⟨a, b, us, ws, rfl, .inl ⟨.of ha, .of hb, q _ _ _ cc.pop.pop (itf_zip r2 r1)⟩⟩
  · cases e
    match xs, el with
    | [x, y], _ =>
      have cc : Cf X.K np W O σ H1 Γ' (y :: x :: vs) (.md (.dat (.tuple _)) :: .md (.dat (.tuple _)) :: ts) := c1
      have r1 : Fz X.K O H1 _ y := cc.top
      have r2 : Fz X.K O H1 _ x := cc.pop.top
      obtain ⟨a, us, rfl, ha, fa⟩ := r2.sqT
      obtain ⟨b, ws, rfl, hb, fb⟩ := r1.sqT
      exact ⟨a, b, us, ws, rfl, .inr ⟨ha, hb, q _ _ _ cc.pop.pop (itf_zipT r2 r1)⟩⟩
  · cases e
end
end Fx

end

/-! Fx17: dicts with whole numbers and texts as keys; sorted(set(x)) -/
noncomputable section
namespace Fx
open PySem PySem.Spec PyProof.Rows L2

def kD : Key → PyData
  | .inl i => .int i
  | .inr x => .str x
def kOf : PyData → Option Key
  | .int i => some (.inl i)
  | .str x => some (.inr x)
  | _ => none
theorem kOf_kD (k : Key) : kOf (kD k) = some k := by cases k <;> rfl
theorem kOf_to {d : PyData} {k : Key} (h : kOf d = some k) : d = kD k := by
  unfold kOf at h
  split at h
  · cases h; rfl
  · cases h; rfl
  · cases h
def valD (kvs : List (Key × PyData)) (k : Key) : Option PyData := (kvs.find? fun p => decide (p.1 = k)).map (·.2)
def putD (kvs : List (Key × PyData)) (k : Key) (d : PyData) : List (Key × PyData) := if (kvs.any fun p => decide (p.1 = k)) = true then kvs.map (fun p => if p.1 = k then (p.1, d) else p) else kvs ++ [(k, d)]
def pairsD (kvs : List (Key × PyData)) : List (PyData × PyData) := kvs.map fun p => (kD p.1, p.2)
def keysD : List (PyData × PyData) → Option (List (Key × PyData))
  | [] => some []
  | p :: r => (kOf p.1).bind fun k => (keysD r).map fun l => (k, p.2) :: l
theorem keysD_pairs (kvs : List (Key × PyData)) : keysD (pairsD kvs) = some kvs := by
  induction kvs with
  | nil => rfl
  | cons p r ih =>
    show (kOf (kD p.1)).bind (fun k => (keysD (pairsD r)).map fun l => (k, p.2) :: l) = _
    rw [kOf_kD, ih]
    rfl
section
variable {K : PySem.W.Frag} {O : Own} {H : Hp} {kvs : List (Key × PyData)} {ws : List (Key × V)}
theorem kD_fz {k : Key} {v : V} (h : Fz K O H (kD k) v) : v = kV k := by
  cases k with
  | inl i => cases h; rfl
  | inr x => cases h; rfl
theorem fz_kD (k : Key) : Fz K O H (kD k) (kV k) := by
  cases k with
  | inl i => exact .int i
  | inr x => exact .str x
theorem kV_inj {a b : Key} (h : kV a = kV b) : a = b := by
  cases a <;> cases b <;> cases h <;> rfl
theorem PDict.val (h : PDict K O H kvs ws) (k : Key) : (∀ d, valD kvs k = some d → ∃ v, valV ws k = some v ∧ Fz K O H d v) ∧ (valD kvs k = none → valV ws k = none) := by
  unfold PDict at h
  induction h with
  | nil => exact ⟨fun d e => (by cases e), fun _ => rfl⟩
  | @cons p q l m r t ih =>
    by_cases e : p.1 = k
    · have e' : q.1 = k := r.1.symm.trans e
      have a1 : valD (p :: l) k = some p.2 := by simp [valD, e]
      rw [a1, valV_pos e']
      exact ⟨fun d h => (by cases h; exact ⟨_, rfl, r.2⟩), fun h => (by cases h)⟩
    · have e' : ¬ q.1 = k := fun z => e (r.1.trans z)
      have a1 : valD (p :: l) k = valD l k := by simp [valD, e]
      rw [a1, valV_neg e']
      exact ih
theorem PDict.any (h : PDict K O H kvs ws) (k : Key) : (kvs.any fun p => decide (p.1 = k)) = (ws.any fun p => decide (p.1 = k)) := by
  unfold PDict at h
  induction h with
  | nil => rfl
  | @cons p q l m r t ih => rw [List.any_cons, List.any_cons, ih, r.1]
theorem PDict.put (h : PDict K O H kvs ws) (k : Key) {d : PyData} {v : V} (r : Fz K O H d v) : PDict K O H (putD kvs k d) (putK ws k v) := by
  unfold putD putK
  rw [h.any k]
  split
  · unfold PDict at h ⊢
    rename_i hh
    clear hh
    induction h with
    | nil => exact .nil
    | @cons p q l m r0 t ih =>
      rw [List.map_cons, List.map_cons]
      refine .cons ?_ ih
      by_cases e : p.1 = k
      · rw [if_pos e, if_pos (r0.1.symm.trans e)]
        exact ⟨r0.1, r⟩
      · rw [if_neg e, if_neg fun z => e (r0.1.trans z)]
        exact r0
  · unfold PDict at h ⊢
    exact Paired.snoc h ⟨rfl, r⟩
theorem PDict.frz (h : PDict K O H kvs ws) : FzD K O H (pairsD kvs) ws := by
  unfold PDict at h
  induction h with
  | nil => exact .nil
  | @cons p q l m r t ih =>
    show FzD K O H ((kD p.1, p.2) :: pairsD l) _
    obtain ⟨q1, q2⟩ := q
    obtain ⟨rfl, r2⟩ := r
    exact .cons (fz_kD _) r2 ih
theorem pdict_of : ∀ {ds : List (PyData × PyData)} {ws : List (Key × V)} {kvs : List (Key × PyData)}, FzD K O H ds ws → keysD ds = some kvs → PDict K O H kvs ws
  | [], _, _, h, e => by
    cases h
    cases e
    exact .nil
  | p :: r, _, _, h, e => by
    obtain ⟨e0, d0⟩ := p
    obtain ⟨k, e1, e⟩ := Option.bind_eq_some_iff.mp e
    obtain ⟨l, e2, e⟩ := Option.map_eq_some_iff.mp e
    cases e
    have e1' := kOf_to e1
    dsimp only at e1'
    subst e1'
    cases h with
    | cons h1 h2 h3 => exact .cons ⟨(kV_inj (kD_fz h1)).symm, h2⟩ (pdict_of h3 e2)
theorem PDict.length (h : PDict K O H kvs ws) : kvs.length = ws.length := Paired.len2 h
theorem PDict.keys (h : PDict K O H kvs ws) : ws.map (·.1) = kvs.map (·.1) := by
  unfold PDict at h
  induction h with
  | nil => rfl
  | @cons p q l m r t ih => rw [List.map_cons, List.map_cons, ih, r.1]
end
/-- what a value holds as a dict -/
def dkM : MD → Option (List (Key × PyData))
  | .dcK kvs => some kvs
  | .dat (.dict ds) => keysD ds
  | _ => none
def dkT (Γ : Gm) : TV → Option (List (Key × PyData))
  | .md m => dkM m
  | .al i => match Γ[i]? with
    | some (some m) => dkM m
    | _ => none
section
variable {K : PySem.W.Frag} {np : Nat} {W : Wd} {O O' : Own} {σ σ' : L2.St} {H H' : Hp} {Γ Γ' : Gm} {vs : List V} {ts : List TV}
theorem dkM_at {t : Tag} {m : MD} {v : V} {kvs : List (Key × PyData)} (r : MR K O H t m v) (e : dkM m = some kvs) : ∃ a ws, v = .ref a ∧ Rd H a (.dK ws) ∧ PDict K O H kvs ws := by
  cases m with
  | dcK l =>
    cases e
    obtain ⟨a, ws, rfl, _, h1, h2⟩ := r
    exact ⟨a, ws, rfl, .inl h1, h2⟩
  | dat d =>
    cases d with
    | dict ds =>
      have r' : Fz K O H (.dict ds) v := r
      cases r' with
      | dct hr n fd => exact ⟨_, _, rfl, .inr ⟨_, hr⟩, pdict_of fd e⟩
    | _ => cases e
  | _ => cases e
theorem Cf.dkAt (c : Cf K np W O σ H Γ vs ts) {t : TV} {g : Tag} {v : V} {kvs : List (Key × PyData)} (r : TR K O H σ Γ g t v) (e : dkT Γ t = some kvs) : ∃ a ws, v = .ref a ∧ Rd H a (.dK ws) ∧ PDict K O H kvs ws := by
  cases t with
  | md m => exact dkM_at r e
  | al i =>
    obtain ⟨e1, m, e2, _⟩ := r
    obtain ⟨v', e3, r'⟩ := c.sl i m e2
    rw [e1] at e3
    cases e3
    simp only [dkT, e2] at e
    exact dkM_at r' e
end
section
variable {X : Cx} {np : Nat} {pos pos' apos : Pos} {o i x : Expr} {fo fi fx : FE}
/-- {} -/
def fDNewK : FE := fun Γ => some (.md (.dcK []), Γ)
theorem fx_dnewK : FX X np (.Dict [] [] pos) fDNewK := by
  refine PE.weak pe_dnewK fun σ H Q h => ?_
  obtain ⟨W, Γ, vs, ts, t, Γ', ⟨O, c⟩, e, q⟩ := h
  cases e
  intro p hp
  have n := Ev.newOwn (o := .dK []) (t := .tmp ts.length) (by simp) c.dom hp
  exact q _ _ ⟨_, (c.ev0 n).push ⟨p, [], rfl, put_same, upd_same, .nil⟩⟩
/-- d[k] -/
def fDGet (fo fi : FE) : FE := fun Γ => (fo Γ).bind fun p => (fi p.2).bind fun p2 => (dkT p2.2 p.1).bind fun kvs => (frz p2.1).bind fun kd => (kOf kd).bind fun k => (valD kvs k).map fun d => (.md (.dat d), p2.2)
theorem fx_dget (hu : X.A.units + 1 < cLine) (ho : FX X np o fo) (hi : FX X np i fi) (hs : NoSl i := by intro _ _; rfl) : FX X np (.Subscript o i pos) (fDGet fo fi) := by
  refine PE.weak (pe_dget hu ho hi hs) fun σ H Q h => ?_
  obtain ⟨W, Γ, vs, ts, t, Γ', c, e, q⟩ := h
  obtain ⟨⟨t1, Γ1⟩, e1, e⟩ := Option.bind_eq_some_iff.mp e
  obtain ⟨⟨t2, Γ2⟩, e2, e⟩ := Option.bind_eq_some_iff.mp e
  obtain ⟨kvs, e3, e⟩ := Option.bind_eq_some_iff.mp e
  obtain ⟨kd, e4, e⟩ := Option.bind_eq_some_iff.mp e
  obtain ⟨k, e5, e⟩ := Option.bind_eq_some_iff.mp e
  obtain ⟨d, e6, e⟩ := Option.map_eq_some_iff.mp e
  cases e
  refine ⟨W, Γ, vs, ts, t1, Γ1, c, e1, fun x H1 c1 => ⟨W, Γ1, _, _, t2, Γ2, c1, e2, fun y H2 c2 => ?_⟩⟩
  obtain ⟨O, c2⟩ := c2
  have h2 : t2 = .md (.dat kd) := frz_to e4
  subst h2
  have h3 := kOf_to e5
  subst h3
  obtain ⟨a, ws, rfl, ha, pd⟩ := c2.dkAt c2.pop.top e3
  obtain ⟨v, ev, rv⟩ := (pd.val k).1 d e6
  exact ⟨a, v, rfl, .inl ⟨ws, k, ha, kD_fz c2.top, ev.symm⟩, q v H2 ⟨O, c2.pop.pop.push (t := .md (.dat d)) rv⟩⟩
/-- k in d, k not in d -/
def fDIn (neg : Bool) (fi fo : FE) : FE := fun Γ => (fi Γ).bind fun p => (fo p.2).bind fun p2 => (dkT p2.2 p2.1).bind fun kvs => (frz p.1).bind fun kd => (kOf kd).map fun k => (.md (.dat (.bool ((valD kvs k).isSome != neg))), p2.2)
theorem din_read {neg : Bool} {σ : L2.St} {H : Hp} {Q : VK} (h : up X.K np (fDIn neg fi fo) σ H Q) : up X.K np fi σ H fun y H1 => up X.K np fo σ H1 fun x H2 => ∃ a o, x = .ref a ∧ DGet H2 a y o ∧ Q (.bl (o.isSome != neg)) H2 := by
  obtain ⟨W, Γ, vs, ts, t, Γ', c, e, q⟩ := h
  obtain ⟨⟨t1, Γ1⟩, e1, e⟩ := Option.bind_eq_some_iff.mp e
  obtain ⟨⟨t2, Γ2⟩, e2, e⟩ := Option.bind_eq_some_iff.mp e
  obtain ⟨kvs, e3, e⟩ := Option.bind_eq_some_iff.mp e
  obtain ⟨kd, e4, e⟩ := Option.bind_eq_some_iff.mp e
  obtain ⟨k, e5, e⟩ := Option.map_eq_some_iff.mp e
  cases e
  refine ⟨W, Γ, vs, ts, t1, Γ1, c, e1, fun y H1 c1 => ⟨W, Γ1, _, _, t2, Γ2, c1, e2, fun x H2 c2 => ?_⟩⟩
  obtain ⟨O, c2⟩ := c2
  have h2 : t1 = .md (.dat kd) := frz_to e4
  subst h2
  have h3 := kOf_to e5
  subst h3
  obtain ⟨a, ws, rfl, ha, pd⟩ := c2.dkAt c2.top e3
  have es : (valV ws k).isSome = (valD kvs k).isSome := by
    cases z : valD kvs k with
    | none => rw [(pd.val k).2 z]; rfl
    | some d => obtain ⟨v, ev, _⟩ := (pd.val k).1 d z; rw [ev]; rfl
  refine ⟨a, valV ws k, rfl, .inl ⟨ws, k, ha, kD_fz c2.pop.top, rfl⟩, ?_⟩
  rw [es]
  exact q _ H2 ⟨O, c2.pop.pop.push (t := .md (.dat (.bool ((valD kvs k).isSome != neg)))) (.bl _)⟩
theorem fx_din (hu : X.A.units + 1 < cLine) (hi : FX X np i fi) (ho : FX X np o fo) (hm : behindInMarks .In o = false := by rfl) : FX X np (.Compare i [.In] [o] pos) (fDIn false fi fo) :=
  PE.weak (pe_cmp (pc_din hu hi ho) hm) fun _ _ _ h => by
    have := din_read (neg := false) h
    simp only [Bool.bne_false] at this
    exact this
theorem ft_din (hu : X.A.units + 1 < cLine) (hi : FX X np i fi) (ho : FX X np o fo) (hm : behindInMarks .In o = false := by rfl) : FTX X np (.Compare i [.In] [o] pos) (fT (fDIn false fi fo)) :=
  PT.weak (pt_cmp (pc_din hu hi ho) hm) fun _ _ _ h => by
    have := din_read (neg := false) (np := np) (asTest h)
    simp only [Bool.bne_false] at this
    exact this
theorem fx_dnotin (hu : X.A.units + 1 < cLine) (hi : FX X np i fi) (ho : FX X np o fo) (hm : behindInMarks .NotIn o = false := by rfl) : FX X np (.Compare i [.NotIn] [o] pos) (fDIn true fi fo) :=
  PE.weak (pe_cmp (pc_dnotin hu hi ho) hm) fun _ _ _ h => by
    have := din_read (neg := true) h
    simp only [Bool.bne_true] at this
    exact this
theorem ft_dnotin (hu : X.A.units + 1 < cLine) (hi : FX X np i fi) (ho : FX X np o fo) (hm : behindInMarks .NotIn o = false := by rfl) : FTX X np (.Compare i [.NotIn] [o] pos) (fT (fDIn true fi fo)) :=
  PT.weak (pt_cmp (pc_dnotin hu hi ho) hm) fun _ _ _ h => by
    have := din_read (neg := true) (np := np) (asTest h)
    simp only [Bool.bne_true] at this
    exact this
/-- d.get(k, x) -/
def fDGet2 (fo fi fx : FE) : FE := fun Γ => (fo Γ).bind fun p => (dkT p.2 p.1).bind fun _ => (fi p.2).bind fun p2 => (fx p2.2).bind fun p3 => (dkT p3.2 p.1).bind fun kvs => (frz p2.1).bind fun kd => (frz p3.1).bind fun xd => (kOf kd).map fun k => (.md (.dat ((valD kvs k).getD xd)), p3.2)
theorem fx_dget2 (hu : X.A.units + 1 < cLine) (ho : FX X np o fo) (hi : FX X np i fi) (hx : FX X np x fx) (m : M2 X o "get" apos i x pos := by exact ⟨rfl, rfl, rfl, rfl⟩) : FX X np (.Call (.Attribute o "get" apos) [i, x] [] pos) (fDGet2 fo fi fx) := by
  refine PE.weak (pe_dget2 hu ho hi hx m) fun σ H Q h => ?_
  obtain ⟨W, Γ, vs, ts, t, Γ', c, e, q⟩ := h
  obtain ⟨⟨t1, Γ1⟩, e1, e⟩ := Option.bind_eq_some_iff.mp e
  obtain ⟨kvs0, e0, e⟩ := Option.bind_eq_some_iff.mp e
  obtain ⟨⟨t2, Γ2⟩, e2, e⟩ := Option.bind_eq_some_iff.mp e
  obtain ⟨⟨t3, Γ3⟩, e3, e⟩ := Option.bind_eq_some_iff.mp e
  obtain ⟨kvs, e4, e⟩ := Option.bind_eq_some_iff.mp e
  obtain ⟨kd, e5, e⟩ := Option.bind_eq_some_iff.mp e
  obtain ⟨xd, e6, e⟩ := Option.bind_eq_some_iff.mp e
  obtain ⟨k, e7, e⟩ := Option.map_eq_some_iff.mp e
  cases e
  have h2 : t2 = .md (.dat kd) := frz_to e5
  have h3 : t3 = .md (.dat xd) := frz_to e6
  subst h2 h3
  have h4 := kOf_to e7
  subst h4
  refine ⟨W, Γ, vs, ts, t1, Γ1, c, e1, fun z H1 c1 => ?_⟩
  obtain ⟨O1, c1⟩ := c1
  obtain ⟨a, ws, rfl, ha, pd⟩ := c1.dkAt c1.top e0
  refine ⟨a, rfl, .inl ⟨ws, ha⟩, W, Γ1, _, _, _, Γ2, ⟨O1, c1⟩, e2, fun y H2 c2 => ⟨W, Γ2, _, _, _, Γ3, c2, e3, fun w H3 c3 => ?_⟩⟩
  obtain ⟨O, c3⟩ := c3
  obtain ⟨a', ws', ea, ha', pd'⟩ := c3.dkAt c3.pop.pop.top e4
  cases ea
  refine ⟨valV ws' k, .inl ⟨ws', k, ha', kD_fz c3.pop.top, rfl⟩, ?_⟩
  cases z : valD kvs k with
  | none =>
    rw [(pd'.val k).2 z]
    exact q _ H3 ⟨O, by rw [z]; exact c3.pop.pop.pop.push (t := .md (.dat xd)) c3.top⟩
  | some d =>
    obtain ⟨v, ev, rv⟩ := (pd'.val k).1 d z
    rw [ev]
    exact q _ H3 ⟨O, by rw [z]; exact c3.pop.pop.pop.push (t := .md (.dat d)) rv⟩
def dcS (Γ : Gm) (i : Nat) : Option (List (Key × PyData)) := match Γ[i]? with
  | some (some (.dcK kvs)) => some kvs
  | _ => none
theorem dcS_to {Γ : Gm} {i : Nat} {kvs : List (Key × PyData)} (e : dcS Γ i = some kvs) : Γ[i]? = some (some (.dcK kvs)) := by
  unfold dcS at e
  split at e
  · rename_i h
    cases e
    exact h
  · cases e
/-- d[k] = x, d a slot's own -/
def fDPut (j : Nat) (fx fi : FE) : FS := fun Γ => (fx Γ).bind fun p => (dcS p.2 j).bind fun _ => (fi p.2).bind fun p2 => (frz p.1).bind fun xd => (frz p2.1).bind fun kd => (kOf kd).bind fun k => (dcS p2.2 j).bind fun kvs => if kvs.length < sizeLine then some (.nx (p2.2.set j (some (.dcK (putD kvs k xd))))) else none
theorem fs_dput (j : Nat) {n : Str} {px : Pos} (hu : X.A.units + 1 < cLine) (hx : FX X np x fx) (hi : FX X np i fi) (hN : X.N[j]? = some n := by rfl) (hv : Vis X.env.scope n := by first | exact Or.inl rfl | exact Or.inr (Or.inl rfl) | exact Or.inr (Or.inr rfl)) (hd : (n == ("__debug__" : Str)) = false := by decide) (hcd : (n == ("__classdict__" : Str)) = false := by decide)
    (hs : swapsWith x (some (.Subscript (.Name n px) i pos')) pos.line X.env = pure false := by rfl) : FSX X np (.Assign [.Subscript (.Name n px) i pos'] x pos) (fDPut j fx fi) := by
  refine PS.weak (ps_dput hu (pe_var hN hv hd hcd) hi hx hs) fun D σ H h => ?_
  obtain ⟨W, Γ, vs, ds, o, c, e, q⟩ := h
  obtain ⟨⟨t1, Γ1⟩, e1, e⟩ := Option.bind_eq_some_iff.mp e
  obtain ⟨kvs0, e0, e⟩ := Option.bind_eq_some_iff.mp e
  obtain ⟨⟨t2, Γ2⟩, e2, e⟩ := Option.bind_eq_some_iff.mp e
  obtain ⟨xd, e3, e⟩ := Option.bind_eq_some_iff.mp e
  obtain ⟨kd, e4, e⟩ := Option.bind_eq_some_iff.mp e
  obtain ⟨k, e5, e⟩ := Option.bind_eq_some_iff.mp e
  obtain ⟨kvs, e6, e7⟩ := Option.bind_eq_some_iff.mp e
  have h1 : t1 = .md (.dat xd) := frz_to e3
  have h2 : t2 = .md (.dat kd) := frz_to e4
  subst h1 h2
  have h4 := kOf_to e5
  subst h4
  split at e7
  · rename_i hl
    cases e7
    refine ⟨W, Γ, vs, tsd ds, _, Γ1, c, e1, fun y H1 c1 => ?_⟩
    obtain ⟨O1, c1⟩ := c1
    obtain ⟨v0, hv0, a, _, rfl, _, _, _⟩ := c1.sl j _ (dcS_to e0)
    refine ⟨.ref a, hv0, W, Γ1, y :: vs, _ :: tsd ds, _, Γ2, ⟨O1, c1⟩, e2, fun z H2 c2 => ?_⟩
    obtain ⟨O2, c2⟩ := c2
    obtain ⟨v, ev, a', ws, rfl, oa, ha, pd⟩ := c2.sl j _ (dcS_to e6)
    rw [hv0] at ev
    cases ev
    refine ⟨a, _, rfl, .inl ⟨ws, k, ha, kD_fz c2.top, by rw [← pd.length]; exact hl, rfl⟩, ?_⟩
    have w := Ev.write (o := .dK (putK ws k y)) c2.dom oa
    exact q σ _ ⟨O2, c2.pop.pop.mutS (dcS_to e6) rfl w hv0 ⟨a, _, rfl, oa, upd_same, (pd.put k c2.pop.top).kp w.k⟩ rfl⟩
  · cases e7
/-- a dict of a slot that is changed no more (no step of the program) -/
def fFrzD (i : Nat) (g : FS) : FS := fun Γ => (dcS Γ i).bind fun kvs => g (Γ.set i (some (.dat (.dict (pairsD kvs)))))
theorem PSs.lockS {ss : List Stmt} {t : TS} (h : PSs X ss t) : PSs X ss (fun D σ H => t D σ H ∨ ∃ d kvs, H d = some (.dK kvs) ∧ ∀ od, t D σ (upd H d (.frz od (.dK kvs)))) := by
  refine ⟨fun pins s σ H D I hw => ?_⟩
  rcases hw with hw | ⟨d, kvs, hd, hw⟩
  · exact h.run pins s σ H D I hw
  · obtain ⟨od, I1⟩ := I.lock hd True.intro
    exact h.run pins s σ _ D I1 (hw od)
theorem Cf.freezeD {K : PySem.W.Frag} {W : Wd} {O : Own} {σ : L2.St} {H : Hp} {Γ : Gm} {vs : List V} {ds : List PyData} {i : Nat} {kvs : List (Key × PyData)} (c : Cf K np W O σ H Γ vs (tsd ds)) (e : Γ[i]? = some (some (.dcK kvs))) :
    ∃ a ws, H a = some (.dK ws) ∧ ∀ od, Cfg K np W σ (upd H a (.frz od (.dK ws))) (Γ.set i (some (.dat (.dict (pairsD kvs))))) vs (tsd ds) := by
  obtain ⟨v, hv, a, ws, rfl, oa, ha, pd⟩ := c.sl i _ e
  refine ⟨a, ws, ha, fun od => ?_⟩
  have hl : i < Γ.length := (List.getElem?_eq_some_iff.mp e).1
  have ev : Ev (· = .slot i) O H (retag O (.slot i) none) (upd H a (.frz od (.dK ws))) := (Ev.write (o := .frz od (.dK ws)) c.dom oa).trans (Ev.retag (by simp) (Ev.write (o := .frz od (.dK ws)) c.dom oa).dom)
  refine ⟨_, ev.dom, fun j m' e' => ?_, Tm.evD ev.k c.tm, fun b o h n => ?_, fun b hb => c.out b (ev.out b hb), c.wt, fun j m' hj e' ho => ?_, by rw [List.length_set]; exact c.len⟩
  · by_cases ji : i = j
    · subst ji
      rw [List.getElem?_set_self hl] at e'
      cases e'
      exact ⟨_, hv, .dct upd_same (retag_of oa) (pd.kp ev.k).frz⟩
    · rw [List.getElem?_set_ne ji] at e'
      obtain ⟨w, e1, r1⟩ := c.sl j m' e'
      exact ⟨w, e1, r1.ev ev (by simpa using fun z => ji z.symm)⟩
  · obtain ⟨h1, e1⟩ := c.keep b o h n
    obtain ⟨h2, e2⟩ := ev.kp b o h1 fun t q z => by
      subst z
      rw [e1] at q
      exact n i q
    exact ⟨h2, e2.trans e1⟩
  · by_cases ji : i = j
    · subst ji
      rw [List.getElem?_set_self hl] at e'
      cases e'
      cases ho
    · rw [List.getElem?_set_ne ji] at e'
      exact c.arg j m' hj e' ho
theorem fss_frzD (i : Nat) {ss : List Stmt} {g : FS} (h1 : FSsX X np ss g) : FSsX X np ss (fFrzD i g) := by
  refine PSs.weak (PSs.lockS h1) fun D σ H h => ?_
  obtain ⟨W, Γ, vs, ds, o, ⟨O, c⟩, e, q⟩ := h
  obtain ⟨kvs, e1, e⟩ := Option.bind_eq_some_iff.mp e
  obtain ⟨a, ws, ha, cc⟩ := c.freezeD (dcS_to e1)
  exact .inr ⟨a, ws, ha, fun od => ⟨W, _, vs, ds, o, cc od, e, q⟩⟩
/-- for k in d, d changed no more -/
def fKeys (f : FE) : FI := fun Γ => (f Γ).bind fun p => match p.1 with
  | .md (.dat (.dict ds)) => some (ds.map (·.1), p.2)
  | _ => none
theorem fi_keys {tg e : Expr} {f : FE} (he : FX X np e f) : FIX X np tg e (fKeys f) := by
  refine PI.weak (pi_keys he) fun σ H R h => ?_
  obtain ⟨W, Γ, vs, ts, items, Γ', c, e, q⟩ := h
  obtain ⟨⟨t, Γ1⟩, e1, e⟩ := Option.bind_eq_some_iff.mp e
  dsimp only at e
  split at e
  · rename_i ds
    cases e
    refine ⟨W, Γ, vs, ts, _, _, c, e1, fun v H1 c1 => ?_⟩
    obtain ⟨O, c1⟩ := c1
    have r : Fz X.K O H1 (.dict ds) v := c1.top
    cases r with
    | @dct a od kvs _ hr n fd =>
      exact ⟨a, od, rfl, .inl ⟨kvs, hr, q _ _ _ c1.pop (itf_keys hr n fd)⟩⟩
  · cases e
end
end Fx

end

set_option maxHeartbeats 3200000
/-! Fx18: sorted(set(x)), x a list of whole numbers; sorted(d), len(d) -/
noncomputable section
namespace Fx
open PySem PySem.Spec PyProof.Rows L2

/-- each once, where it is met first -/
def dd (ns : List Int) : List Int := ns.foldl (fun acc k => if k ∈ acc then acc else acc ++ [k]) []
theorem dd_snoc (ns : List Int) (k : Int) : dd (ns ++ [k]) = if k ∈ dd ns then dd ns else dd ns ++ [k] := by
  unfold dd
  rw [List.foldl_append]
  rfl
theorem snoc_ind {α : Type} {P : List α → Prop} (h0 : P []) (h1 : ∀ l a, P l → P (l ++ [a])) (l : List α) : P l := by
  have go : ∀ l : List α, P l.reverse := by
    intro l
    induction l with
    | nil => exact h0
    | cons a l ih => rw [List.reverse_cons]; exact h1 _ _ ih
  have := go l.reverse
  rwa [List.reverse_reverse] at this
theorem dd_nodup_mem (ns : List Int) : (dd ns).Nodup ∧ (∀ k, k ∈ dd ns ↔ k ∈ ns) := by
  refine snoc_ind (P := fun ns => (dd ns).Nodup ∧ (∀ k, k ∈ dd ns ↔ k ∈ ns)) ⟨List.nodup_nil, fun k => Iff.rfl⟩ (fun ns k ih => ?_) ns
  obtain ⟨h1, h2⟩ := ih
  rw [dd_snoc]
  split
  · rename_i hk
    refine ⟨h1, fun j => ?_⟩
    rw [h2, List.mem_append, List.mem_singleton]
    exact ⟨.inl, fun h => h.elim id fun e => e ▸ (h2 k).mp hk⟩
  · rename_i hk
    refine ⟨List.nodup_append.mpr ⟨h1, List.nodup_cons.mpr ⟨by simp, List.nodup_nil⟩, fun a ha b hb => by rw [List.mem_singleton.mp hb]; exact fun z => hk (z ▸ ha)⟩, fun j => ?_⟩
    rw [List.mem_append, List.mem_append, h2]
/-- the members in order -/
def srtS (ns : List Int) : List Int := srtI (dd ns)
theorem srtS_of {ns ys : List Int} (h1 : ys.Pairwise (· < ·)) (h2 : ∀ k, k ∈ ys ↔ k ∈ ns) : ys = srtS ns := by
  obtain ⟨d1, d2⟩ := dd_nodup_mem ns
  have nd : ys.Nodup := List.Pairwise.imp (fun {a b} (h : a < b) => Int.ne_of_lt h) h1
  have pm : ys.Perm (dd ns) := (List.perm_ext_iff_of_nodup nd d1).mpr fun k => (h2 k).trans (d2 k).symm
  exact up_unique (pm.trans (srtI_perm _).symm) (List.Pairwise.imp (fun {a b} (h : a < b) => Int.le_of_lt h) h1) (srtI_up _)
section
variable {P : Program} {w : World} {A : Around} {E : Value → Shared → Prop} {s : Shared}
abbrev newSet (w : World) : Obj := { cls := .type "set", dict := none, data := .set #[] 0 (.fresh 0 0 (!w.params.followText "set-order")) }
/-- set(a list of whole numbers) -/
theorem call_setI {l : Addr} {items : Array Value} {ns : List Int} {Q : Value → Shared → Prop} (hh : A.handled = none) (hl : s.heap.IsList l items) (hi : Vals (ns.map V.int) items.toList) (hb : ns.length + 1 < scanBound)
    (q : ∀ (g : Heap) (tk c : Nat), SetR w g s.heap.objs.size (fun k => decide (k ∈ ns)) c → c ≤ ns.length → (∀ b o, s.heap.get? b = some o → g.get? b = some o) → Q (.ref s.heap.objs.size) { s with heap := g, toks := tk }) :
    wpAny (model P w) A (call (.type "set") [.ref l]) Q E s := by
  have sz : items.size = ns.length := by
    have := hi.length
    rw [List.length_map, Array.length_toList] at this
    exact this.symm
  obtain ⟨c, tl, hmro⟩ := F.called_set.mro
  have hmade := F.called_set.made
  have hsub := F.called_set.sub
  refine wpAny_call (codeAny_of_tree ?_)
  show wpAny _ _ (callAny (.type "set") _) _ _ _
  refine wpAny_pure ⟨Code.quiet_builtin _ (by decide +kernel), codeAny_builtin F.entry_type_call ?_⟩
  rw [Around.under_plain (weight_type_call_type "set" [.ref l] []) rfl]
  have n1 := F.called_set.notType
  have n2 := F.called_set.canCreate
  have n3 := F.typeCall_set_1 (.ref l)
  repeat (any_goals (first | assumption | wp_step))
  refine codeAny_mono (L2.code_set_led1 (.ref l) (E := E) (Q₁ := fun ob t => ob = .ref s.heap.objs.size ∧ t = { s with heap := s.heap.push (newSet w) }) ⟨rfl, rfl⟩) fun r t hr => ?_
  cases r with
  | error e => exact hr
  | ok fl =>
    cases fl with
    | ret ob =>
      obtain ⟨e1, e2⟩ := hr
      subst e1 e2
      have at0 : (s.heap.push (newSet w)).get? s.heap.objs.size = some (newSet w) := Heap.get?_push_size _ rfl
      have ty0 : Shared.TypeIs { s with heap := s.heap.push (newSet w) } (.ref s.heap.objs.size) "set" := ⟨_, at0, rfl⟩
      have hli := F.called_set.init.lookup
      have hbi := F.called_set.init.bind (.ref s.heap.objs.size)
      repeat (any_goals (first | assumption | wp_step))
      refine codeAny_mono (codeAny_call_builtin (R := wants (fun r t => r = .none ∧ ∃ g tk c, t = { s with heap := g, toks := tk } ∧ SetR w g s.heap.objs.size (fun k => decide (k ∈ ns)) c ∧ c ≤ ns.length ∧ (∀ b o, s.heap.get? b = some o → g.get? b = some o)) E) F.called_set.init.plain F.entry_set_init (check_set_init_1 ty0 ?_)) fun r2 t2 hr2 => ?_
      · obtain ⟨ol, hol, hcl, nl, hdl⟩ := hl
        obtain ⟨oc, od, odat, osl⟩ := ol
        simp only at hcl hdl
        subst hcl hdl
        have hol1 : (s.heap.push (newSet w)).get? l = some { cls := .type "list", dict := od, data := .seq items nl, slots := osl } := Heap.get?_push_of_some _ hol
        have m1 := F.sub_list_set
        have m2 := F.sub_list_frozenset
        have m3 : (Value.type "list" == Value.type "dict") = false := by decide
        have hl1 : (s.heap.push (newSet w)).IsList l items := ⟨_, hol1, rfl, nl, rfl⟩
        unfold Builtin.«set.__init__» noKeywords Builtin.Frozenset.updateFrom
        generalize hPI : pyIter = PI
        wp_walk
        subst hPI
        refine wpAny_pyIter_list hl1 ?_
        refine wpAny_bind (wpAny_runValue ?_)
        have lS : l < s.heap.objs.size := Heap.lt_size hol
        have h3 : A.in1.in1.in1.handled = none := by simp [hh]
        have z1 : (s.heap.push (newSet w)).objs.size = s.heap.objs.size + 1 := Heap.size_push ..
        have ne : l ≠ (s.heap.push (newSet w)).objs.size := by rw [z1]; exact Nat.ne_of_lt (Nat.lt_succ_of_lt lS)
        have nin : s.heap.objs.size ∉ [(s.heap.push (newSet w)).objs.size, l] := by
          rw [z1]
          simp only [List.mem_cons, List.not_mem_nil, or_false, not_or]
          exact ⟨Nat.ne_of_lt (Nat.lt_succ_self _), Nat.ne_of_gt lS⟩
        have hv : ∀ (i : Nat) (v : Value), items[i]? = some v → ∃ k t, ns[i]? = some k ∧ v = .int k t := fun i v e => by
          have e' : items.toList[i]? = some v := by rw [Array.getElem?_toList]; exact e
          cases z : (ns.map V.int)[i]? with
          | none =>
            have := hi.none_of z
            rw [e'] at this
            cases this
          | some x =>
            obtain ⟨u, eu, ru⟩ := hi.get z
            rw [e'] at eu
            cases eu
            rw [List.getElem?_map] at z
            obtain ⟨k, ek, ekx⟩ := Option.map_eq_some_iff.mp z
            subst ekx
            obtain ⟨t, et⟩ := ru
            exact ⟨k, t, ek, et⟩
        refine L2.set_update_ints ((Walks.list h3 _ l ne items).toS) s.heap.objs.size nin ns sz hb hv (items.size - 0) 0 _ (by omega) (Nat.zero_le _) ⟨⟨_, Heap.get?_push_size _ rfl, rfl, rfl⟩, (hl1.push _)⟩ ⟨0, Nat.le_refl 0, L2.setR_new_at (Heap.get?_push_of_some _ at0)⟩ fun t3 c3 mv hc3 hS3 => ?_
        obtain ⟨g3, gn, dr, tk3, os3⟩ := t3
        have eg : gn = s.gens := mv.gens
        have ed : dr = s.drawn := mv.drawn
        have eo : os3 = s.os := mv.os
        subst eg ed eo
        show wpAny _ _ _ _ _ _
        refine wpAny_pure ?_
        show wpAny _ _ (ret Value.none) _ _ _
        rw [sz] at hc3
        refine wpAny_pure ⟨rfl, g3, tk3, c3, rfl, hS3, hc3, fun b o e => ?_⟩
        have b0 : b < s.heap.objs.size := Heap.lt_size e
        have b2 : b ≠ (s.heap.push (newSet w)).objs.size := by rw [z1]; exact Nat.ne_of_lt (Nat.lt_succ_of_lt b0)
        exact mv.heap b o (by simp only [List.mem_cons, List.mem_singleton, List.not_mem_nil, or_false, not_or]; exact ⟨Nat.ne_of_lt b0, b2⟩) (Heap.get?_push_of_some _ (Heap.get?_push_of_some _ e))
      · cases r2 with
        | error e => exact hr2
        | ok fl2 =>
          cases fl2 with
          | ret r =>
            obtain ⟨e1, g, tk, c3, e2, hS, hc3, hk⟩ := hr2
            subst e1 e2
            repeat (any_goals (first | assumption | wp_step))
            exact q _ _ _ hS hc3 hk
          | _ => exact hr2.elim
    | _ => exact hr.elim
end
section
variable {X : Cx}
def rSetL (K : PySem.W.Frag) (w : World) : List V → Hp → VK → Prop := fun xs H Q => ∃ (a : Addr) (ns : List Int), xs = [V.ref a] ∧ SqL K H a (ns.map V.int) ∧ ns.length + 1 < scanBound ∧
  ∀ p c, c ≤ ns.length → H p = none → Q (.ref p) (upd H p (SetO w p (fun k => decide (k ∈ ns)) c))
theorem cr_setL (hc : X.calm = true) : CallR X (.type "set") (rSetL X.K X.w) := by
  intro pins s σ H xs us Q I r h
  obtain ⟨a, ns, rfl, hl, hb, q⟩ := h
  rw [Vals.ref1 r]
  obtain ⟨its, rv, p', hz⟩ := I.list hl
  refine call_setI (I.ok.hd hc) p'.isList (by simpa using rv) hb fun g tk c hS hc' k => ?_
  exact ⟨.ref _, _, I.laid (t' := tk) k (Nat.le_refl _) (setO_new hS), rfl, q _ c hc' (I.hok.fresh (Nat.le_refl _))⟩
end
end Fx

end

/-! Fx19: sorted of sets and dicts, len of a dict, many names at once, calls with an owned value, try -/
noncomputable section
namespace Fx
open PySem PySem.Spec PyProof.Rows L2

section
variable {X : Cx} {np : Nat} {pos : Pos} {e : Expr} {f : FE}
/-- sorted(set(x)) -/
def fSortSet (ow : Bool) (f : FE) : FE := fun Γ => (f Γ).bind fun p => (dv p.2 p.1).bind fun d => match d with
  | .list ds => (intsOf ds).bind fun ns => if ns.length < 64 then some ((Res.new ((srtS ns).map .int)).fin ow, p.2) else none
  | _ => none
theorem fx_sortSet {ow : Bool} {p p2 pos2 : Pos} (hc : X.calm = true) (ms : X.mg "sorted" = none) (mt : X.mg "set" = none) (he : FX X np e f) (gs : Gl X "sorted" := by rfl) (gt : Gl X "set" := by rfl)
    (n1 : starEach [e] X.env = (false, eval e X.env) :: starEach [] X.env := by rfl) (n2 : starEach [.Call (.Name "set" p2) [e] [] pos2] X.env = (false, eval (.Call (.Name "set" p2) [e] [] pos2) X.env) :: starEach [] X.env := by rfl) :
    FX X np (.Call (.Name "sorted" p) [.Call (.Name "set" p2) [e] [] pos2] [] pos) (fSortSet ow f) := by
  refine PE.weak (pe_callB (cr_sortedSet hc) gs ms (by decide +kernel) (pa_cons (pe_callTy (cr_setL hc) gt mt (by decide +kernel) (pa_cons he pa_nil n1) (by decide) (by decide) n1 rfl) pa_nil n2) (by decide) (by decide) n2 rfl) fun σ H Q h => ?_
  obtain ⟨W, Γ, vs, ts, t, Γ', c, e, q⟩ := h
  obtain ⟨⟨t1, Γ1⟩, e1, e⟩ := Option.bind_eq_some_iff.mp e
  obtain ⟨d, e2, e⟩ := Option.bind_eq_some_iff.mp e
  split at e
  · rename_i ds
    obtain ⟨ns, e3, e⟩ := Option.bind_eq_some_iff.mp e
    split at e
    · rename_i hl
      cases e
      refine ⟨W, Γ, vs, ts, t1, Γ1, c, e1, fun v H1 c1 => ?_⟩
      obtain ⟨O, c1⟩ := c1
      obtain ⟨a, xs, rfl, ha, fa⟩ := c1.view c1.top e2
      rw [intsOf_to e3] at fa
      rw [fa.intsV] at ha
      refine ⟨a, ns, rfl, .of ha, by unfold scanBound; omega, fun s c hcl hs => ?_⟩
      have n := Ev.new (o := SetO X.w s (fun k => decide (k ∈ ns)) c) c1.dom hs
      refine ⟨s, _, c, rfl, upd_same, by omega, fun ys r hy hm _ hr => ?_⟩
      have ey : ys = srtS ns := srtS_of hy fun k => by rw [hm]; exact decide_eq_true_iff
      rw [ey]
      exact okn (fun v H' ok => q v H' ((c1.pop.ev0 n).res ok)) hr (FzA.ints _)
    · cases e
  · cases e
/-- sorted(d), len(d) -/
def intK : List (Key × PyData) → Option (List Int)
  | [] => some []
  | (.inl i, _) :: r => (intK r).map fun l => i :: l
  | _ :: _ => none
theorem intK_to : ∀ {kvs : List (Key × PyData)} {ns : List Int}, intK kvs = some ns → kvs.map (·.1) = ns.map Sum.inl
  | [], ns, e => by cases e; rfl
  | (.inl i, d) :: r, ns, e => by
    obtain ⟨l, e1, e2⟩ := Option.map_eq_some_iff.mp e
    subst e2
    rw [List.map_cons, List.map_cons, intK_to e1]
  | (.inr _, _) :: _, _, e => by cases e
def fSortD (ow : Bool) (f : FE) : FE := fun Γ => (f Γ).bind fun p => (dkT p.2 p.1).bind fun kvs => (intK kvs).bind fun ns => if ns.length < 64 then some ((Res.new ((srtI ns).map .int)).fin ow, p.2) else none
theorem fx_sortD {ow : Bool} {p : Pos} (hc : X.calm = true) (ms : X.mg "sorted" = none) (he : FX X np e f) (gs : Gl X "sorted" := by rfl) (n1 : starEach [e] X.env = (false, eval e X.env) :: starEach [] X.env := by rfl) :
    FX X np (.Call (.Name "sorted" p) [e] [] pos) (fSortD ow f) := by
  refine PE.weak (pe_callB (call_sortedDI hc) gs ms (by decide +kernel) (pa_cons he pa_nil n1) (by decide) (by decide) n1 rfl) fun σ H Q h => ?_
  obtain ⟨W, Γ, vs, ts, t, Γ', c, e, q⟩ := h
  obtain ⟨⟨t1, Γ1⟩, e1, e⟩ := Option.bind_eq_some_iff.mp e
  obtain ⟨kvs, e2, e⟩ := Option.bind_eq_some_iff.mp e
  obtain ⟨ns, e3, e⟩ := Option.bind_eq_some_iff.mp e
  split at e
  · rename_i hl
    cases e
    refine ⟨W, Γ, vs, ts, t1, Γ1, c, e1, fun v H1 c1 => ?_⟩
    obtain ⟨O, c1⟩ := c1
    obtain ⟨a, ws, rfl, ha, pd⟩ := c1.dkAt c1.top e2
    refine ⟨a, ws, ns, rfl, ha, pd.keys.trans (intK_to e3), hl, fun ys r hp hy hr => ?_⟩
    have ey : ys = srtI ns := up_unique (hp.trans (srtI_perm _).symm) hy (srtI_up _)
    rw [ey]
    exact okn (fun v H' ok => q v H' (c1.pop.res ok)) hr (FzA.ints _)
  · cases e
def rLenD : List V → Hp → VK → Prop := fun xs H Q => ∃ a kvs, xs = [V.ref a] ∧ Rd H a (.dK kvs) ∧ Q (.int kvs.length) H
theorem cr_lenD : CallR X (.builtin "len") rLenD := by
  intro pins s σ H xs us Q I r h
  obtain ⟨a, kvs, rfl, ha, q⟩ := h
  rw [Vals.ref1 r]
  exact d_len I ha fun t s' I' => ⟨.int kvs.length, H, I', ⟨t, rfl⟩, q⟩
def fLenD (f : FE) : FE := fun Γ => (f Γ).bind fun p => (dkT p.2 p.1).map fun kvs => (.md (.dat (.int kvs.length)), p.2)
theorem fx_lenD {p : Pos} (ms : X.mg "len" = none) (he : FX X np e f) (gs : Gl X "len" := by rfl) (n1 : starEach [e] X.env = (false, eval e X.env) :: starEach [] X.env := by rfl) :
    FX X np (.Call (.Name "len" p) [e] [] pos) (fLenD f) := by
  refine PE.weak (pe_callB cr_lenD gs ms (by decide +kernel) (pa_cons he pa_nil n1) (by decide) (by decide) n1 rfl) fun σ H Q h => ?_
  obtain ⟨W, Γ, vs, ts, t, Γ', c, e, q⟩ := h
  obtain ⟨⟨t1, Γ1⟩, e1, e⟩ := Option.bind_eq_some_iff.mp e
  obtain ⟨kvs, e2, e⟩ := Option.map_eq_some_iff.mp e
  cases e
  refine ⟨W, Γ, vs, ts, t1, Γ1, c, e1, fun v H1 c1 => ?_⟩
  obtain ⟨O, c1⟩ := c1
  obtain ⟨a, ws, rfl, ha, pd⟩ := c1.dkAt c1.top e2
  refine ⟨a, ws, rfl, ha, ?_⟩
  rw [← pd.length]
  exact q _ _ ⟨O, c1.pop.push (t := .md (.dat (.int kvs.length))) (.int _)⟩

/-! ### many names at once -/
def setAll : List Nat → List V → L2.St → L2.St
  | i :: is, v :: vs, σ => setAll is vs (σ.set i (some v))
  | _, _, σ => σ
theorem setAll_comm {i : Nat} {v : V} : ∀ {is : List Nat} {vs : List V} {σ : L2.St}, i ∉ is → setAll is vs (σ.set i (some v)) = (setAll is vs σ).set i (some v)
  | [], _, _, _ => rfl
  | j :: is, [], _, _ => rfl
  | j :: is, w :: vs, σ, h => by
    have h' : i ≠ j ∧ i ∉ is := by simpa using h
    show setAll is vs ((σ.set i (some v)).set j (some w)) = _
    rw [List.set_comm _ _ h'.1, setAll_comm h'.2]
    rfl
theorem setAll_snoc {i : Nat} {v : V} : ∀ {is : List Nat} {vs : List V} {σ : L2.St}, is.length = vs.length → setAll (is ++ [i]) (vs ++ [v]) σ = (setAll is vs σ).set i (some v)
  | [], [], _, _ => rfl
  | j :: is, w :: vs, σ, h => by
    show setAll (is ++ [i]) (vs ++ [v]) (σ.set j (some w)) = _
    rw [setAll_snoc (by simpa using h)]
    rfl
  | [], _ :: _, _, h => by simp at h
  | _ :: _, [], _, h => by simp at h
theorem setAll_rev : ∀ {is : List Nat} {vs : List V} {σ : L2.St}, is.Nodup → is.length = vs.length → setAll is.reverse vs.reverse σ = setAll is vs σ
  | [], [], _, _, _ => rfl
  | i :: is, v :: vs, σ, nd, h => by
    have nd' := List.nodup_cons.mp nd
    have hl : is.length = vs.length := by simpa using h
    rw [List.reverse_cons, List.reverse_cons, setAll_snoc (by rw [List.length_reverse, List.length_reverse]; exact hl), setAll_rev nd'.2 hl]
    show _ = setAll is vs (σ.set i (some v))
    rw [setAll_comm nd'.1]
  | [], _ :: _, _, _, h => by simp at h
  | _ :: _, [], _, _, h => by simp at h
def putM (np : Nat) : List Nat → List TV → Gm → Option Gm
  | [], [], Γ => some Γ
  | i :: is, .md m :: us, Γ => if m.own = true ∧ i < np then none else putM np is us (Γ.set i (some m))
  | _, _, _ => none
theorem putM_noAl {np : Nat} : ∀ {is : List Nat} {us : List TV} {Γ Γ' : Gm}, putM np is us Γ = some Γ' → noAl us = true ∧ is.length = us.length
  | [], [], _, _, _ => ⟨rfl, rfl⟩
  | i :: is, .md m :: us, Γ, Γ', e => by
    unfold putM at e
    split at e
    · cases e
    · obtain ⟨h1, h2⟩ := putM_noAl e
      exact ⟨h1, by simp [h2]⟩
  | [], _ :: _, _, _, e => by cases e
  | _ :: _, [], _, _, e => by cases e
  | _ :: _, .al _ :: _, _, _, e => by cases e
theorem noAl_append : ∀ {us ts : List TV}, noAl us = true → noAl ts = true → noAl (us ++ ts) = true
  | [], _, _, h => h
  | .md m :: us, _, h, g => noAl_append (us := us) h g
  | .al _ :: _, _, h, _ => by cases h
theorem Cf.storeAll {K : PySem.W.Frag} {W : Wd} {H : Hp} {vs : List V} {ds : List PyData} : ∀ {is : List Nat} {us : List TV} {xs : List V} {O : Own} {σ : L2.St} {Γ Γ' : Gm}, Cf K np W O σ H Γ (xs ++ vs) (us ++ tsd ds) → xs.length = us.length → putM np is us Γ = some Γ' → Cfg K np W (setAll is xs σ) H Γ' vs (tsd ds)
  | [], [], [], O, σ, Γ, Γ', c, _, e => by cases e; exact ⟨O, c⟩
  | i :: is, .md m :: us, x :: xs, O, σ, Γ, Γ', c, hl, e => by
    unfold putM at e
    split at e
    · cases e
    · rename_i hno
      obtain ⟨na, _⟩ := putM_noAl e
      obtain ⟨O2, c2⟩ := (show Cf K np W O σ H Γ (x :: (xs ++ vs)) (.md m :: (us ++ tsd ds)) from c).storeT (noAl_append na (noAl_tsd ds)) hno
      exact Cf.storeAll (is := is) (us := us) (xs := xs) c2 (by simpa using hl) e
  | [], [], _ :: _, _, _, _, _, _, hl, _ => by simp at hl
  | [], _ :: _, _, _, _, _, _, _, _, e => by cases e
  | _ :: _, [], _, _, _, _, _, _, _, e => by cases e
  | _ :: _, .al _ :: _, _, _, _, _, _, _, _, e => by cases e
  | _ :: _, .md _ :: _, [], _, _, _, _, _, hl, _ => by simp at hl
def fMulti (np : Nat) (is : List Nat) (fs : FA) : FS := fun Γ => (fs Γ).bind fun p => (putM np is.reverse p.1.reverse p.2).map .nx
def FMX (X : Cx) (es : List Expr) (is : List Nat) : Prop := PGs X es (fun vs σ H Q => vs.length = is.length ∧ Q (setAll is vs σ) H)
theorem fm_nil : FMX X [] [] := PGs.weak pgs_nil fun vs σ H Q h => by
  obtain ⟨hl, q⟩ := h
  have : vs = [] := List.length_eq_zero_iff.mp (by simpa using hl)
  subst this
  exact ⟨rfl, q⟩
theorem fm_cons {i : Nat} {is : List Nat} {x : Str} {es : List Expr} (h : FMX X es is) (hN : X.N.Nodup) (hi : X.N[i]? = some x := by rfl) (hx : Loc X.env.scope x := by first | exact Or.inl rfl | exact Or.inr rfl) (hf : X.fn x = true ∨ X.env.scope.names.lookup x = some .local := by first | exact .inl rfl | exact .inr rfl | assumption)
    (hs : (assignEach (.Name x pos :: es) X.env).map (·.2) = assign (.Name x pos) X.env :: (assignEach es X.env).map (·.2) := by rfl) : FMX X (.Name x pos :: es) (i :: is) :=
  PGs.weak (pgs_cons (pg_name hN hi hx hf) h hs) fun vs σ H Q hh => by
    obtain ⟨hl, q⟩ := hh
    cases vs with
    | nil => simp at hl
    | cons v vs => exact ⟨v, vs, rfl, by simpa using hl, q⟩
theorem fs_multi {es as : List Expr} {is : List Nat} {fs : FA} {pt pt2 : Pos} {kt k2} (hc : X.calm = true) (ha : FAX X np as fs) (hm : FMX X es is) (nd : is.Nodup := by decide) (hn : (assignEach es X.env).length = is.length := by rfl) (hst : (assignEach es X.env).findIdx? (·.1) = none := by rfl) (h64 : is.length ≤ 64 := by decide)
    (hs : swapsWithSole [.Tuple es kt pt] (.Tuple as k2 pt2) pos.line X.env = pure false := by rfl) (hw : swappedStores [.Tuple es kt pt] (.Tuple as k2 pt2) X.env = pure none := by rfl) (h1 : (assignEach [.Tuple es kt pt] X.env).map (·.2) = [assign (.Tuple es kt pt) X.env] := by rfl) :
    FSX X np (.Assign [.Tuple es kt pt] (.Tuple as k2 pt2) pos) (fMulti np is fs) := by
  refine PS.weak (ps_asg (pe_tup ha) (pg_tup hc hm hn hst) hs hw h1) fun D σ H h => ?_
  obtain ⟨W, Γ, vs, ds, o, c, e, q⟩ := h
  obtain ⟨⟨us, Γ1⟩, e1, e⟩ := Option.bind_eq_some_iff.mp e
  obtain ⟨Γ2, e2, e⟩ := Option.map_eq_some_iff.mp e
  cases e
  refine ⟨W, Γ, vs, tsd ds, us, Γ1, c, e1, fun xs H1 c1 el => ?_⟩
  obtain ⟨O, c1⟩ := c1
  have hlen := (putM_noAl e2).2
  rw [List.length_reverse, List.length_reverse] at hlen
  refine ⟨by rw [el, ← hlen, sizeLine_eq]; omega, fun p hp => ⟨p, xs, rfl, .inl (.inl upd_same), by rw [el, hlen], ?_⟩⟩
  have n := Ev.new (o := .tup xs) c1.dom hp
  refine ⟨by rw [el, hlen], ?_⟩
  have r := Cf.storeAll (c1.ev0 n) (by rw [List.length_reverse, List.length_reverse]; exact el) e2
  rw [setAll_rev nd (by rw [el, hlen])] at r
  exact q _ _ r
theorem fs_par3 {i j l : Nat} {x y z : Str} {a b c : Expr} {fs : FA} {px py pz pt : Pos} {kt k2 pt2} (hc : X.calm = true) (hN : X.N.Nodup) (ha : FAX X np [a, b, c] fs) (hi : X.N[i]? = some x := by rfl) (hj : X.N[j]? = some y := by rfl) (hl : X.N[l]? = some z := by rfl) (nd : [i, j, l].Nodup := by decide)
    (hx : X.env.scope.names.lookup x = some .local := by rfl) (hy : X.env.scope.names.lookup y = some .local := by rfl) (hz : X.env.scope.names.lookup z = some .local := by rfl)
    (hw : swappedStores [.Tuple [.Name x px, .Name y py, .Name z pz] kt pt] (.Tuple [a, b, c] k2 pt2) X.env = pure (some [x, y, z]) := by rfl)
    (hs : swapsWithSole [.Tuple [.Name x px, .Name y py, .Name z pz] kt pt] (.Tuple [a, b, c] k2 pt2) pos.line X.env = pure false := by rfl) :
    FSX X np (.Assign [.Tuple [.Name x px, .Name y py, .Name z pz] kt pt] (.Tuple [a, b, c] k2 pt2) pos) (fMulti np [i, j, l] fs) := by
  have d := nd
  simp only [List.nodup_cons, List.mem_cons, List.not_mem_nil, or_false, not_or] at d
  refine PS.weak (ps_par3 hc hN hi hj hl d.1.1 d.1.2 d.2.1 hx hy hz ha hw hs) fun D σ H h => ?_
  obtain ⟨W, Γ, vs, ds, o, c, e, q⟩ := h
  obtain ⟨⟨us, Γ1⟩, e1, e⟩ := Option.bind_eq_some_iff.mp e
  obtain ⟨Γ2, e2, e⟩ := Option.map_eq_some_iff.mp e
  cases e
  refine ⟨W, Γ, vs, tsd ds, us, Γ1, c, e1, fun xs H1 c1 el => ?_⟩
  obtain ⟨O, c1⟩ := c1
  have hlen := (putM_noAl e2).2
  rw [List.length_reverse, List.length_reverse] at hlen
  have r := Cf.storeAll c1 (by rw [List.length_reverse, List.length_reverse]; exact el) e2
  rw [setAll_rev nd (by rw [el, hlen])] at r
  match xs, (el.trans hlen.symm : xs.length = 3) with
  | [u, v, w], _ => exact ⟨u, v, w, rfl, q _ _ r⟩

/-! ### a call whose one argument is a value that nobody else has -/
def bk1 : List (Option MD) → Bool
  | [some m] => m.own
  | _ => false
def fCallO (np : Nat) (F : FF) (f : FE) : FE := fun Γ => (f Γ).bind fun p => match p.1 with
  | .md m => (F [m]).bind fun r => if m.own = true ∧ bk1 r.2 = true ∧ np ≤ p.2.length then some (.md r.1, p.2) else none
  | _ => none
section
variable {K : PySem.W.Frag} {W : Wd} {O O' : Own} {σ : L2.St} {H H' : Hp} {Γ Γ' : Gm} {vs : List V} {ts : List TV}
theorem Tm.alLt : ∀ {vs : List V} {ts : List TV} {i : Nat}, Tm K O H σ Γ vs ts → TV.al i ∈ ts → i < Γ.length
  | _, [], _, _, h => by cases h
  | v :: vs, t :: ts, i, hh, h => by
    rcases List.mem_cons.mp h with e | h
    · subst e
      obtain ⟨_, m, e, _⟩ := hh.1
      exact (List.getElem?_eq_some_iff.mp e).1
    · exact Tm.alLt hh.2 h
  | [], _ :: _, _, hh, _ => hh.elim
theorem Tm.wider {x : Option V} {y : Option MD} (hl : Γ.length = σ.length) : ∀ {vs : List V} {ts : List TV}, Tm K O H σ Γ vs ts → Tm K O H (σ ++ [x]) (Γ ++ [y]) vs ts
  | [], [], _ => True.intro
  | v :: vs, t :: ts, h => by
    refine ⟨?_, Tm.wider hl h.2⟩
    have h1 := h.1
    cases t with
    | md m => exact h1
    | al i =>
      obtain ⟨e, m, e1, e2⟩ := h1
      exact ⟨by rw [List.getElem?_append_left (List.getElem?_eq_some_iff.mp e).1]; exact e, m, by rw [List.getElem?_append_left (List.getElem?_eq_some_iff.mp e1).1]; exact e1, e2⟩
  | [], _ :: _, h => h.elim
  | _ :: _, [], h => h.elim
theorem Tm.slim {x : Option V} {y : Option MD} (hl : Γ.length = σ.length) : ∀ {vs : List V} {ts : List TV}, (∀ i, TV.al i ∈ ts → i < Γ.length) → Tm K O H (σ ++ [x]) (Γ ++ [y]) vs ts → Tm K O H σ Γ vs ts
  | [], [], _, _ => True.intro
  | v :: vs, t :: ts, hi, h => by
    refine ⟨?_, Tm.slim hl (fun i hm => hi i (List.mem_cons_of_mem _ hm)) h.2⟩
    have h1 := h.1
    cases t with
    | md m => exact h1
    | al i =>
      have hlt := hi i List.mem_cons_self
      obtain ⟨e, m, e1, e2⟩ := h1
      rw [List.getElem?_append_left (by omega)] at e e1
      exact ⟨e, m, e1, e2⟩
  | [], _ :: _, _, h => h.elim
  | _ :: _, [], _, h => h.elim
/-- the top temporary goes to a slot that the def doesn't have -/
theorem Cf.lend {m : MD} {v : V} (c : Cf K np W O σ H Γ (v :: vs) (.md m :: ts)) (hnp : np ≤ Γ.length) : ∃ O', Cf K np W O' (σ ++ [some v]) H (Γ ++ [some m]) vs ts := by
  have a : Ev (· = .tmp ts.length) O H (retag O (.tmp ts.length) (some (.slot Γ.length))) H := Ev.retag (by simp) c.dom
  have c2 := c.pop.ev a (by simp) (by simp) (fun k z => by injection z with z; omega)
  refine ⟨_, c2.dom, fun j m' e => ?_, c2.tm.wider c2.len, c2.keep, c2.out, c2.wt, fun j m' hj e ho => ?_, by rw [List.length_append, List.length_append, c2.len]; rfl⟩
  · rcases Nat.lt_or_ge j Γ.length with h | h
    · rw [List.getElem?_append_left h] at e
      obtain ⟨w, e1, r⟩ := c2.sl j m' e
      exact ⟨w, by rw [List.getElem?_append_left (by rw [← c2.len]; exact h)]; exact e1, r⟩
    · rw [List.getElem?_append_right h] at e
      have e0 : j = Γ.length := by
        have := (List.getElem?_eq_some_iff.mp e).1
        simp at this
        omega
      subst e0
      rw [Nat.sub_self] at e
      cases e
      exact ⟨v, by rw [List.getElem?_append_right (by rw [c2.len]; exact Nat.le_refl _), c2.len, Nat.sub_self]; rfl, MR.move c.dom (by simp) c.top⟩
  · have h : j < Γ.length := by omega
    rw [List.getElem?_append_left h] at e
    rw [List.getElem?_append_left (by rw [← c2.len]; exact h)]
    exact c2.arg j m' hj e ho
theorem Cf.unlend {x : Option V} {y : Option MD} (hl : Γ.length = σ.length) (hi : ∀ i, TV.al i ∈ ts → i < Γ.length) (c : Cf K np W O (σ ++ [x]) H (Γ ++ [y]) vs ts) : Cf K np W O σ H Γ vs ts where
  dom := c.dom
  sl := fun j m e => by
    have h := (List.getElem?_eq_some_iff.mp e).1
    obtain ⟨w, e1, r⟩ := c.sl j m (by rw [List.getElem?_append_left h]; exact e)
    rw [List.getElem?_append_left (by omega)] at e1
    exact ⟨w, e1, r⟩
  tm := c.tm.slim hl hi
  keep := c.keep
  out := c.out
  wt := c.wt
  arg := fun j m hj e ho => by
    have h := (List.getElem?_eq_some_iff.mp e).1
    have := c.arg j m hj (by rw [List.getElem?_append_left h]; exact e) ho
    rwa [List.getElem?_append_left (by omega)] at this
  len := hl
end
theorem fx_callO {k : Nat} {st : Stmt} {ps : List Str} {x : Str} {p : Pos} {F : FF} (D : Def X.prog X.w X.K X.mg X.base k x st ps F) (hr : RoomG k X.A) (he0 : FX X np e f) (hg : Gl X x := by rfl) (hdb : (x == ("__debug__" : Str)) = false := by decide)
    (he : starEach [e] X.env = (false, eval e X.env) :: starEach [] X.env := by rfl) (hpl : (backTo pos (starEach [] X.env)).any (·.1) = false := by rfl) :
    FX X np (.Call (.Name x p) [e] [] pos) (fCallO np F f) := by
  obtain ⟨⟨fa, fd, Fn, G, hm⟩, bd⟩ := D
  refine PE.weak (pe_callG G hr hg hm Fn.kp (Fn.binds bd) (pa_cons he0 pa_nil he) hdb he hpl) fun σ H Q h => ?_
  obtain ⟨W, Γ, vs, ts, t, Γ', c, e, q⟩ := h
  obtain ⟨⟨t1, Γ1⟩, e1, e⟩ := Option.bind_eq_some_iff.mp e
  refine ⟨W, Γ, vs, ts, t1, Γ1, c, e1, fun v H1 c1 => ?_⟩
  obtain ⟨O, c1⟩ := c1
  cases t1 with
  | al i => cases e
  | md m =>
    obtain ⟨⟨r, ms'⟩, e2, e⟩ := Option.bind_eq_some_iff.mp e
    dsimp only at e
    split at e
    · rename_i hh
      cases e
      obtain ⟨hm1, hm2, hnp⟩ := hh
      obtain ⟨m', rfl, ho'⟩ : ∃ m', ms' = [some m'] ∧ m'.own = true := by
        unfold bk1 at hm2
        split at hm2
        · exact ⟨_, rfl, hm2⟩
        · cases hm2
      obtain ⟨O2, c2⟩ := c1.lend hnp
      have hlt : ∀ i, TV.al i ∈ ts → i < Γ'.length := fun i h => Tm.alLt c1.pop.tm h
      have eg : (Γ' ++ [some m])[Γ'.length]? = some (some m) := by rw [List.getElem?_append_right (Nat.le_refl _), Nat.sub_self]; rfl
      have es : (σ ++ [some v])[Γ'.length]? = some (some v) := by rw [c1.len, List.getElem?_append_right (Nat.le_refl _), Nat.sub_self]; rfl
      refine callF (E := E0) (xs := [v]) (us := [.al Γ'.length]) (ms := [m]) (ms' := [some m']) (Γ' := Γ' ++ [some m']) c2 (.cons ⟨.out, es, m, eg, hm1⟩ .nil) (by simp [als]) (by simp [argsOf, eg]) e2 ?_ fun v' H' c3 => ?_
      · simp [putArgs, ho']
      · obtain ⟨O3, c3⟩ := c3
        refine q v' H' ⟨O3, c3.unlend c1.len fun i h => ?_⟩
        rcases List.mem_cons.mp h with h | h
        · cases h
        · exact hlt i h
    · cases e
/-- try whose body raises nothing -/
theorem fs_try {body : List Stmt} {h0 : ExceptHandler} {hs : List ExceptHandler} {g : FS} (hb : FSsX X.nox np body g) : FSX X np (.Try body (h0 :: hs) [] [] pos) g := ps_try_thru0 hb
end
end Fx

end

/-! Fx20: the end: from the law's meaning to the law's walk -/
noncomputable section
namespace Fx
open PySem PySem.Spec PyProof.Rows L2

theorem Fun.same {K : PySem.W.Frag} {x q : Str} {st : Stmt} {f : Addr} {fd fd' : FuncData} (a : Fun K x q st f fd) (b : Fun K x q st f fd') : fd = fd' := by
  obtain ⟨oc, od, kV, doc, pm, an, cdv, ct, osl, e1, l1, _⟩ := a.ex
  obtain ⟨oc', od', kV', doc', pm', an', cdv', ct', osl', e2, l2, _⟩ := b.ex
  rw [l1] at l2
  have := (Obj.mk.inj (Option.some.inj l2)).2.2.1
  exact Data.func.inj this
theorem at_mk {K : PySem.W.Frag} {h : Heap} {mg : Str → Option Value} {x : Str} {st : Stmt} {f : Addr} {oc kV doc pm cdv ct : Value} {od an : Option Addr} {osl : Array (Option Value)} (X : K.In h) (G : h.Ns mainGlobals mg)
    (a : PySem.W.nsIn K mainGlobals x = some (some (.ref f))) (l : K.lookup f = some ⟨oc, od, .func (PySem.W.fnOf x x (defArgs st) (defBody st) (defScope st) .none kV doc pm an cdv ct), osl⟩) (c : PySem.W.codeIn K cdv x = true) (k : PySem.W.keepIn K (.ref f) = true) : At K mg x st :=
  ⟨f, _, fun_mk (st := st) l c k, PySem.W.mg_of X G a⟩
theorem end_mk {P : Program} {w : World} {K : PySem.W.Frag} {mg : Str → Option Value} {h : Heap} {x : Str} {st : Stmt} {fa : Addr} {k : Nat} {F : FF} (X : K.In h) (G : h.Ns mainGlobals mg) (hfa : mg x = some (.ref fa))
    (D : ∀ base : Heap, K.In base → base.Ns mainGlobals mg → Def P w K mg base k x st ["script"] F) :
    ∃ fd : FuncData, (∀ (s : Shared) (v : Value), BindsTo s fd ⟨[v], []⟩ [("script", v)]) ∧ ∀ base : Heap, K.In base → base.Ns mainGlobals mg → FnG P w K mg base k fa fd ["script"] (spF K F) := by
  obtain ⟨⟨f, fd, Fn, _, hm⟩, bd⟩ := D h X G
  rw [hfa] at hm
  cases hm
  refine ⟨fd, fun s v => ?_, fun base X' G' => ?_⟩
  · obtain ⟨oc, od, kV, doc, pm, an, cdv, ct, osl, rfl, _, _⟩ := Fn.ex
    exact .of_eq (bd kV doc pm an cdv ct [v] rfl)
  · obtain ⟨⟨f', fd', Fn', ok, hm'⟩, _⟩ := D base X' G'
    rw [hfa] at hm'
    cases hm'
    rw [Fun.same Fn Fn']
    exact ok
theorem sp_end {K : PySem.W.Frag} {F : FF} {H : Hp} {a : Addr} {ns : List Int} (hF : ∃ ms', F [.scr ns] = some (.dat (.bool true), ms')) (hS : SqL K H a (ns.map V.int)) (E : XK) : spF K F [.ref a] H (fun v _ => v = .bl true) E := by
  obtain ⟨ms', hF⟩ := hF
  refine ⟨fun _ => none, [.scr ns], _, ms', fun _ _ h => (by cases h), fun _ _ h => (by cases h), rfl, fun k m hk => ?_, hF, fun v H' O' n _ r _ => ?_⟩
  · cases k with
    | zero =>
      cases hk
      refine ⟨.ref a, rfl, a, rfl, ?_⟩
      rcases hS with h | h
      · exact .inl ⟨h, rfl⟩
      · exact .inr (.inr h)
    | succ k => cases hk
  · have r' : Fz K O' H' (.bool true) v := r
    cases r'
    rfl
/-- the law's call, by such a contract -/
theorem law_callG {P : Program} {w : World} {K : PySem.W.Frag} {mg mb : Str → Option Value} {k : Nat} {fa a : Addr} {fd : FuncData} {x : Str} {sp : Sp} {s₁ : Shared} {vs : List Value} {ns : List Int} (inK : K.In s₁.heap) (nG : s₁.heap.Ns mainGlobals mg) (nB : s₁.heap.Ns builtinsNs mb)
    (boot : ∀ y : Str, y ≠ "__name__" → mb y = bootBuiltins y) (noL : s₁.heap.NoLimit) (g0 : s₁.gens = #[]) (hA : s₁.heap.get? a = some { cls := .type "list", data := .seq vs.toArray }) (hI : IntsAre vs ns) (hz : ns.length ≤ sizeLine) (hr : RoomG k callerA)
    (F : ∀ base : Heap, K.In base → base.Ns mainGlobals mg → FnG P w K mg base k fa fd [x] sp) (bind : ∀ (s : Shared) (u : Value), BindsTo s fd ⟨[u], []⟩ [(x, u)]) (hsp : ∀ H : Hp, Only H → SqL K H a (ns.map V.int) → sp [.ref a] H (fun v _ => v = .bl true) E0) :
    codeAny (model P w) callerA (.call (.ref fa) ⟨[.ref a], []⟩) (fun r s' => r = .ok (.ret (.bool true)) ∧ OldK s₁.heap s'.heap ∧ s'.os = s₁.os ∧ AllBare s'.gens) s₁ := by
  have rel := vals_ints hI
  have many := hI.length
  have main : ∀ H : Hp, Only H → SqL K H a (ns.map V.int) → HOk P w H s₁.heap → (∀ b, H b ≠ none → b = a) → (H a ≠ none → K.lookup a = none) →
      codeAny (model P w) callerA (.call (.ref fa) ⟨[.ref a], []⟩) (fun r s' => r = .ok (.ret (.bool true)) ∧ OldK s₁.heap s'.heap ∧ s'.os = s₁.os ∧ AllBare s'.gens) s₁ := by
    intro H only sq ok alone free
    have hid : ∀ {b : Addr} {o : Obj}, s₁.heap.get? b = some o → H b = none → (hidT s₁.heap H).get? b = some o := fun e n => hidT_get e n
    have noDict : ∀ {b : Addr} {o : Obj} {es : Array DictEntry} {ep : Nat}, s₁.heap.get? b = some o → o.data = .dict es ep → H b = none := by
      intro b o es ep e d
      by_cases q : H b = none
      · exact q
      · have ab := alone b q
        subst ab
        rw [hA] at e
        cases e
        exact absurd (show Data.seq vs.toArray _ = Data.dict es ep from d) (by intro z; cases z)
    have nsH : ∀ {b : Addr} {m : Str → Option Value}, s₁.heap.Ns b m → (hidT s₁.heap H).Ns b m := by
      rintro b m ⟨o, es, ep, e, d, r⟩
      exact ⟨o, es, ep, hid e (noDict e d), d, r⟩
    have inH : K.In (hidT s₁.heap H) := by
      intro b o e
      refine hid (inK b o e) ?_
      by_cases q : H b = none
      · exact q
      · have ab := alone b q
        subst ab
        rw [free q] at e
        cases e
    have modH : Mod K mg (hidT s₁.heap H) := ⟨inH, nsH nG, ⟨mb, nsH nB, boot⟩, let ⟨mc, h1, h2⟩ := noL; ⟨mc, nsH h1, h2⟩⟩
    have none0 : ∀ b : Addr, ¬ b ∈ frs [] := fun b hb => absurd (show b ∈ ([] : List Addr) from hb) (by simp)
    have e0 : Env0 P w K mg (hidT s₁.heap H) callerA [] s₁ H := ⟨rfl, modH, fun b o e => of_hidT e, Nat.le_of_eq (hidT_size _ _), trivial, fun b hb => absurd hb (none0 b), ok, .of_eq g0⟩
    refine codeAny_mono ((F _ inH (nsH nG)).go (as := ⟨[.ref a], []⟩) (us := [.ref a]) (vs := [.ref a]) hr e0 (bind s₁ (.ref a)) (.cons rfl .nil) (hsp H only sq)) ?_
    intro r s' hq
    cases r with
    | error e => exact False.elim hq
    | ok fl =>
      cases fl with
      | next => exact False.elim hq
      | brk => exact False.elim hq
      | cont => exact False.elim hq
      | ret u =>
        obtain ⟨v, H2, os, bare, un, ok2, rv, q⟩ := hq
        have q2 : v = .bl true := q
        subst q2
        have eu : u = Value.bool true := rv
        subst eu
        refine ⟨rfl, OldK.of_keep ?_, os, bare⟩
        intro b o e
        rcases only b with z | ⟨ob, xs, z⟩
        · exact un.keep b o e z (none0 b) (by simp)
        · have z2 := un.frzs b ob _ z
          obtain ⟨e1, _⟩ := ok b _ z
          obtain ⟨e2, _⟩ := ok2 b _ z2
          rw [e] at e1
          cases e1
          exact e2
  by_cases hk : K.lookup a = none
  · have at_a : ∀ {b : Addr} {u : HO}, (if b = a then some (HO.frz { cls := .type "list", data := .seq vs.toArray } (.lst (ns.map V.int))) else none) = some u → b = a ∧ u = HO.frz { cls := .type "list", data := .seq vs.toArray } (.lst (ns.map V.int)) := by
      intro b u z
      by_cases hb : b = a
      · rw [if_pos hb] at z
        exact ⟨hb, (Option.some.inj z).symm⟩
      · rw [if_neg hb] at z
        cases z
    refine main (fun b => if b = a then some (.frz { cls := .type "list", data := .seq vs.toArray } (.lst (ns.map V.int))) else none) ?_ (.inl (.inr ⟨{ cls := .type "list", data := .seq vs.toArray }, if_pos rfl⟩)) ?_ ?_ fun _ => hk
    · intro b
      by_cases hb : b = a
      · exact Or.inr ⟨_, _, if_pos hb⟩
      · exact Or.inl (if_neg hb)
    · intro b u z
      obtain ⟨rfl, rfl⟩ := at_a z
      exact ⟨hA, by rw [List.length_map]; exact hz, vs, _, rel, hA⟩
    · intro b z
      by_cases hb : b = a
      · exact hb
      · exact absurd (if_neg hb) z
  · obtain ⟨o, ho⟩ := Option.ne_none_iff_exists'.mp hk
    have e := inK a o ho
    rw [hA] at e
    cases e
    exact main (fun _ => none) (fun _ => Or.inl rfl) (.inr ⟨_, vs.toArray, _, ho, rfl, rfl, rfl, by rw [List.size_toArray, many]; exact hz, by simpa using rel⟩) (fun b u z => nomatch z) (fun b z => absurd rfl z) (fun z => absurd rfl z)
theorem walk_end {l : PySem.W.OpenLaw} {q : Program} {loose : List Str} {XP : (Str → Option Value) → Heap → Prop} {YP : World → Heap → Prop} {d : DefRec} {K : Params → PySem.W.Frag} {k : Nat} {F : FF} (hn : l.most = some 63) (hdf : d.params.defaults = []) (hr : RoomG k callerA)
    (hY : ∀ (w : World) (h : Heap), YP w h → (K w.params).In h) (hF : ∀ ns : List Int, ns.length ≤ 63 → ∃ ms', F [.scr ns] = some (.dat (.bool true), ms'))
    (M : ∀ (w : World) (mg : Str → Option Value) (fa : Addr) (h : Heap), (K w.params).In h → h.Ns mainGlobals mg → mg d.name = some (.ref fa) →
      ∃ fd : FuncData, (∀ (s : Shared) (u : Value), BindsTo s fd ⟨[u], []⟩ [("script", u)]) ∧ ∀ base : Heap, (K w.params).In base → base.Ns mainGlobals mg → FnG l.prog w (K w.params) mg base k fa fd ["script"] (spF (K w.params) F)) :
    PySem.W.WalkO q loose XP YP l.row.toRowW d [] (fun f vs => PySem.call f vs) := by
  refine Att.attach_call hn hdf ?_
  intro w s₀ s₁ mg mb fa o pm cd doc a vs ns G Y ho hd hcd hmg hobj hints hlen hg
  have inK := hY w _ Y
  obtain ⟨fd, hb, hM⟩ := M w mg fa _ inK G.T.g hmg
  exact law_callG inK G.T.g G.T.b G.T.builtins G.T.nolimit hg hobj hints (Nat.le_trans hlen (by decide)) hr hM hb fun H _ sq => sp_end (hF ns hlen) sq _
end Fx

end

noncomputable section
namespace Fx
abbrev fEnum := fEnumL
end Fx

end

/-! Fx21: enumerate of a tuple, repr, texts compared, raise that is not reached -/
noncomputable section
namespace Fx
open PySem PySem.Spec PyProof.Rows L2

theorem RoomG.hu {k : Nat} {A : Around} (h : RoomG k A) : A.units + 1 < cLine := by have := h.r.units; omega

/-! ### enumerate of a tuple -/
set_option maxHeartbeats 1000000 in
theorem enum_made {v : Value} {o : Obj} {S : Heap → Prop} (B : Begins v o S) :
    Meets (Builtin.«enumerate.__new__» ⟨[.type "enumerate", v], []⟩) (fun _ R s => S s.heap ∧
      R (.ok (.ret (.ref (s.heap.push o).objs.size))) { s with heap := (s.heap.push o).push { cls := .type "enumerate", data := .fields #[.none, .bool false, .ref s.heap.objs.size, rawInt 0, .none, .none] } }) :=
  .of_wp fun prog w A R s h => by
    obtain ⟨hp, g, d, tk, os⟩ := s
    obtain ⟨h1, h⟩ := h
    have isE := sub_enumerate
    have q0 : ∀ {A' : Around} {E : Value → Shared → Prop} {Q : Value → Shared → Prop}, Q (.ref hp.objs.size) ⟨hp.push o, g, d, tk, os⟩ → wpAny (model prog w) A' (pyIter v) Q E ⟨hp, g, d, tk, os⟩ :=
      fun q => B.iter prog w _ _ ⟨hp, g, d, tk, os⟩ _ h1 q
    wp_walk using q0
    refine wpAny_stack_any fun st => wpAny_pure ?_
    split
    · rename_i c _ _ _ _ _
      cases (c == Value.type "enumerate") <;> (wp_walk using q0; exact ⟨_, rfl, h⟩)
    · wp_walk using q0
      exact ⟨_, rfl, h⟩
theorem call_enum1 {prog : Program} {w : World} {A : Around} {E : Value → Shared → Prop} {s : Shared} {v : Value} {o : Obj} {S : Heap → Prop} {Q : Value → Shared → Prop} (B : Begins v o S) (h1 : S s.heap)
    (h : ∀ h', IsEnum h' (s.heap.objs.size + 1) s.heap.objs.size 0 .none → h'.get? s.heap.objs.size = some o → h'.objs.size = s.heap.objs.size + 2 →
      (∀ b u, s.heap.get? b = some u → h'.get? b = some u) → Q (.ref (s.heap.objs.size + 1)) { s with heap := h' }) : wpAny (model prog w) A (call (.type "enumerate") [v]) Q E s := by
  refine callType_new F.called_enumerate (by decide) (F.typeCall_enumerate_1 _) (F.newCall_enumerate_1 _) (fun obj => F.args_object_init_2 obj _) F.entry_enumerate_new (enum_made B) ⟨h1, ?_⟩
  have z : (s.heap.push o).objs.size = s.heap.objs.size + 1 := Heap.size_push ..
  show _ ∧ _
  rw [z]
  have e0 := Heap.get?_push_size (s.heap.push o) (o := { cls := .type "enumerate", data := .fields #[.none, .bool false, .ref s.heap.objs.size, rawInt 0, .none, .none] }) rfl
  rw [z] at e0
  exact ⟨⟨_, e0, rfl⟩, h _ e0 (Heap.get?_push_of_some _ (Heap.get?_push_size _ B.free)) (by rw [Heap.size_push, z]) fun b u x => Heap.get?_push_of_some _ (Heap.get?_push_of_some _ x)⟩
/-- the tuple at a, each item in a new pair -/
def IteT (K : PySem.W.Frag) (a : Addr) : It :=
  ⟨fun i H => ∃ (xs : List V) (x : V), SqT K H a xs ∧ xs[i]? = some x, fun i H v H' => ∃ T x, v = .ref T ∧ H T = none ∧ H' = upd H T (.tup [.int (i : Nat), x]) ∧ ∀ xs, SqT K H a xs → xs[i]? = some x, fun i H => ∃ xs : List V, SqT K H a xs ∧ xs.length ≤ i⟩
/-- an iterator that is through -/
theorem drawsOver {prog : Program} {w : World} {A : Around} (hh : A.handled = none) (it t : Addr) (items : Array Value) (n : Nat) (hn : items.size ≤ n) :
    Draws prog w A it [it, t] n (fun _ _ => False) (fun i h => h.IsTupleIter it t i ∧ h.IsTuple t items ∧ i = n) where
  live := fun _ _ st => let ⟨o, ho, _⟩ := st.1; ⟨o, ho⟩
  frame := fun _ _ _ st hk => ⟨st.1.at fun o e => hk it (by simp) o e, st.2.1.at fun o e => hk t (by simp) o e, st.2.2⟩
  item := fun i s Q E hi st hQ => absurd hi (by have := st.2.2; omega)
  done := fun s Q E st hE => wpAny_nextOf_tuple_end hh st.1 st.2.1 (Array.getElem?_eq_none hn) hE
theorem turn_enumT {P : Program} {w : World} {K : PySem.W.Frag} {elts : List Expr} {kk : Nat} {tpos : Pos} (a e it : Addr) :
    Turn P w K (.Tuple elts kk tpos) (IteT K a) [e, it] e (fun i h => (∃ old, IsEnum h e it ((i : Nat) : Int) old) ∧ h.IsTupleIter it a i ∧ e ≠ it ∧ a ≠ it ∧ a ≠ e) where
  mem := List.mem_cons_self
  obj := by
    rintro i h ⟨⟨old, he⟩, ⟨o, ho, hc, hd⟩, _⟩ b hb
    rcases List.mem_cons.mp hb with rfl | hb
    · exact ⟨_, he, fun v q => nomatch q⟩
    · rw [List.mem_singleton.mp hb]
      exact ⟨o, ho, fun v q => by rw [hd] at q; cases q⟩
  keep := by
    rintro i h h' ⟨⟨old, he⟩, hi, hne⟩ k
    exact ⟨⟨old, k e List.mem_cons_self _ he⟩, hi.at fun o q => k it (List.mem_cons_of_mem _ List.mem_cons_self) o q, hne⟩
  item := by
    intro X hP hw hK hc i pins s σ H E I hf st hg
    subst hP hw hK
    obtain ⟨⟨old, he⟩, hit, hne, ha1, ha2⟩ := st
    obtain ⟨xs, x, hq, hx⟩ := hg
    obtain ⟨its, rv, p, hz⟩ := I.tuple hq
    obtain ⟨u, hu, ru⟩ := rv.get hx
    have lt_e : e < s.heap.objs.size := Heap.lt_size he
    have lt_it : it < s.heap.objs.size := by
      obtain ⟨_, q, _⟩ := hit
      exact Heap.lt_size q
    have notin : e ∉ [it, a] := by simp [hne, Ne.symm ha2]
    have li : i < its.toArray.size := by
      have := (List.getElem?_eq_some_iff.mp hu).1
      simpa using this
    refine wpAny_pyNext_enum_itemD (Draws.tuple (prog := X.prog) (w := X.w) (A := X.A.in1) (I.ok.hd hc) it a ha1 its.toArray) he ⟨hit, p⟩ li hne notin ?_
    intro u2 h' tk eu ho hst hT hsz hk
    have eu' : u2 = u := by
      have q : its.toArray[i]? = some u2 := eu
      have q2 : its.toArray[i]? = some u := by simpa using hu
      rw [q] at q2
      exact Option.some.inj q2
    subst eu'
    refine ⟨_, rfl, wpAny_letOwnedTupleGo_enum (s := { s with heap := h', toks := tk + 1 }) ho ?_⟩
    intro h2 he2 sb
    have lt_n := Nat.ne_of_gt lt_e
    have hT2 : h2.get? s.heap.objs.size = some { cls := .type "tuple", data := .seq #[.int i tk, u2] } := (sb.2 _ lt_n).trans hT
    have new : ObjOk X.prog X.w (upd H s.heap.objs.size (.tup [.int (i : Nat), x])) h2 s.heap.objs.size (.tup [.int (i : Nat), x]) :=
      ⟨by show 2 ≤ sizeLine; decide, [.int i tk, u2], .cons ⟨_, rfl⟩ (.cons ru .nil), ⟨_, hT2, rfl, _, rfl⟩⟩
    have I1 : Inv X pins σ (upd H s.heap.objs.size (.tup [.int (i : Nat), x])) { s with heap := h2, toks := tk + 1 } :=
      I.turnedNew (ch := [e, it]) (fun b ob hb q => (sb.2 b (fun z => hb (by simp [z]))).trans (hk b ob (fun z => hb (by simp [z])) (fun z => hb (by simp [z])) q)) hf (Nat.le_refl _) new
    refine ⟨.ref s.heap.objs.size, _, I1, rfl, ⟨_, x, rfl, I.hok.fresh (Nat.le_refl _), rfl, fun ys hy => ?_⟩, ⟨⟨u2, ?_⟩, hst.1.at fun o q => (sb.2 it (Ne.symm hne)).trans q, hne, ha1, ha2⟩, ?_⟩
    · rw [I.tuple_inj hy hq]
      exact hx
    · rw [show ((i + 1 : Nat) : Int) = (i : Int) + 1 by omega]
      exact he2
    · intro b hb
      have lt_b : b < s.heap.objs.size := by
        rcases List.mem_cons.mp hb with rfl | hb
        · exact lt_e
        · rw [List.mem_singleton.mp hb]
          exact lt_it
      rw [upd_ne (Nat.ne_of_lt lt_b)]
      exact (hf b hb).1
  done := by
    intro X hP hw hK hc i pins s σ H E I hf st hg
    subst hP hw hK
    obtain ⟨⟨old, he⟩, hit, hne, ha1, ha2⟩ := st
    obtain ⟨xs, hq, hx⟩ := hg
    obtain ⟨its, rv, p, hz⟩ := I.tuple hq
    have hl := rv.length
    obtain ⟨f0, f1, f2, f3, f4, f5⟩ := hf it (List.mem_cons_of_mem _ List.mem_cons_self)
    exact wpAny_pyNext_enum_endD (drawsOver (prog := X.prog) (w := X.w) (A := X.A.in1) (I.ok.hd hc) it a its.toArray i (by simp; omega)) he ⟨hit, p, rfl⟩ fun h' eb => ⟨rfl, I.turned (t' := s.toks) (fun b o hb q => eb b o hb q) f0 f1 f3 f4 f5⟩
  self := fun A i s Q E st h => let ⟨⟨_, he⟩, _⟩ := st; wpAny_pyIter_enum he h
theorem pi_enumT {X : Cx} {e : Expr} {ta : TA} {p pos tpos : Pos} {elts : List Expr} {kk : Nat} (hg : Gl X "enumerate") (hm : X.mg "enumerate" = none) (ha : PA X [e] ta) (hs : starEach [e] X.env = [(false, eval e X.env)]) :
    PI X (.Tuple elts kk tpos) (.Call (.Name "enumerate" p) [e] [] pos) (fun σ H R => ta σ H fun vs H1 => ∃ a xs, vs = [.ref a] ∧ SqT X.K H1 a xs ∧ R (IteT X.K a) H1) := by
  constructor
  intro pins s σ H R I h
  refine Call_ (ld_blt I hg hm boot_enumerate (PyProof.Rows.callWith_type1 (thn (ha.run pos pins s σ H _ I h) ?_) hs rfl))
  rintro us s1 ⟨vs, H1, I1, r1, a, xs, rfl, hq, q⟩
  obtain ⟨u, rfl, r⟩ := vals1 r1
  obtain rfl : u = Value.ref a := r
  obtain ⟨its, rv, p', hz⟩ := I1.tuple hq
  refine call_enum1 (begins_tuple a its.toArray) p' ?_
  intro h' he hit hsz hk
  refine wpAny_pyIter_enum he ?_
  have I2 : Inv X pins σ H1 { s1 with heap := h' } := I1.kept (t' := s1.toks) hk
  have lt_a : a < s1.heap.objs.size := by
    obtain ⟨o, ho, _⟩ := p'
    exact Heap.lt_size ho
  refine ⟨s1.heap.objs.size + 1, [s1.heap.objs.size + 1, s1.heap.objs.size], _, _, H1, rfl, I2, turn_enumT a (s1.heap.objs.size + 1) s1.heap.objs.size, ⟨⟨.none, he⟩, ⟨_, hit, rfl, rfl⟩, Nat.succ_ne_self _, Nat.ne_of_lt lt_a, Nat.ne_of_lt (Nat.lt_succ_of_lt lt_a)⟩, fun b hb => ?_, q⟩
  have le_b : s1.heap.objs.size ≤ b := by
    rcases List.mem_cons.mp hb with rfl | hb
    · exact Nat.le_succ _
    · rw [List.mem_singleton.mp hb]
      exact Nat.le_refl _
  exact I1.fpOk le_b (I1.hok.fresh le_b)
section
variable {K : PySem.W.Frag} {O : Own} {H : Hp}
theorem itf_enumT {ds : List PyData} {a : Addr} (h : Fz K O H (.tuple ds) (.ref a)) : ItF K (IteT K a) O H (enumD ds) := by
  intro O' H' i dom k
  obtain ⟨b, xs, e, hb, fa⟩ := (Fz.kp k _ _ h).sqT
  cases e
  refine ⟨fun d e => ?_, fun hl => ⟨xs, hb, by rw [← fa.length]; simpa [enumD] using hl⟩⟩
  obtain ⟨d', e1, rfl⟩ := enumD_get e
  obtain ⟨v, ev, r⟩ := fa.get e1
  refine ⟨⟨xs, v, hb, ev⟩, fun x H' y => ?_⟩
  obtain ⟨T, w, rfl, hT, rfl, y⟩ := y
  have e2 := y xs hb
  rw [ev] at e2
  cases e2
  exact ev_pair dom hT (.int _) r
end
section
variable {X : Cx} {np : Nat} {a : Expr} {pos : Pos} {f : FE}
/-- enumerate of a list, of a tuple -/
def fEnumA (f : FE) : FI := fun Γ => (f Γ).bind fun p => match p.1 with
  | .md (.dat (.list ds)) => some (enumD ds, p.2)
  | .md (.dat (.tuple ds)) => some (enumD ds, p.2)
  | _ => none
theorem fi_enumA {p tpos : Pos} {elts : List Expr} {kk : Nat} (hm : X.mg "enumerate" = none) (ha : FX X np a f) (hg : Gl X "enumerate" := by rfl) (hs : starEach [a] X.env = (false, eval a X.env) :: starEach [] X.env := by rfl) (hs' : starEach [a] X.env = [(false, eval a X.env)] := by rfl) :
    FIX X np (.Tuple elts kk tpos) (.Call (.Name "enumerate" p) [a] [] pos) (fEnumA f) := by
  refine PI.weak (PI.or (pi_enum hg hm (pa_cons ha pa_nil hs) hs') (pi_enumT hg hm (pa_cons ha pa_nil hs) hs')) fun σ H R h => ?_
  obtain ⟨W, Γ, vs, ts, items, Γ', c, e, q⟩ := h
  obtain ⟨⟨t, Γ1⟩, e1, e⟩ := Option.bind_eq_some_iff.mp e
  dsimp only at e
  split at e
  · cases e
    refine .inl ⟨W, Γ, vs, ts, _, _, c, e1, fun v H1 c1 => ?_⟩
    obtain ⟨O, c1⟩ := c1
    have r := c1.top
    obtain ⟨a, xs, rfl, ha, fa, _⟩ := Fz.sqL r
    exact ⟨a, xs, rfl, .of ha, q _ _ _ c1.pop (itf_enum r)⟩
  · cases e
    refine .inr ⟨W, Γ, vs, ts, _, _, c, e1, fun v H1 c1 => ?_⟩
    obtain ⟨O, c1⟩ := c1
    have r := c1.top
    obtain ⟨a, xs, rfl, ha, fa⟩ := Fz.sqT r
    exact ⟨a, xs, rfl, ha, q _ _ _ c1.pop (itf_enumT r)⟩
  · cases e
end

/-! ### repr -/
/-- what repr tells of -/
def gRepr : List PyData → Option Res
  | [.none] => some (.val (.str (PyData.none).shown))
  | [.bool b] => some (.val (.str (PyData.bool b).shown))
  | [.int i] => if i.natAbs.log2 < 1920 then some (.val (.str (PyData.int i).shown)) else none
  | [.str x] => if (reprText x).length ≤ sizeLine then some (.val (.str (PyData.str x).shown)) else none
  | [.dict []] => some (.val (.str (PyData.dict []).shown))
  | [.list ds] => if (PyData.list ds).showable = true ∧ SeqAt.shaped (.list ds) = true ∧ (PyData.list ds).shown.length ≤ sizeLine then some (.val (.str (PyData.list ds).shown)) else none
  | [.tuple ds] => if (PyData.tuple ds).showable = true ∧ SeqAt.shaped (.tuple ds) = true ∧ (PyData.tuple ds).shown.length ≤ sizeLine then some (.val (.str (PyData.tuple ds).shown)) else none
  | _ => none
mutual
theorem noDict_of_canLay : ∀ d : PyData, d.canLay0 = true → d.hasDict = false
  | .none, _ => rfl
  | .bool _, _ => rfl
  | .int _, _ => rfl
  | .str _, _ => rfl
  | .list ds, h => by
    simp only [PyData.canLay0] at h
    simp only [PyData.hasDict]
    exact noDict_of_canLayAll ds h
  | .tuple ds, h => by
    simp only [PyData.canLay0] at h
    simp only [PyData.hasDict]
    exact noDict_of_canLayAll ds h
  | .dict _, h => by simp [PyData.canLay0] at h
theorem noDict_of_canLayAll : ∀ ds : List PyData, PyData.canLayAll0 ds = true → PyData.hasDictAll ds = false
  | [], _ => rfl
  | d :: ds, h => by
    simp only [PyData.canLayAll0, Bool.and_eq_true] at h
    simp only [PyData.hasDictAll, noDict_of_canLay d h.1, noDict_of_canLayAll ds h.2, Bool.or_self]
end
def rRepr (K : PySem.W.Frag) : List V → Hp → VK → Prop := fun xs H Q => ∃ x d s, xs = [x] ∧ (Dp K H x d ∨ (∃ a od, x = .ref a ∧ d = .dict [] ∧ H a = some (.frz od (.dK [])))) ∧ gRepr [d] = some (.val (.str s)) ∧ Q (.str s) H
theorem call_repr {X : Cx} (g0 : X.A.guards = some []) (hu : X.A.units + 66 < cLine) : CallR X (.builtin "repr") (rRepr X.K) := by
  intro pins s σ H xs us Q I r h
  obtain ⟨x, d, z, rfl, dp, e, q⟩ := h
  obtain ⟨u, rfl, ru⟩ := vals1 r
  have fin : ∀ (h' : Heap) (tk : Tok) (t : Nat), (∀ b o, s.heap.get? b = some o → h'.get? b = some o) → EP X pins σ Q (.str z tk) { s with heap := h', toks := t } := fun h' tk t hk => ⟨.str z, H, I.kept hk, ⟨_, rfl⟩, q⟩
  have fin0 : ∀ (tk : Tok) (t : Nat), EP X pins σ Q (.str z tk) { s with toks := t } := fun tk t => ⟨.str z, H, I.tok _, ⟨_, rfl⟩, q⟩
  rcases dp with dp | ⟨a, od, rfl, rfl, ha⟩
  · have big : ∀ {a : Addr} {d : PyData}, u = .ref a → Dp X.K H x d → d.showable = true → SeqAt.shaped d = true → d.shown.length ≤ sizeLine → d.shown = z → wpAny (model X.prog X.w) X.A (call (.builtin "repr") [u]) (EP X pins σ Q) X.xe s := by
      intro a d eu dp h1 h2 h3 ez
      subst eu
      obtain ⟨as, rd⟩ := Dp.reads I d x _ dp ru
      have hd := SeqAt.depth_of_shaped h2
      have nd := noDict_of_canLay d (SeqAt.canLay_of_shaped h2)
      refine repr_of_reads' rd h1 (fun z => by rw [nd] at z; cases z) g0 (by omega) (fun _ _ e => e) (fun h' v tk hk => ?_) h3
      rw [ez]
      exact fin h' v tk hk
    cases dp with
    | non =>
      cases ru
      cases e
      exact P.repr_of_none (fin0 _ _)
    | bl b =>
      cases ru
      cases e
      exact P.repr_of_bool (fin0 _ _)
    | int i =>
      obtain ⟨t, rfl⟩ := ru
      simp only [gRepr] at e
      split at e
      · rename_i hi
        cases e
        exact P.repr_of_int hi (fin0 _ _)
      · cases e
    | str y =>
      obtain ⟨t, rfl⟩ := ru
      simp only [gRepr] at e
      split at e
      · rename_i hi
        cases e
        exact P.repr_of_str (fin0 _ _) hi
      · cases e
    | lst hs ha =>
      cases ru
      simp only [gRepr] at e
      split at e
      · rename_i hi
        cases e
        exact big rfl (.lst hs ha) hi.1 hi.2.1 hi.2.2 rfl
      · cases e
    | tup hs ha =>
      cases ru
      simp only [gRepr] at e
      split at e
      · rename_i hi
        cases e
        exact big rfl (.tup hs ha) hi.1 hi.2.1 hi.2.2 rfl
      · cases e
  · cases ru
    cases e
    obtain ⟨e1, _, hsys, xs, kv, o, es, ep, e2, hc, hd, _, hp, _⟩ := (show ObjOk X.prog X.w H s.heap a (.frz od (.dK [])) from I.hok a _ ha)
    cases kv
    have he' : es.toList = [] := by
      generalize es.toList = l at hp
      cases hp
      rfl
    have rd : Reads s.heap (.ref a) (.dict []) (a :: [] ++ []) := .dict e2 hc.1 hd (by rw [he']; exact .nil) (by rw [he']; exact .nil)
    have ne : sysModules ≠ a := fun z => by rw [← z] at hsys; simp at hsys
    exact repr_of_reads' rd (by simp [PyData.showable, PyData.showableKv]) (fun _ => by simpa using ne) g0 (by simp [PyData.depth, PyData.depthKv]; omega) (fun _ _ e => e) (fun h' v tk hk => fin h' v tk hk) (by decide +kernel)

theorem snd_repr {K : PySem.W.Frag} : SndN K (rRepr K) gRepr := by
  intro O H xs ds s Q dom hx hg q
  have go : ∀ {d : PyData}, ds = [d] → SeqAt.shaped d = true → ∀ z, s = .val (.str z) → rRepr K xs H Q := by
    rintro d rfl sh z rfl
    obtain ⟨x, rfl, h⟩ := hx.one
    exact ⟨x, d, z, rfl, .inl (h.dp sh), hg, okv dom q (.str _)⟩
  unfold gRepr at hg
  split at hg
  · cases hg
    exact go rfl rfl _ rfl
  · cases hg
    exact go rfl rfl _ rfl
  · split at hg
    · cases hg
      exact go rfl rfl _ rfl
    · cases hg
  · rename_i y
    split at hg
    · rename_i hy
      cases hg
      obtain ⟨x, rfl, h⟩ := hx.one
      have h' : Fz K O H (.str y) x := h
      cases h'
      exact ⟨_, .str y, _, rfl, .inl (.str y), by simp [gRepr, hy], okv dom q (.str _)⟩
    · cases hg
  · cases hg
    obtain ⟨x, rfl, h⟩ := hx.one
    have h' : Fz K O H (.dict []) x := h
    cases h' with
    | dct hr n hd =>
      cases hd
      exact ⟨_, .dict [], _, rfl, .inr ⟨_, _, rfl, rfl, hr⟩, rfl, okv dom q (.str _)⟩
  · split at hg
    · rename_i hh
      cases hg
      exact go rfl hh.2.1 _ rfl
    · cases hg
  · split at hg
    · rename_i hh
      cases hg
      exact go rfl hh.2.1 _ rfl
    · cases hg
  · cases hg
theorem RoomG.rp {k : Nat} {A : Around} (h : RoomG k A) : A.guards = some [] ∧ A.units + 66 < cLine := ⟨h.g, by have := h.r.un; omega⟩
theorem cr_repr {X : Cx} (h : X.A.guards = some [] ∧ X.A.units + 66 < cLine) : CallR X (.builtin "repr") (rRepr X.K) := call_repr h.1 h.2

/-! ### texts compared -/
def gEqX (neg : Bool) (d e : PyData) : Option Res := match d, e with
  | .str a, .str b => some (.val (.bool (if neg then !decide (a = b) else decide (a = b))))
  | d, e => gEq neg d e
def rEqA (K : PySem.W.Frag) : R2 := fun x y H Q => rEq x y H Q ∨ rEqD K x y H Q
def rNeA (K : PySem.W.Frag) : R2 := fun x y H Q => rNe x y H Q ∨ rNeD K x y H Q
theorem op_eqA {X : Cx} (hu : X.A.units + 64 < cLine) : OpR X (compareOp .Eq) (rEqA X.K) := OpR.or op_eq (op_eqD hu)
theorem op_neA {X : Cx} (hu : X.A.units + 64 < cLine) : OpR X (compareOp .NotEq) (rNeA X.K) := OpR.or op_ne (op_neD hu)
theorem decide_str (a b : Str) : decide (V.str a = V.str b) = decide (a = b) := by
  by_cases h : a = b
  · subst h; simp
  · rw [decide_eq_false h, decide_eq_false fun z => h (V.str.inj z)]
theorem snd_eqX {K : PySem.W.Frag} : Snd2 K (rEqA K) (gEqX false) := by
  intro O H x y d e s Q dom hx hy hg q
  unfold gEqX at hg
  split at hg
  · cases hg
    cases hx
    cases hy
    refine .inl ⟨rfl, ?_⟩
    rw [decide_str]
    exact okv dom q (.bl _)
  · exact .inr (snd_eq O H x y _ _ s Q dom hx hy hg q)
theorem snd_neX {K : PySem.W.Frag} : Snd2 K (rNeA K) (gEqX true) := by
  intro O H x y d e s Q dom hx hy hg q
  unfold gEqX at hg
  split at hg
  · cases hg
    cases hx
    cases hy
    refine .inl ⟨rfl, ?_⟩
    rw [decide_str]
    exact okv dom q (.bl _)
  · exact .inr (snd_ne O H x y _ _ s Q dom hx hy hg q)
/-- a statement that is not reached -/
def fNever : FS := fun _ => none
theorem fs_never {X : Cx} {np : Nat} {e c : Option Expr} {pos : Pos} : FSX X np (.Raise e c pos) fNever := by
  refine ⟨fun pins s σ H D I h => ?_⟩
  obtain ⟨W, Γ, vs, ds, o, c, e, q⟩ := h
  cases e
/-- three whole numbers -/
def gMax3 : List PyData → Option Res
  | [.int i, .int j, .int k] => some (.val (.int (max (max i j) k)))
  | _ => none
def gMin3 : List PyData → Option Res
  | [.int i, .int j, .int k] => some (.val (.int (min (min i j) k)))
  | _ => none
end Fx

end

/-! Fx22: sum of a tuple, max and min of three, calls by place and by names, comprehensions with two fors -/
noncomputable section
namespace Fx
open PySem PySem.Spec PyProof.Rows L2

/-! ### sum of a list, of a tuple -/
def rSumA (K : PySem.W.Frag) : List V → Hp → VK → Prop := fun vs H Q => rSum K vs H Q ∨ ∃ (a : Addr) (ns : List Int), vs = [V.ref a] ∧ SqT K H a (ns.map V.int) ∧ Q (.int ns.sum) H
theorem cr_sumA {X : Cx} (hc : X.calm = true) : CallR X (.builtin "sum") (rSumA X.K) := by
  intro pins s σ H vs us Q I r h
  rcases h with h | ⟨a, ns, rfl, hs, q⟩
  · exact cr_sum hc pins s σ H vs us Q I r h
  · obtain ⟨its, rv, p, _⟩ := I.tuple hs
    rw [Vals.ref1 r]
    have hi : IntsAre its ns := rv.ints
    obtain ⟨xs, e⟩ := hi.allInts.items
    have hn : numsOf (intItems xs).toList = ns := by
      rw [← e]
      exact hi.numsOf
    rw [nums_intItems] at hn
    rw [e] at p
    refine PySem.W.ktm_sumG (I.ok.hd hc) p ?_
    intro h' tk t' hk
    refine ⟨.int ns.sum, H, I.kept hk, ⟨t', ?_⟩, q⟩
    rw [preSum_eq, List.take_of_length_le (by simp), hn]
def gSumA : List PyData → Option Res
  | [.list ds] => (intsOf ds).map fun ns => .val (.int ns.sum)
  | [.tuple ds] => (intsOf ds).map fun ns => .val (.int ns.sum)
  | _ => none
theorem snd_sumA {K : PySem.W.Frag} : SndN K (rSumA K) gSumA := by
  intro O H xs ds s Q dom hx hg q
  unfold gSumA at hg
  split at hg
  · exact .inl (snd_sum O H xs _ s Q dom hx hg q)
  · obtain ⟨ns, e1, e2⟩ := Option.map_eq_some_iff.mp hg
    cases e2
    obtain ⟨x, rfl, h⟩ := hx.one
    obtain ⟨a, ys, rfl, ha, fa⟩ := Fz.sqT h
    rw [intsOf_to e1] at fa
    rw [fa.intsV] at ha
    exact .inr ⟨a, ns, rfl, ha, okv dom q (.int _)⟩
  · cases hg

/-! ### max, min of three whole numbers -/
theorem VwA.three {K : PySem.W.Frag} {O : Own} {H : Hp} {d e f : PyData} {xs : List V} (h : VwA K O H [d, e, f] xs) : ∃ x y z, xs = [x, y, z] ∧ Vw K O H d x ∧ Vw K O H e y ∧ Vw K O H f z := by
  cases h with
  | cons r1 t =>
    cases t with
    | cons r2 t =>
      cases t with
      | cons r3 t =>
        cases t
        exact ⟨_, _, _, rfl, r1, r2, r3⟩
theorem nuMax_int (i j k : Int) : nuMax3 (.int i) (.int j) (.int k) = some (.int (max (max i j) k)) := by
  have h2 : ∀ a b : Int, nuMax2 (.int a) (.int b) = some (.int (max a b)) := by
    intro a b
    show (some (decide (a < b))).map (fun c => if c = true then V.int b else V.int a) = _
    by_cases h : a < b
    · rw [decide_eq_true h, Int.max_eq_right (by omega)]
      rfl
    · rw [decide_eq_false h, Int.max_eq_left (by omega)]
      rfl
  show (nuMax2 (.int i) (.int j)).bind (fun m => nuMax2 m (.int k)) = _
  rw [h2]
  exact h2 _ _
theorem nuMin_int (i j k : Int) : nuMin3 (.int i) (.int j) (.int k) = some (.int (min (min i j) k)) := by
  have h2 : ∀ a b : Int, nuMin2 (.int a) (.int b) = some (.int (min a b)) := by
    intro a b
    show (some (decide (b < a))).map (fun c => if c = true then V.int b else V.int a) = _
    by_cases h : b < a
    · rw [decide_eq_true h, Int.min_eq_right (by omega)]
      rfl
    · rw [decide_eq_false h, Int.min_eq_left (by omega)]
      rfl
  show (nuMin2 (.int i) (.int j)).bind (fun m => nuMin2 m (.int k)) = _
  rw [h2]
  exact h2 _ _
theorem snd_max3 {K : PySem.W.Frag} : SndN K (rNuC3 nuMax3) gMax3 := by
  intro O H xs ds s Q dom hx hg q
  unfold gMax3 at hg
  split at hg
  · cases hg
    obtain ⟨x, y, z, rfl, h1, h2, h3⟩ := hx.three
    cases h1
    cases h2
    cases h3
    exact ⟨_, _, _, _, rfl, nuMax_int _ _ _, okv dom q (.int _)⟩
  · cases hg
theorem snd_min3 {K : PySem.W.Frag} : SndN K (rNuC3 nuMin3) gMin3 := by
  intro O H xs ds s Q dom hx hg q
  unfold gMin3 at hg
  split at hg
  · cases hg
    obtain ⟨x, y, z, rfl, h1, h2, h3⟩ := hx.three
    cases h1
    cases h2
    cases h3
    exact ⟨_, _, _, _, rfl, nuMin_int _ _ _, okv dom q (.int _)⟩
  · cases hg

/-! ### calls by place and by names -/
section
variable {X : Cx} {np k : Nat} {st : Stmt} {ps ks : List Str} {x : Str} {p pos : Pos} {e : Expr} {es : List Expr} {F : FF} {fs fk : FA} {kws : List Keyword}
theorem kwP_run {f : Addr} {fd : FuncData} {sp : Sp} {t tk : TA} {g : List Value → List Value → List Value} {gV : List V → List V → List V} (G : FnG X.prog X.w X.K X.mg X.base k f fd ps sp) (hr : RoomG k X.A) (hg : Gl X x) (hm : X.mg x = some (.ref f)) (hk : PySem.W.keepIn X.K (.ref f) = true) (hb : KBinds X.K fd ps ks g gV)
    (ha : PA X (e :: es) t) (hkw : PK X kws tk) (hall : (backToKw pos (keywordEach kws X.env)).all (·.1.isSome) = true) (hks : (backToKw pos (keywordEach kws X.env)).filterMap (·.1) = ks) (hdb : (x == ("__debug__" : Str)) = false) (he : starEach (e :: es) X.env = (false, eval e X.env) :: starEach es X.env)
    (hpl : ((backTo pos (starEach (e :: es) X.env)).any (·.1) || (backToKw pos (keywordEach kws X.env)).any (·.1.isNone)) = false) : PE X (.Call (.Name x p) (e :: es) kws pos) (fun σ H Q => t σ H fun vs H1 => tk σ H1 fun zs H2 => sp (gV vs zs) H2 Q E0) := by
  constructor
  intro pins s σ H Q I h
  apply wpAny_Call_Name_kw
  apply ld_glob I hg hm _ hdb
  refine PySem.W.callWith_KW (h₀ := X.base) I.ok.mod.kin hk hall (thn (ha.run pos pins s σ H _ I h) ?_) hpl he
  rintro us s1 ⟨vs, H1, I1, r, q⟩
  refine thn (hkw.run pos pins s1 σ H1 _ I1 q) ?_
  rintro ws s2 ⟨zs, H2, I2, rz, q2⟩
  refine ⟨I2.kIn, ?_⟩
  rw [hks]
  exact callGk G hr hb I2 r rz q2
/-- n arguments by place, m by names; js: where each parameter is found -/
def fCallP (F : FF) (n m : Nat) (js : List Nat) (fs fk : FA) : FE := fun Γ => (fs Γ).bind fun p => (fk p.2).bind fun q => if p.1.length = n ∧ q.1.length = m ∧ permOk js (p.1 ++ q.1) = true ∧ (als (perm js (p.1 ++ q.1))).Nodup then
  (argsOf q.2 (perm js (p.1 ++ q.1))).bind fun ms => (F ms).bind fun r => (putArgs (perm js (p.1 ++ q.1)) r.2 q.2).map fun Γ' => (.md r.1, Γ') else none
theorem fx_callP {n m : Nat} {js : List Nat} (D : Def X.prog X.w X.K X.mg X.base k x st ps F) (hr : RoomG k X.A) (h0 : 0 < ps.length)
    (hb : ∀ (kV doc pm : Value) (an : Option Addr) (cdv ct : Value) (us ws : List Value), us.length = n → ws.length = m → bindArgs (PySem.W.fnOf x x (defArgs st) (defBody st) (defScope st) .none kV doc pm an cdv ct) ⟨us, ks.zip ws⟩ = pure (ps.zip (js.map fun j => (us ++ ws).getD j .none)))
    (ha : FAX X np (e :: es) fs) (hkw : FKX X np kws fk) (hall : (backToKw pos (keywordEach kws X.env)).all (·.1.isSome) = true := by rfl) (hks : (backToKw pos (keywordEach kws X.env)).filterMap (·.1) = ks := by rfl) (hg : Gl X x := by rfl) (hdb : (x == ("__debug__" : Str)) = false := by decide)
    (he : starEach (e :: es) X.env = (false, eval e X.env) :: starEach es X.env := by rfl)
    (hpl : ((backTo pos (starEach (e :: es) X.env)).any (·.1) || (backToKw pos (keywordEach kws X.env)).any (·.1.isNone)) = false := by rfl) : FX X np (.Call (.Name x p) (e :: es) kws pos) (fCallP F n m js fs fk) := by
  obtain ⟨⟨f, fd, Fn, G, hm⟩, bd⟩ := D
  have hkb : KBinds X.K fd ps ks (gK n m js) (gKV n m js) := by
    obtain ⟨oc, od, kV, doc, pm, an, cdv, ct, osl, rfl, _, _⟩ := Fn.ex
    exact kbinds h0 (hb kV doc pm an cdv ct)
  refine PE.weak (kwP_run G hr hg hm Fn.kp hkb ha hkw hall hks hdb he hpl) fun σ H Q h => ?_
  obtain ⟨W, Γ, vs, ts, t, Γ', c, e, q⟩ := h
  obtain ⟨⟨us, Γ1⟩, e1, e⟩ := Option.bind_eq_some_iff.mp e
  obtain ⟨⟨ws, Γ2⟩, e2, e⟩ := Option.bind_eq_some_iff.mp e
  dsimp only at e
  split at e
  · rename_i hh
    obtain ⟨ms, e3, e⟩ := Option.bind_eq_some_iff.mp e
    obtain ⟨⟨r, ms'⟩, e4, e⟩ := Option.bind_eq_some_iff.mp e
    obtain ⟨Γ3, e5, e⟩ := Option.map_eq_some_iff.mp e
    cases e
    refine ⟨W, Γ, vs, ts, us, Γ1, c, e1, fun xs H1 c1 el => ⟨W, Γ1, _, _, ws, Γ2, c1, e2, fun zs H2 c2 el2 => ?_⟩⟩
    obtain ⟨O, c2⟩ := c2
    have c2' : Cf X.K np W O σ H2 Γ2 ((xs ++ zs).reverse ++ vs) ((us ++ ws).reverse ++ ts) := by
      rw [List.reverse_append, List.reverse_append, List.append_assoc, List.append_assoc]
      exact c2
    obtain ⟨pr, c3⟩ := c2'.args (by simp [el, el2])
    have eV : gKV n m js xs zs = js.map fun j => (xs ++ zs).getD j .non := by
      unfold gKV
      rw [if_pos ⟨by rw [el]; exact hh.1, by rw [el2]; exact hh.2.1⟩]
    rw [eV]
    exact callF c3 (perm_pair pr js hh.2.2.1) hh.2.2.2 e3 e4 e5 q
  · cases e
end
end Fx

end

/-! Fx23: comprehensions with two fors -/
noncomputable section
namespace Fx
open PySem PySem.Spec PyProof.Rows L2

def loopM (tg : FG) (tt : FT) (fi1 : FI) (tg1 : FG) (tt1 : FT) (fe : FE) (own own1 : List Nat) : List PyData → List PyData → Gm → Option (List PyData × Gm)
  | [], acc, Γ => some (acc, Γ)
  | d :: r, acc, Γ => (tg d Γ).bind fun Γ1 => (tt Γ1).bind fun p => if p.1 = true then (fi1 p.2).bind fun q => if noOwn q.2 own1 = true then (loopL tg1 tt1 fe own1 q.1 acc (fgt q.2 own1)).bind fun z => if noOwn z.2 own = true then loopM tg tt fi1 tg1 tt1 fe own own1 r z.1 (fgt z.2 own) else none else none
    else if noOwn p.2 own = true then loopM tg tt fi1 tg1 tt1 fe own own1 r acc (fgt p.2 own) else none
def fLc2 (ow : Bool) (fi : FI) (tg : FG) (tt : FT) (fi1 : FI) (tg1 : FG) (tt1 : FT) (fe : FE) (own own1 : List Nat) : FE := fun Γ => (fi Γ).bind fun p => if noOwn p.2 own = true then (loopM tg tt fi1 tg1 tt1 fe own own1 p.1 [] (fgt p.2 own)).map fun q => ((Res.new q.1).fin ow, fgt q.2 own) else none
section
variable {X : Cx} {np : Nat} {pos : Pos} {is is1 : List Nat}
theorem lc2_read {ow : Bool} {fi fi1 : FI} {g g1 : FG} {tt tt1 : FT} {fe : FE} {own own1 : List Nat} (hsub : ∀ i ∈ is, i ∈ own) (hsub1 : ∀ i ∈ is1, i ∈ own1) (h10 : ∀ i ∈ own1, i ∈ own) {σ : L2.St} {H : Hp} {Q : VK} (h : up X.K np (fLc2 ow fi g tt fi1 g1 tt1 fe own own1) σ H Q) :
    tLc2 (upI X.K np fi) (upG X.K np is g) (upT X.K np tt) (upI X.K np fi1) (upG X.K np is1 g1) (upT X.K np tt1) (up X.K np fe) own own1 σ H Q := by
  obtain ⟨W, Γ, vs, ts, t, Γ', c, e, q⟩ := h
  obtain ⟨⟨items, Γ1⟩, e1, e⟩ := Option.bind_eq_some_iff.mp e
  dsimp only at e
  split at e
  · rename_i hno
    obtain ⟨⟨out, Γ9⟩, e9, ex⟩ := Option.map_eq_some_iff.mp e
    cases ex
    have hw : ∀ j, j ∉ own → (L2.wipe σ own)[j]? = σ[j]? := fun j hj => wipe_at hj
    refine ⟨W, Γ, vs, ts, items, Γ1, c, e1, fun J O1 H1 c1 itf D hD => ?_⟩
    refine ⟨fun i m H => i + m = items.length ∧ ∃ acc Γi, Cfg X.K np (W.at O1 H1) (L2.wipe σ own) H Γi (.ref D :: vs) (.md (.lst acc) :: ts) ∧ (∀ j, j ∈ own → ownAt Γi j = false) ∧ loopM g tt fi1 g1 tt1 fe own own1 (items.drop i) acc Γi = some (out, Γ9), ⟨items.length, by simp, [], fgt Γ1 own, ?_, ownAt_fgt, e9⟩, ?_⟩
    · have a := Ev.newOwn (o := .lst []) (t := .tmp ts.length) (by simp) c1.dom hD
      have c2 := (c1.rebase.ev0 a).push (v := .ref D) (t := .md (.lst [])) ⟨D, [], rfl, put_same, upd_same, .nil⟩
      exact ⟨_, c2.inBlk own (L2.wipe_length _ _) hw (noOwn_to hno)⟩
    · rintro i m H ⟨hl, acc, Γi, ⟨O, ci⟩, hoi, ei⟩
      obtain ⟨s1, s2⟩ := itf.step i ci
      cases m with
      | zero =>
        have hi' : items.length ≤ i := by omega
        rw [List.drop_eq_nil_of_le hi'] at ei
        cases ei
        refine .inl ⟨s2 hi', ?_⟩
        have c3 := ci.inBlk (σ' := σ) own (L2.wipe_length _ _).symm (fun j hj => (hw j hj).symm) hoi
        have c4 := c1.unbase c3
        cases ow with
        | true => exact q _ H ⟨_, c4⟩
        | false => exact q _ H (c4.frzTop rfl)
      | succ m =>
        have hi' : i < items.length := by omega
        have ed : items[i]? = some items[i] := List.getElem?_eq_getElem hi'
        obtain ⟨go, y⟩ := s1 _ ed
        rw [List.drop_eq_getElem_cons hi'] at ei
        obtain ⟨Γ2, e2, ei⟩ := Option.bind_eq_some_iff.mp ei
        obtain ⟨⟨b, Γ3⟩, e3, ei⟩ := Option.bind_eq_some_iff.mp ei
        refine .inr ⟨go, fun H => ∃ acc Γi, Cfg X.K np (W.at O1 H1) (L2.wipe σ own) H Γi (.ref D :: vs) (.md (.lst acc) :: ts) ∧ (∀ j, j ∈ own → ownAt Γi j = false) ∧ loopM g tt fi1 g1 tt1 fe own own1 (items.drop (i + 1)) acc Γi = some (out, Γ9), fun H' w => ⟨m, Nat.lt_succ_self _, by omega, w⟩, fun x H2 hy => ?_⟩
        refine ⟨W.at O1 H1, Γi, _, _, _, Γ2, y x H2 hy, e2, fun σ3 H3 c3 off => ?_⟩
        have hoff : ∀ j, j ∉ own → (L2.wipe σ own)[j]? = σ3[j]? := fun j hj => (off.2 j fun z => hj (hsub j z)).symm
        have hlen : (L2.wipe σ own).length = σ3.length := off.1.symm
        refine ⟨by rw [wipe_ext (σ := L2.wipe σ own) hlen.symm fun j hj => (hoff j hj).symm, wipe_wipe], ?_⟩
        refine ⟨W.at O1 H1, Γ2, _, _, b, Γ3, c3, e3, fun H4 c4 => ?_⟩
        cases b with
        | false =>
          refine iteF ?_
          dsimp only at ei
          rw [if_neg (by simp)] at ei
          split at ei
          · rename_i hno3
            obtain ⟨O4, c4⟩ := c4
            exact ⟨acc, fgt Γ3 own, ⟨O4, c4.inBlk own hlen hoff (noOwn_to hno3)⟩, ownAt_fgt, ei⟩
          · cases ei
        | true =>
          dsimp only at ei
          rw [if_pos rfl] at ei
          obtain ⟨⟨items1, Γ5⟩, e5, ei⟩ := Option.bind_eq_some_iff.mp ei
          dsimp only at ei
          split at ei
          · rename_i hno5
            obtain ⟨⟨out1, Γ8⟩, e8, ei⟩ := Option.bind_eq_some_iff.mp ei
            dsimp only at ei
            split at ei
            · rename_i hno8
              refine iteT ⟨W.at O1 H1, Γ3, _, _, items1, Γ5, c4, e5, fun J1 O5 H5 c5 itf1 => ?_⟩
              have hw1 : ∀ j, j ∉ own1 → (L2.wipe σ3 own1)[j]? = σ3[j]? := fun j hj => wipe_at hj
              refine ⟨fun j k H => j + k = items1.length ∧ ∃ acc Γi, Cfg X.K np ((W.at O1 H1).at O5 H5) (L2.wipe σ3 own1) H Γi (.ref D :: vs) (.md (.lst acc) :: ts) ∧ (∀ j, j ∈ own1 → ownAt Γi j = false) ∧ loopL g1 tt1 fe own1 (items1.drop j) acc Γi = some (out1, Γ8),
                ⟨items1.length, by simp, acc, fgt Γ5 own1, ⟨_, c5.rebase.inBlk own1 (L2.wipe_length _ _) hw1 (noOwn_to hno5)⟩, ownAt_fgt, e8⟩, ?_⟩
              rintro j k H6 ⟨hl1, acc1, Γj, ⟨O6, cj⟩, hoj, ej⟩
              obtain ⟨s3, s4⟩ := itf1.step j cj
              cases k with
              | zero =>
                have hj' : items1.length ≤ j := by omega
                rw [List.drop_eq_nil_of_le hj'] at ej
                cases ej
                refine .inl ⟨s4 hj', ?_⟩
                have c7 := c5.unbase cj
                refine ⟨_, _, ⟨O6, c7.inBlk (σ' := L2.wipe σ own) own ?_ ?_ (noOwn_to hno8)⟩, ownAt_fgt, ei⟩
                · rw [hlen, L2.wipe_length]
                · intro j' hj'
                  rw [hoff j' hj', wipe_at fun z => hj' (h10 j' z)]
              | succ k =>
                have hj' : j < items1.length := by omega
                have ed1 : items1[j]? = some items1[j] := List.getElem?_eq_getElem hj'
                obtain ⟨go1, y1⟩ := s3 _ ed1
                rw [List.drop_eq_getElem_cons hj'] at ej
                obtain ⟨Γa, ea, ej⟩ := Option.bind_eq_some_iff.mp ej
                obtain ⟨⟨b1, Γb⟩, eb, ej⟩ := Option.bind_eq_some_iff.mp ej
                refine .inr ⟨go1, fun H => ∃ acc Γi, Cfg X.K np ((W.at O1 H1).at O5 H5) (L2.wipe σ3 own1) H Γi (.ref D :: vs) (.md (.lst acc) :: ts) ∧ (∀ j, j ∈ own1 → ownAt Γi j = false) ∧ loopL g1 tt1 fe own1 (items1.drop (j + 1)) acc Γi = some (out1, Γ8), fun H' w => ⟨k, Nat.lt_succ_self _, by omega, w⟩, fun x1 H7 hy1 => ?_⟩
                refine ⟨(W.at O1 H1).at O5 H5, Γj, _, _, _, Γa, y1 x1 H7 hy1, ea, fun σ4 H8 c8 off1 => ?_⟩
                have hoff1 : ∀ j, j ∉ own1 → (L2.wipe σ3 own1)[j]? = σ4[j]? := fun j hj => (off1.2 j fun z => hj (hsub1 j z)).symm
                have hlen1 : (L2.wipe σ3 own1).length = σ4.length := off1.1.symm
                refine ⟨by rw [wipe_ext (σ := L2.wipe σ3 own1) hlen1.symm fun j hj => (hoff1 j hj).symm, wipe_wipe], ?_⟩
                refine ⟨(W.at O1 H1).at O5 H5, Γa, _, _, b1, Γb, c8, eb, fun H9 c9 => ?_⟩
                cases b1 with
                | false =>
                  refine iteF ?_
                  dsimp only at ej
                  rw [if_neg (by simp)] at ej
                  split at ej
                  · rename_i hnob
                    obtain ⟨O9, c9⟩ := c9
                    exact ⟨acc1, fgt Γb own1, ⟨O9, c9.inBlk own1 hlen1 hoff1 (noOwn_to hnob)⟩, ownAt_fgt, ej⟩
                  · cases ej
                | true =>
                  dsimp only at ej
                  rw [if_pos rfl] at ej
                  obtain ⟨⟨t5, Γc⟩, ec, ej⟩ := Option.bind_eq_some_iff.mp ej
                  obtain ⟨yd, e6, ej⟩ := Option.bind_eq_some_iff.mp ej
                  dsimp only at ej
                  split at ej
                  · rename_i hnoc
                    refine iteT ⟨(W.at O1 H1).at O5 H5, Γb, _, _, t5, Γc, c9, ec, fun y H10 c10 => ?_⟩
                    obtain ⟨O10, c10⟩ := c10
                    obtain ⟨a, ws, ea, oa, ha, fa⟩ := c10.pop.top
                    cases ea
                    have ry : Fz X.K O10 H10 yd y := by
                      have := c10.top
                      have e6' : t5 = .md (.dat yd) := frz_to e6
                      rw [e6'] at this
                      exact this
                    refine ⟨ws, ha, by rw [← fa.length]; exact hnoc.1, acc1 ++ [yd], fgt Γc own1, ?_, ownAt_fgt, ej⟩
                    have w := Ev.write (o := .lst (ws ++ [y])) c10.dom oa
                    have c11 := c10.pop.pop.ev w (by simp) (by simp) (fun k z => by injection z with z; omega)
                    have c12 := c11.push (v := .ref D) (t := .md (.lst (acc1 ++ [yd]))) ⟨D, ws ++ [y], rfl, oa, upd_same, (FzA.kp w.k _ _ fa).append (.cons (Fz.kp w.k _ _ ry) .nil)⟩
                    exact ⟨_, c12.inBlk own1 hlen1 hoff1 (noOwn_to hnoc.2)⟩
                  · cases ej
            · cases ei
          · cases ei
  · cases e
theorem fx_lc2 {ow : Bool} {elt tg iter tg1 iter1 : Expr} {ifs ifs1 : List Expr} {scope : Scope} {own : List (Str × Nat)} {own1 : List Nat} {fi fi1 : FI} {g g1 : FG} {tt tt1 : FT} {fe : FE} (hc : X.calm = true) (hN : X.N.Nodup) (hi : FIX X np tg iter fi) (ok : BlkOk X.N X.env.scope scope own)
    (hg : ∀ (s : Shared) (H : Hp) (C : Addr) (cl : List (Str × Addr)) (fp : List Addr), FGX (X.blk s H scope (compEnvC scope cl C X.env) fp) np is tg g) (ht : ∀ (s : Shared) (H : Hp) (C : Addr) (cl : List (Str × Addr)) (fp : List Addr), FTsX (X.blk s H scope (compEnvC scope cl C X.env) fp) np ifs tt)
    (hi1 : ∀ (s : Shared) (H : Hp) (C : Addr) (cl : List (Str × Addr)) (fp : List Addr), FIX (X.blk s H scope (compEnvC scope cl C X.env) fp) np tg1 iter1 fi1)
    (hg1 : ∀ (s : Shared) (H : Hp) (C : Addr) (cl : List (Str × Addr)) (fp : List Addr), FGX (X.blk s H scope (compEnvC scope cl C X.env) fp) np is1 tg1 g1) (ht1 : ∀ (s : Shared) (H : Hp) (C : Addr) (cl : List (Str × Addr)) (fp : List Addr), FTsX (X.blk s H scope (compEnvC scope cl C X.env) fp) np ifs1 tt1)
    (he : ∀ (s : Shared) (H : Hp) (C : Addr) (cl : List (Str × Addr)) (fp : List Addr), FX (X.blk s H scope (compEnvC scope cl C X.env) fp) np elt fe) (hsub : ∀ i ∈ is, i ∈ own.map (·.2) := by decide) (hsub1 : ∀ i ∈ is1, i ∈ own1 := by decide) (h10 : ∀ i ∈ own1, i ∈ own.map (·.2) := by decide)
    (hs : ∀ x, foldedSetIterable iter X.env x = pure x := by intro _; rfl) (hs1 : ∀ env x, foldedSetIterable iter1 env x = pure x := by intro _ _; rfl) :
    FX X np (.ListComp elt [⟨tg, iter, ifs, 0⟩, ⟨tg1, iter1, ifs1, 0⟩] scope pos) (fLc2 ow fi g tt fi1 g1 tt1 fe (own.map (·.2)) own1) :=
  PE.weak (pe_lc2 (wi1 := upI X.K np fi1) (g := upG X.K np is g) (tt := upT X.K np tt) (g1 := upG X.K np is1 g1) (tt1 := upT X.K np tt1) (te := up X.K np fe) hc hN hi ok h10 hg ht hi1 hg1 ht1 he hs hs1) fun _ _ _ h => lc2_read hsub hsub1 h10 h
/-- y = [.. for .. for ..] on one line -/
theorem fs_setLc2 {ow : Bool} {i : Nat} {y : Str} {py : Pos} {elt tg iter tg1 iter1 : Expr} {ifs ifs1 : List Expr} {scope : Scope} {own : List (Str × Nat)} {own1 : List Nat} {spos : Pos} {fi fi1 : FI} {g g1 : FG} {tt tt1 : FT} {fe : FE} (hc : X.calm = true) (hN : X.N.Nodup) (hyl : X.env.scope.names.lookup y = some .local)
    (hsw : swapsWith (.ListComp elt [⟨tg, iter, ifs, 0⟩, ⟨tg1, iter1, ifs1, 0⟩] scope pos) (some (.Name y py)) spos.line X.env = pure true) (hi : FIX X np tg iter fi) (ok : BlkOk X.N X.env.scope scope own)
    (hg : ∀ (s : Shared) (H : Hp) (C : Addr) (cl : List (Str × Addr)) (fp : List Addr), FGX (X.blk s H scope (compEnvC scope cl C X.env) fp) np is tg g) (ht : ∀ (s : Shared) (H : Hp) (C : Addr) (cl : List (Str × Addr)) (fp : List Addr), FTsX (X.blk s H scope (compEnvC scope cl C X.env) fp) np ifs tt)
    (hi1 : ∀ (s : Shared) (H : Hp) (C : Addr) (cl : List (Str × Addr)) (fp : List Addr), FIX (X.blk s H scope (compEnvC scope cl C X.env) fp) np tg1 iter1 fi1)
    (hg1 : ∀ (s : Shared) (H : Hp) (C : Addr) (cl : List (Str × Addr)) (fp : List Addr), FGX (X.blk s H scope (compEnvC scope cl C X.env) fp) np is1 tg1 g1) (ht1 : ∀ (s : Shared) (H : Hp) (C : Addr) (cl : List (Str × Addr)) (fp : List Addr), FTsX (X.blk s H scope (compEnvC scope cl C X.env) fp) np ifs1 tt1)
    (he : ∀ (s : Shared) (H : Hp) (C : Addr) (cl : List (Str × Addr)) (fp : List Addr), FX (X.blk s H scope (compEnvC scope cl C X.env) fp) np elt fe) (hy : X.N[i]? = some y := by rfl) (hsub : ∀ i ∈ is, i ∈ own.map (·.2) := by decide) (hsub1 : ∀ i ∈ is1, i ∈ own1 := by decide) (h10 : ∀ i ∈ own1, i ∈ own.map (·.2) := by decide)
    (hs : ∀ x, foldedSetIterable iter X.env x = pure x := by intro _; rfl) (hs1 : ∀ env x, foldedSetIterable iter1 env x = pure x := by intro _ _; rfl) :
    FSX X np (.Assign [.Name y py] (.ListComp elt [⟨tg, iter, ifs, 0⟩, ⟨tg1, iter1, ifs1, 0⟩] scope pos) spos) (fSet np i (fLc2 ow fi g tt fi1 g1 tt1 fe (own.map (·.2)) own1)) := by
  refine PS.weak (ps_setLc2 (wi1 := upI X.K np fi1) (g := upG X.K np is g) (tt := upT X.K np tt) (g1 := upG X.K np is1 g1) (tt1 := upT X.K np tt1) (te := up X.K np fe) hc hN hy hyl hsw hi ok h10 hg ht hi1 hg1 ht1 he hs hs1) fun D σ H h => ?_
  obtain ⟨W, Γ, vs, ds, o, c, e, q⟩ := h
  obtain ⟨⟨t, Γ1⟩, e1, e⟩ := Option.bind_eq_some_iff.mp e
  refine lc2_read (np := np) (ow := ow) hsub hsub1 h10 ⟨W, Γ, vs, tsd ds, t, Γ1, c, e1, fun v H1 c1 => ?_⟩
  obtain ⟨O, c1⟩ := c1
  cases t with
  | md m =>
    dsimp only at e
    split at e
    · cases e
    · rename_i hm
      cases e
      exact q _ _ (c1.store hm)
  | al j => cases e
end
end Fx

end

/-! Fx24: numbers of the module, {} that nobody changes -/
noncomputable section
namespace Fx
open PySem PySem.Spec PyProof.Rows L2

theorem mg_int {K : PySem.W.Frag} {h : Heap} {mg : Str → Option Value} {x : Str} {n : Int} {t : Tok} (X : K.In h) (G : h.Ns mainGlobals mg) (e : PySem.W.nsIn K mainGlobals x = some (some (.int n t))) : ∃ t, mg x = some (.int n t) := ⟨t, PySem.W.mg_of X G e⟩
/-- a def without a meaning -/
theorem fnG_none {P : Program} {w : World} {K : PySem.W.Frag} {mg : Str → Option Value} {base : Heap} {k : Nat} {f : Addr} {fd : FuncData} {ps : List Str} : FnG P w K mg base k f fd ps (spF K fun _ => none) :=
  ⟨fun vs H Q E h => (let ⟨_, _, _, _, _, _, _, _, e, _⟩ := h; by cases e), fun _ _ _ _ h => (let ⟨_, _, _, _, _, _, _, _, e, _⟩ := h; by cases e)⟩
section
variable {X : Cx} {np : Nat} {pos : Pos} {e : Expr} {f : FE}
/-- a whole number that the module names -/
theorem fx_globI {x : Str} {n : Int} (hg : Gl X x) (h : ∃ t, X.mg x = some (.int n t)) (hd : (x == ("__debug__" : Str)) = false := by decide) : FX X np (.Name x pos) (fC (.int n)) := by
  obtain ⟨t, h⟩ := h
  exact fx_glob (v := .int n) hg h ⟨t, rfl⟩ (fun _ _ => .int _) hd
theorem PE.lockE {t : TE} (h : PE X e t) : PE X e (fun σ H Q => t σ H fun v H1 => Q v H1 ∨ ∃ d kvs, v = .ref d ∧ H1 d = some (.dK kvs) ∧ ∀ od, Q (.ref d) (upd H1 d (.frz od (.dK kvs)))) := by
  refine ⟨fun pins s σ H Q I hw => thn (h.run pins s σ H _ I hw) ?_⟩
  rintro u s1 ⟨v, H1, I1, r, q⟩
  rcases q with q | ⟨d, kvs, rfl, hd, q⟩
  · exact ⟨v, H1, I1, r, q⟩
  · obtain ⟨od, I2⟩ := I1.lock hd True.intro
    exact ⟨.ref d, _, I2, r, q od⟩
def fFrzE (f : FE) : FE := fun Γ => (f Γ).bind fun p => match p.1 with
  | .md (.dcK kvs) => some (.md (.dat (.dict (pairsD kvs))), p.2)
  | _ => none
theorem fx_frzE (h : FX X np e f) : FX X np e (fFrzE f) := by
  refine PE.weak (PE.lockE h) fun σ H Q h => ?_
  obtain ⟨W, Γ, vs, ts, t, Γ', c, e, q⟩ := h
  obtain ⟨⟨t1, Γ1⟩, e1, e⟩ := Option.bind_eq_some_iff.mp e
  dsimp only at e
  split at e
  · rename_i kvs
    cases e
    refine ⟨W, Γ, vs, ts, _, _, c, e1, fun v H1 c1 => .inr ?_⟩
    obtain ⟨O, c1⟩ := c1
    obtain ⟨a, ws, rfl, oa, ha, pd⟩ := c1.top
    refine ⟨a, ws, rfl, ha, fun od => q _ _ ?_⟩
    have w := Ev.write (o := .frz od (.dK ws)) c1.dom oa
    have ev : Ev (· = .tmp ts.length) O H1 (retag O (.tmp ts.length) none) (upd H1 a (.frz od (.dK ws))) := w.trans (Ev.retag (by simp) w.dom)
    have c2 := c1.pop.ev ev (by simp) (by simp) (fun k z => by injection z with z; omega)
    exact ⟨_, c2.push (v := .ref a) (t := .md (.dat (.dict (pairsD kvs)))) (.dct upd_same (retag_of oa) (pd.kp ev.k).frz)⟩
  · cases e
end
end Fx

end

/-! Fx25: tuples times whole numbers, also none, once, less -/
noncomputable section
namespace Fx
open PySem PySem.Spec PyProof.Rows L2

theorem tmul_same (l : Addr) (items : Array Value) (n : Nat) (dd : Option Addr) (sl : Array (Option Value)) (x : Int) (u : Tok) (c0 : (decide (x < -(2 ^ 63)) || decide (x ≥ 2 ^ 63)) = false) (c1 : (items.isEmpty || x == 1) = true) :
    Meets (Builtin.«tuple.__mul__» ⟨[.ref l, .int x u], []⟩) (fun _ R s => s.heap.get? l = some { cls := .type "tuple", dict := dd, data := .seq items n, slots := sl } ∧ R (.ok (.ret (.ref l))) s) :=
  .of_wp fun prog w A R s h => by
    obtain ⟨hp, g, d, tk, os⟩ := s
    obtain ⟨hl, h⟩ := h
    have f1 := AutoSeq1.idx_int
    wp_walk using wpAny_loadPart' hl
    repeat (first
      | (refine wpAny_ite_false (decide_eq_false (by rw [c0]; exact Bool.false_ne_true)) ?_; wp_walk using wpAny_loadPart' hl)
      | (refine wpAny_ite_true (decide_eq_true c1) ?_; wp_walk using wpAny_loadPart' hl))
    exact ⟨_, rfl, h⟩
theorem tmul_none (l : Addr) (items : Array Value) (n : Nat) (dd : Option Addr) (sl : Array (Option Value)) (x : Int) (u : Tok) (c0 : (decide (x < -(2 ^ 63)) || decide (x ≥ 2 ^ 63)) = false) (c1 : (items.isEmpty || x == 1) = false) (c2 : (decide (x ≤ 0) || items.isEmpty) = true) :
    Meets (Builtin.«tuple.__mul__» ⟨[.ref l, .int x u], []⟩) (fun _ R s => s.heap.get? l = some { cls := .type "tuple", dict := dd, data := .seq items n, slots := sl } ∧
      R (.ok (.ret (Value.ref s.heap.objs.size))) { s with heap := s.heap.push { cls := Value.type "tuple", data := Data.seq #[] }, toks := s.toks }) :=
  .of_wp fun prog w A R s h => by
    obtain ⟨hp, g, d, tk, os⟩ := s
    obtain ⟨hl, h⟩ := h
    have f1 := AutoSeq1.idx_int
    wp_walk using wpAny_loadPart' hl
    repeat (first
      | (refine wpAny_ite_false (decide_eq_false (by rw [c0]; exact Bool.false_ne_true)) ?_; wp_walk using wpAny_loadPart' hl)
      | (refine wpAny_ite_false (decide_eq_false (by rw [c1]; exact Bool.false_ne_true)) ?_; wp_walk using wpAny_loadPart' hl)
      | (refine wpAny_ite_true (decide_eq_true c2) ?_; wp_walk using wpAny_loadPart' hl))
    exact ⟨_, rfl, h⟩
def rRepS (K : PySem.W.Frag) : R2 := fun x y H Q => ∃ l k xs, x = .ref l ∧ y = .int k ∧ SqT K H l xs ∧ -(2 ^ 63) ≤ k ∧ k < 2 ^ 63 ∧ (xs = [] ∨ k = 1) ∧ Q (.ref l) H
def rRepN (K : PySem.W.Frag) : R2 := fun x y H Q => ∃ l k xs, x = .ref l ∧ y = .int k ∧ SqT K H l xs ∧ -(2 ^ 63) ≤ k ∧ k ≤ 0 ∧ xs ≠ [] ∧ ∀ p, H p = none → Q (.ref p) (upd H p (.tup []))
section
variable {X : Cx}
theorem op_repS : OpR X (binaryOp .Mult) (rRepS X.K) := by
  intro pins s σ H x y v u Q I rx ry h
  obtain ⟨l, k, xs, rfl, rfl, hT, h1, h2, hh, q⟩ := h
  cases rx
  obtain ⟨t, rfl⟩ := ry
  obtain ⟨its, r, ⟨⟨cls, dd, data, sl⟩, ho, hc, n, hd⟩, hs⟩ := I.tuple hT
  simp only at hc hd
  subst hc hd
  have c0 : (decide (k < -(2 ^ 63)) || decide (k ≥ 2 ^ 63)) = false := by
    rw [decide_eq_false (by omega), decide_eq_false (by omega)]
    rfl
  have c1 : (its.toArray.isEmpty || k == 1) = true := by
    rcases hh with rfl | rfl
    · cases r
      rfl
    · simp
  refine wpAny_binaryOp_repeat_ref (T := "tuple") (U := "int") (by decide) ⟨_, ho, rfl⟩ (fun s' => typeIs_int s' k t) noFill_tuple_mul F.fills_int_mul F.slot_int_rmul repeat_tuple F.slot_int_index.lookup
    (call_meets F.slot_int_rmul (typeIs_int s k t) F.entry_int_rmul (F.args_int_rmul_2 _ _) (int_rmul_tuple k t l its.toArray n dd sl)
      ⟨ho, rfl, ⟨_, ho, rfl⟩, call_meets F.slot_tuple_mul ⟨_, ho, rfl⟩ F.entry_tuple_mul (F.args_tuple_mul_2 _ _) (tmul_same l its.toArray n dd sl k t c0 c1) ⟨ho, ?_⟩⟩)
  exact ⟨.ref l, H, I, rfl, q⟩
theorem op_repN : OpR X (binaryOp .Mult) (rRepN X.K) := by
  intro pins s σ H x y v u Q I rx ry h
  obtain ⟨l, k, xs, rfl, rfl, hT, h1, h2, hh, q⟩ := h
  cases rx
  obtain ⟨t, rfl⟩ := ry
  obtain ⟨its, r, ⟨⟨cls, dd, data, sl⟩, ho, hc, n, hd⟩, hs⟩ := I.tuple hT
  simp only at hc hd
  subst hc hd
  have c0 : (decide (k < -(2 ^ 63)) || decide (k ≥ 2 ^ 63)) = false := by
    rw [decide_eq_false (by omega), decide_eq_false (by omega)]
    rfl
  have he : its.toArray.isEmpty = false := by
    cases r with
    | nil => exact absurd rfl hh
    | cons => rfl
  have c1 : (its.toArray.isEmpty || k == 1) = false := by
    rw [he, Bool.false_or]
    exact beq_eq_false_iff_ne.mpr (by omega)
  have c2 : (decide (k ≤ 0) || its.toArray.isEmpty) = true := by
    rw [decide_eq_true h2]
    rfl
  refine wpAny_binaryOp_repeat_ref (T := "tuple") (U := "int") (by decide) ⟨_, ho, rfl⟩ (fun s' => typeIs_int s' k t) noFill_tuple_mul F.fills_int_mul F.slot_int_rmul repeat_tuple F.slot_int_index.lookup
    (call_meets F.slot_int_rmul (typeIs_int s k t) F.entry_int_rmul (F.args_int_rmul_2 _ _) (int_rmul_tuple k t l its.toArray n dd sl)
      ⟨ho, rfl, ⟨_, ho, rfl⟩, call_meets F.slot_tuple_mul ⟨_, ho, rfl⟩ F.entry_tuple_mul (F.args_tuple_mul_2 _ _) (tmul_none l its.toArray n dd sl k t c0 c1 c2) ⟨ho, ?_⟩⟩)
  refine ⟨.ref s.heap.objs.size, _, I.laid (t' := s.toks) (o := .tup []) (fun b ob q => Heap.get?_push_of_some _ q) (Nat.le_refl _) ?_, rfl, q _ (I.hok.fresh (Nat.le_refl _))⟩
  exact ⟨Nat.zero_le _, [], .nil, IsTup.new _ _⟩
def rMulX (K : PySem.W.Frag) : R2 := fun x y H Q => rMulA K x y H Q ∨ (rRepS K x y H Q ∨ rRepN K x y H Q)
theorem op_mulX : OpR X (binaryOp .Mult) (rMulX X.K) := OpR.or op_mulA (OpR.or op_repS op_repN)
end
/-- products, lists and tuples times whole numbers -/
def gMulX (d e : PyData) : Option Res := match d, e with
  | .tuple xs, .int k => @ite _ (-(2 ^ 63) ≤ k ∧ k < 2 ^ 63) (Classical.propDecidable _) (if xs = [] ∨ k = 1 then some (.val (.tuple xs)) else if k ≤ 0 then some (.val (.tuple [])) else gMul (.tuple xs) (.int k)) none
  | d, e => gMul d e
theorem snd_mulX {K : PySem.W.Frag} : Snd2 K (rMulX K) gMulX := by
  intro O H x y d e s Q dom hx hy hg q
  unfold gMulX at hg
  split at hg
  · rename_i ds k
    split at hg
    · rename_i hk
      split at hg
      · rename_i hh
        cases hg
        have hx' := hx
        obtain ⟨a, xs, rfl, ha, fa⟩ := Fz.sqT hx
        have hy' : Fz K O H (.int k) y := hy
        cases hy'
        refine .inr (.inl ⟨a, k, xs, rfl, rfl, ha, hk.1, hk.2, ?_, okv dom q hx'⟩)
        rcases hh with rfl | h
        · exact .inl (by cases fa; rfl)
        · exact .inr h
      · rename_i hh
        split at hg
        · rename_i h0
          cases hg
          obtain ⟨a, xs, rfl, ha, fa⟩ := Fz.sqT hx
          have hy' : Fz K O H (.int k) y := hy
          cases hy'
          refine .inr (.inr ⟨a, k, xs, rfl, rfl, ha, hk.1, h0, fun z => hh (.inl (fa.nil_iff z)), fun p hp => okt dom q hp .nil⟩)
        · exact .inl (snd_mul O H x y _ _ s Q dom hx hy hg q)
    · cases hg
  · exact .inl (snd_mul O H x y _ _ s Q dom hx hy hg q)
end Fx

end

/-! Fx27: repr of tuples that hold {} -/
noncomputable section
namespace Fx
open PySem PySem.Spec PyProof.Rows L2

mutual
/-- no list in it, and no dict but {} -/
def rdD : PyData → Bool
  | .none => true
  | .bool _ => true
  | .int _ => true
  | .str _ => true
  | .tuple ds => rdDs ds
  | .dict [] => true
  | .dict _ => false
  | .list _ => false
def rdDs : List PyData → Bool
  | [] => true
  | d :: ds => rdD d && rdDs ds
end
mutual
inductive Dq (K : PySem.W.Frag) (H : Hp) : PyData → V → Prop
  | non : Dq K H .none .non
  | bl (b : Bool) : Dq K H (.bool b) (.bl b)
  | int (i : Int) : Dq K H (.int i) (.int i)
  | str (x : Str) : Dq K H (.str x) (.str x)
  | tup {a : Addr} {xs : List V} {ds : List PyData} : SqT K H a xs → DqA K H ds xs → Dq K H (.tuple ds) (.ref a)
  | dct {a : Addr} {od : Obj} : H a = some (.frz od (.dK [])) → Dq K H (.dict []) (.ref a)
inductive DqA (K : PySem.W.Frag) (H : Hp) : List PyData → List V → Prop
  | nil : DqA K H [] []
  | cons {d : PyData} {ds : List PyData} {v : V} {vs : List V} : Dq K H d v → DqA K H ds vs → DqA K H (d :: ds) (v :: vs)
end
section
variable {K : PySem.W.Frag} {O : Own} {H : Hp}
mutual
theorem Fz.dq : ∀ (d : PyData) (v : V), Fz K O H d v → rdD d = true → Dq K H d v
  | .none, _, h, _ => by cases h; exact .non
  | .bool b, _, h, _ => by cases h; exact .bl b
  | .int i, _, h, _ => by cases h; exact .int i
  | .str x, _, h, _ => by cases h; exact .str x
  | .list _, _, _, e => by simp [rdD] at e
  | .tuple ds, _, h, e => by
    obtain ⟨a, xs, rfl, hs, ha⟩ := h.sqT
    exact .tup hs (FzA.dq ds _ ha (by simpa [rdD] using e))
  | .dict [], _, h, _ => by
    cases h with
    | dct hr n hd =>
      cases hd
      exact .dct hr
  | .dict (_ :: _), _, _, e => by simp [rdD] at e
theorem FzA.dq : ∀ (ds : List PyData) (vs : List V), FzA K O H ds vs → rdDs ds = true → DqA K H ds vs
  | [], _, h, _ => by cases h; exact .nil
  | d :: ds, _, h, e => by
    cases h with
    | cons h1 h2 =>
      have e' : rdD d = true ∧ rdDs ds = true := by simpa [rdDs] using e
      exact .cons (Fz.dq d _ h1 e'.1) (FzA.dq ds _ h2 e'.2)
end
end
section
variable {X : Cx} {pins : List (Addr × Obj)} {σ : L2.St} {H : Hp} {s : Shared}
theorem empty_dict (I : Inv X pins σ H s) {a : Addr} {od : Obj} (ha : H a = some (.frz od (.dK []))) : Reads s.heap (.ref a) (.dict []) [a] ∧ sysModules ≠ a := by
  obtain ⟨e1, _, hsys, xs, kv, o, es, ep, e2, hc, hd, _, hp, _⟩ := (show ObjOk X.prog X.w H s.heap a (.frz od (.dK [])) from I.hok a _ ha)
  cases kv
  have he' : es.toList = [] := by
    generalize es.toList = l at hp
    cases hp
    rfl
  have rd : Reads s.heap (.ref a) (.dict []) (a :: [] ++ []) := .dict e2 hc.1 hd (by rw [he']; exact .nil) (by rw [he']; exact .nil)
  exact ⟨rd, fun z => by rw [← z] at hsys; simp at hsys⟩
mutual
theorem Dq.reads (I : Inv X pins σ H s) : ∀ (d : PyData) (v : V) (u : Value), Dq X.K H d v → RelV v u → ∃ as, Reads s.heap u d as ∧ sysModules ∉ as
  | .none, _, _, h, r => by
    cases h
    cases r
    exact ⟨_, .none, by simp⟩
  | .bool b, _, _, h, r => by
    cases h
    cases r
    exact ⟨_, .bool b, by simp⟩
  | .int i, _, _, h, r => by
    cases h
    obtain ⟨t, rfl⟩ := r
    exact ⟨_, .int i t, by simp⟩
  | .str x, _, _, h, r => by
    cases h
    obtain ⟨t, rfl⟩ := r
    exact ⟨_, .str x t, by simp⟩
  | .tuple ds, _, _, h, r => by
    cases h with
    | tup hs ha =>
      cases r
      obtain ⟨its, rv, ⟨o, ho, hc, n, hd⟩, _⟩ := I.tuple hs
      obtain ⟨as, hr, hn⟩ := DqA.reads I ds _ its ha rv
      exact ⟨as, .tuple ho hc hd hr, hn⟩
  | .list _, _, _, h, _ => by cases h
  | .dict _, _, _, h, r => by
    cases h with
    | dct hr =>
      cases r
      obtain ⟨h1, h2⟩ := empty_dict I hr
      exact ⟨_, h1, by simpa using h2⟩
theorem DqA.reads (I : Inv X pins σ H s) : ∀ (ds : List PyData) (vs : List V) (us : List Value), DqA X.K H ds vs → Vals vs us → ∃ as, ReadsAll s.heap us ds as ∧ sysModules ∉ as
  | [], _, _, h, r => by
    cases h
    cases r
    exact ⟨_, .nil, by simp⟩
  | d :: ds, _, _, h, r => by
    cases h with
    | cons h1 h2 =>
      cases r with
      | cons r1 r2 =>
        obtain ⟨as, q1, n1⟩ := Dq.reads I d _ _ h1 r1
        obtain ⟨bs, q2, n2⟩ := DqA.reads I ds _ _ h2 r2
        exact ⟨_, .cons q1 q2, by simp [n1, n2]⟩
end
end
def gReprX (ds : List PyData) : Option Res := match gRepr ds with
  | some r => some r
  | none => match ds with
    | [.tuple es] => if rdDs es = true ∧ (PyData.tuple es).showable = true ∧ (PyData.tuple es).depth ≤ 60 ∧ (PyData.tuple es).shown.length ≤ sizeLine then some (.val (.str (PyData.tuple es).shown)) else none
    | _ => none
def rReprX (K : PySem.W.Frag) : List V → Hp → VK → Prop := fun xs H Q => rRepr K xs H Q ∨ ∃ x es, xs = [x] ∧ Dq K H (.tuple es) x ∧ (PyData.tuple es).showable = true ∧ (PyData.tuple es).depth ≤ 60 ∧ (PyData.tuple es).shown.length ≤ sizeLine ∧ Q (.str (PyData.tuple es).shown) H
theorem cr_reprX {X : Cx} (h : X.A.guards = some [] ∧ X.A.units + 66 < cLine) : CallR X (.builtin "repr") (rReprX X.K) := by
  intro pins s σ H xs us Q I r hh
  rcases hh with hh | ⟨x, es, rfl, dq, h1, h2, h3, q⟩
  · exact cr_repr h pins s σ H xs us Q I r hh
  · obtain ⟨u, rfl, ru⟩ := vals1 r
    obtain ⟨as, rd, nm⟩ := Dq.reads I _ _ _ dq ru
    cases dq with
    | tup hs ha =>
      cases ru
      refine repr_of_reads' rd h1 (fun _ => nm) h.1 (by have := h.2; omega) (fun _ _ e => e) (fun h' v tk hk => ?_) h3
      exact ⟨.str _, H, I.kept hk, ⟨_, rfl⟩, q⟩
theorem snd_reprX {K : PySem.W.Frag} : SndN K (rReprX K) gReprX := by
  intro O H xs ds s Q dom hx hg q
  unfold gReprX at hg
  split at hg
  · rename_i r hr
    cases hg
    exact .inl (snd_repr O H xs ds _ Q dom hx hr q)
  · split at hg
    · rename_i es _
      split at hg
      · rename_i hh
        cases hg
        obtain ⟨x, rfl, h⟩ := hx.one
        have h' : Fz K O H (.tuple es) x := h
        exact .inr ⟨x, es, rfl, Fz.dq _ _ h' (by simpa [rdD] using hh.1), hh.2.1, hh.2.2.1, hh.2.2.2, okv dom q (.str _)⟩
      · cases hg
    · cases hg
end Fx

end

/-! Fy1: reckoning with meanings: the helpers that the laws share -/
noncomputable section
namespace Fx
open PySem PySem.Spec PyProof.Rows L2

theorem eqv_int (a b : Int) : PyData.eqv (.int a) (.int b) = decide (a = b) := by
  first | rfl | (unfold PyData.eqv; rfl) | (unfold PyData.eqv; exact Bool.beq_eq_decide_eq ..)
theorem eqX_int (neg : Bool) (a b : Int) : gEqX neg (.int a) (.int b) = some (.val (.bool (if neg then !decide (a = b) else decide (a = b)))) := by
  cases neg <;> simp [gEqX, gEq, shp, eqv_int]
theorem eqX_str (neg : Bool) (a b : Str) : gEqX neg (.str a) (.str b) = some (.val (.bool (if neg then !decide (a = b) else decide (a = b)))) := rfl
theorem own_dat (d : PyData) : (MD.dat d).own = false := rfl
theorem own_lst (d : List PyData) : (MD.lst d).own = true := rfl
theorem own_bag (c : List Int) (b m : Int) : (MD.bag c b m).own = true := rfl
theorem own_dcK (d : List (Key × PyData)) : (MD.dcK d).own = true := rfl
theorem own_scr (d : List Int) : (MD.scr d).own = false := rfl
theorem flat_dat (d : PyData) : (MD.dat d).flat = some d := rfl
theorem flat_lst (d : List PyData) : (MD.lst d).flat = some (.list d) := rfl
theorem dv_dat (Γ : Gm) (d : PyData) : dv Γ (.md (.dat d)) = some d := rfl
theorem dv_lst (Γ : Gm) (d : List PyData) : dv Γ (.md (.lst d)) = some (.list d) := rfl
theorem dv_al (Γ : Gm) (i : Nat) : dv Γ (.al i) = match Γ[i]? with
    | some (some (.lst xs)) => some (.list xs)
    | _ => none := rfl
theorem frz_dat (d : PyData) : frz (.md (.dat d)) = some d := rfl
theorem intT_int (j : Int) : intT (.md (.dat (.int j))) = some j := rfl
theorem frzs_nil : frzs [] = some [] := rfl
theorem frzs_cons (d : PyData) (ts : List TV) : frzs (.md (.dat d) :: ts) = (frzs ts).map fun ds => d :: ds := rfl
theorem shp_int (i : Int) : shp (.int i) = true := rfl
theorem shp_none : shp .none = true := rfl
theorem shp_bool (b : Bool) : shp (.bool b) = true := rfl
/-- whole numbers of a kind that never is too long to multiply -/
theorem mulOk_of {i j : Int} (hi : i.natAbs < 2 ^ 1000) (hj : j.natAbs < 2 ^ 1000) : mulOk i j = true := by
  have lg : ∀ n : Nat, n < 2 ^ 1000 → n.log2 < 1000 := fun n h => by
    by_cases h0 : n = 0
    · subst h0; decide
    · exact (Nat.log2_lt h0).mpr h
  have h1 := lg _ hi
  have h2 := lg _ hj
  exact decide_eq_true (by omega)
theorem divOk_of {i j : Int} (hj : 0 < j) (hj2 : j.natAbs < 2 ^ 1000) : divOk i j = true := by
  refine decide_eq_true ⟨hj, ?_⟩
  have h0 : j.natAbs ≠ 0 := by omega
  have := (Nat.log2_lt h0).mpr hj2
  omega
theorem big64 : (2 : Nat) ^ 64 ≤ 2 ^ 1000 := Nat.pow_le_pow_right (by decide) (by decide)

theorem gMulX_int (i j : Int) : gMulX (.int i) (.int j) = if mulOk i j = true then some (.val (.int (i * j))) else none := rfl
theorem gMul_rep (d : PyData) {n : Nat} (h : n ≤ 1000000) : gMulX (.list [d]) (.int n) = some (.new (List.replicate n d)) := by
  have e : (List.replicate n [d]).flatten = List.replicate n d := by
    induction n with
    | zero => rfl
    | succ n ih => rw [List.replicate_succ, List.flatten_cons, ih (by omega)]; rfl
  show @ite _ _ (Classical.propDecidable _) (some (Res.new (List.replicate (Int.toNat n) [d]).flatten)) none = _
  rw [if_pos, Int.toNat_natCast, e]
  refine ⟨by omega, by omega, ?_⟩
  rw [Int.toNat_natCast, sizeLine_eq]
  simp
  omega
theorem gMulX_tup (xs : List PyData) {k : Nat} (h : xs.length ≤ 1000) (hk : k ≤ 1000) : gMulX (.tuple xs) (.int k) = some (.val (.tuple (List.replicate k xs).flatten)) := by
  show @ite _ (-(2 ^ 63) ≤ (k : Int) ∧ (k : Int) < 2 ^ 63) (Classical.propDecidable _) (if xs = [] ∨ (k : Int) = 1 then some (Res.val (.tuple xs)) else if (k : Int) ≤ 0 then some (Res.val (.tuple [])) else gMul (.tuple xs) (.int k)) none = _
  rw [if_pos ⟨by omega, by omega⟩]
  by_cases h0 : xs = []
  · subst h0
    have e : (List.replicate k ([] : List PyData)).flatten = [] := by
      induction k with
      | zero => rfl
      | succ k ih => rw [List.replicate_succ, List.flatten_cons, ih (by omega)]; rfl
    rw [if_pos (.inl rfl), e]
  · by_cases h1 : k = 1
    · subst h1
      rw [if_pos (.inr rfl)]
      simp
    · by_cases h2 : k = 0
      · subst h2
        rw [if_neg (by simp [h0]), if_pos (by omega)]
        rfl
      · rw [if_neg (by simp [h0]; omega), if_neg (by omega)]
        show @ite _ _ (Classical.propDecidable _) (some (Res.val (.tuple (List.replicate (Int.toNat k) xs).flatten))) none = _
        rw [if_pos ⟨h0, by omega, by omega, h⟩, Int.toNat_natCast]
def lsStep (tg : FG) (b : FS) (d : PyData) (Γ : Gm) : Option Out := (tg d Γ).bind b
/-- one turn of a comprehension -/
def lcStep (tg : FG) (tt : FT) (fe : FE) (own : List Nat) (d : PyData) (Γ : Gm) : Option (Option PyData × Gm) := (tg d Γ).bind fun Γ1 => (tt Γ1).bind fun p => if p.1 = true then (fe p.2).bind fun q => (frz q.1).bind fun y => if noOwn q.2 own = true then some (some y, fgt q.2 own) else none
  else if noOwn p.2 own = true then some (none, fgt p.2 own) else none

/-! ### loops -/
theorem loopS_cons {tg : FG} {b : FS} {d : PyData} {r : List PyData} {Γ : Gm} : loopS tg b (d :: r) Γ = (lsStep tg b d Γ).bind fun o => match o with
    | .nx Γ2 => loopS tg b r Γ2
    | .ct Γ2 => loopS tg b r Γ2
    | .bk Γ2 => some (.nx Γ2)
    | .rt m Γ2 => some (.rt m Γ2) := by
  show (tg d Γ).bind (fun Γ1 => (b Γ1).bind _) = ((tg d Γ).bind b).bind _
  cases tg d Γ <;> rfl
theorem loopS_ok {tg : FG} {b : FS} {P : Nat → Gm → Prop} : ∀ {items : List PyData} {Γ : Gm} (k : Nat), P k Γ → (∀ (i : Nat) (d : PyData) (Γ : Gm), items[i]? = some d → P (k + i) Γ → ∃ Γ2, (lsStep tg b d Γ = some (.nx Γ2) ∨ lsStep tg b d Γ = some (.ct Γ2)) ∧ P (k + i + 1) Γ2) →
    ∃ Γ', loopS tg b items Γ = some (.nx Γ') ∧ P (k + items.length) Γ'
  | [], Γ, k, h, _ => ⟨Γ, rfl, h⟩
  | d :: r, Γ, k, h, st => by
    obtain ⟨Γ2, e2, h2⟩ := st 0 d Γ rfl h
    obtain ⟨Γ', e3, h3⟩ := loopS_ok (tg := tg) (b := b) (P := P) (items := r) (Γ := Γ2) (k + 1) h2 fun i d Γ e p => by
      have := st (i + 1) d Γ (by simpa using e) (by rw [show k + (i + 1) = k + 1 + i by omega]; exact p)
      rwa [show k + (i + 1) + 1 = k + 1 + i + 1 by omega] at this
    refine ⟨Γ', ?_, by rw [List.length_cons, show k + (r.length + 1) = k + 1 + r.length by omega]; exact h3⟩
    rw [loopS_cons]
    rcases e2 with e2 | e2
    · rw [e2]; exact e3
    · rw [e2]; exact e3
theorem loopL_cons {tg : FG} {tt : FT} {fe : FE} {own : List Nat} {d : PyData} {r acc : List PyData} {Γ Γ' : Gm} {y : Option PyData} (h : lcStep tg tt fe own d Γ = some (y, Γ')) (hl : acc.length < sizeLine) : loopL tg tt fe own (d :: r) acc Γ = loopL tg tt fe own r (acc ++ y.toList) Γ' := by
  unfold lcStep at h
  obtain ⟨Γ1, e1, h⟩ := Option.bind_eq_some_iff.mp h
  obtain ⟨⟨b, Γ2⟩, e2, h⟩ := Option.bind_eq_some_iff.mp h
  dsimp only at h
  split at h
  · rename_i hb
    have hb' : b = true := hb
    subst hb'
    obtain ⟨⟨t, Γ3⟩, e3, h⟩ := Option.bind_eq_some_iff.mp h
    obtain ⟨y', e4, h⟩ := Option.bind_eq_some_iff.mp h
    dsimp only at h
    split at h
    · rename_i hn
      cases h
      simp only at e4
      simp [loopL, e1, e2, e3, e4, hl, hn]
    · cases h
  · rename_i hb
    have hb' : b = false := by simpa using hb
    subst hb'
    split at h
    · rename_i hn
      cases h
      have hn' : noOwn Γ2 own = true := hn
      simp [loopL, e1, e2, hn']
    · cases h
theorem loopL_fm {α : Type} {tg : FG} {tt : FT} {fe : FE} {own : List Nat} {Γ : Gm} {g : α → PyData} {f : α → Option PyData} : ∀ {l : List α} {acc : List PyData}, acc.length + l.length ≤ sizeLine → (∀ x ∈ l, lcStep tg tt fe own (g x) Γ = some (f x, Γ)) → loopL tg tt fe own (l.map g) acc Γ = some (acc ++ l.filterMap f, Γ)
  | [], acc, _, _ => by simp [loopL]
  | x :: l, acc, hl, h => by
    have h1 := h x List.mem_cons_self
    have e : (f x).toList.length ≤ 1 := by cases f x <;> simp
    have ih := loopL_fm (tg := tg) (tt := tt) (fe := fe) (own := own) (Γ := Γ) (g := g) (f := f) (l := l) (acc := acc ++ (f x).toList) (by simp at hl ⊢; omega) fun y hy => h y (List.mem_cons_of_mem _ hy)
    rw [List.map_cons, loopL_cons h1 (by simp at hl; omega), ih]
    cases e2 : f x <;> simp [e2, List.filterMap_cons]
/-- a comprehension whose element is a function of the item -/
theorem loopL_map {α : Type} {tg : FG} {tt : FT} {fe : FE} {own : List Nat} {Γ : Gm} {g f : α → PyData} {l : List α} {acc : List PyData} (hl : acc.length + l.length ≤ sizeLine) (h : ∀ x ∈ l, lcStep tg tt fe own (g x) Γ = some (some (f x), Γ)) : loopL tg tt fe own (l.map g) acc Γ = some (acc ++ l.map f, Γ) := by
  have := loopL_fm (f := fun x => some (f x)) hl h
  rw [this]
  have e : l.filterMap (fun x => some (f x)) = l.map f := by
    induction l with
    | nil => rfl
    | cons x l ih => simp
  rw [e]
/-- with a test -/
theorem loopL_filter {α : Type} {tg : FG} {tt : FT} {fe : FE} {own : List Nat} {Γ : Gm} {g f : α → PyData} {p : α → Bool} {l : List α} {acc : List PyData} (hl : acc.length + l.length ≤ sizeLine) (h : ∀ x ∈ l, lcStep tg tt fe own (g x) Γ = some (if p x = true then some (f x) else none, Γ)) : loopL tg tt fe own (l.map g) acc Γ = some (acc ++ (l.filter p).map f, Γ) := by
  have := loopL_fm (f := fun x => if p x = true then some (f x) else none) hl h
  rw [this]
  have e : l.filterMap (fun x => if p x = true then some (f x) else none) = (l.filter p).map f := by
    clear this h hl
    induction l with
    | nil => rfl
    | cons x l ih =>
      cases hp : p x with
      | true => simp [hp, ih]
      | false => simp [hp, ih]
  rw [e]
/-- with changes on the way -/
theorem loopL_ok {tg : FG} {tt : FT} {fe : FE} {own : List Nat} {P : Nat → List PyData → Gm → Prop} : ∀ {items : List PyData} {acc : List PyData} {Γ : Gm} (k : Nat), P k acc Γ → acc.length + items.length ≤ sizeLine →
    (∀ (i : Nat) (d : PyData) (acc : List PyData) (Γ : Gm), items[i]? = some d → P (k + i) acc Γ → ∃ y Γ', lcStep tg tt fe own d Γ = some (y, Γ') ∧ P (k + i + 1) (acc ++ y.toList) Γ') →
    ∃ acc' Γ', loopL tg tt fe own items acc Γ = some (acc', Γ') ∧ P (k + items.length) acc' Γ' ∧ acc'.length ≤ acc.length + items.length
  | [], acc, Γ, k, h, _, _ => ⟨acc, Γ, rfl, h, Nat.le_refl _⟩
  | d :: r, acc, Γ, k, h, hl, st => by
    obtain ⟨y, Γ1, e1, h1⟩ := st 0 d acc Γ rfl h
    have ey : y.toList.length ≤ 1 := by cases y <;> simp
    obtain ⟨acc', Γ', e5, h5, l5⟩ := loopL_ok (items := r) (acc := acc ++ y.toList) (Γ := Γ1) (k + 1) h1 (by simp at hl ⊢; omega) fun i d acc Γ e p => by
      have := st (i + 1) d acc Γ (by simpa using e) (by rw [show k + (i + 1) = k + 1 + i by omega]; exact p)
      rwa [show k + (i + 1) + 1 = k + 1 + i + 1 by omega] at this
    refine ⟨acc', Γ', ?_, by rw [List.length_cons, show k + (r.length + 1) = k + 1 + r.length by omega]; exact h5, by simp at l5 ⊢; omega⟩
    rw [loopL_cons e1 (by simp at hl; omega)]
    exact e5

/-! ### the draws -/
def BagOk (B : MD) : Prop := ∃ c b m, B = .bag c b m ∧ c.length ≤ 63 ∧ 0 ≤ m ∧ m < 2147483647
theorem BagOk.own {B : MD} (h : BagOk B) : B.own = true := by
  obtain ⟨c, b, m, rfl, _⟩ := h
  rfl
def DRAWS : Nat := 1000000
def drawC : FT := fAnd (fT (fOp2 (gEqX false) false (fBagIx 0 1) (fC (.int 0)))) (fT (fBagNe 0))
def drawB : FS := fFgt [2] (fSeq (fSet 2 2 (fBagPop 0)) (fBagPut 0 1 (fIfE (fT (fOp2 gGt false (fVar 2) (fOp2 gPow false (fC (.int 10)) (fC (.int 9))))) (fVar 2) (fC (.int 0)))))
theorem fWhile_step {c : FT} {b : FS} {n : Nat} {Γ Γ1 Γ2 : Gm} (h1 : c Γ = some (true, Γ1)) (h2 : b Γ1 = some (.nx Γ2)) : fWhile c b (n + 1) Γ = fWhile c b n Γ2 := by
  simp [fWhile, h1, h2]
theorem fWhile_stop {c : FT} {b : FS} {n : Nat} {Γ Γ1 : Gm} (h1 : c Γ = some (false, Γ1)) : fWhile c b (n + 1) Γ = some (.nx Γ1) := by
  simp [fWhile, h1]
theorem draw_while (m n : Int) : ∀ (fuel : Nat) (c : List Int) (b : Int), c.length < fuel → ∃ c' b', fWhile drawC drawB fuel [some (.bag c b m), some (.dat (.int n)), none, none] = some (.nx [some (.bag c' b' m), some (.dat (.int n)), none, none]) ∧ c'.length ≤ c.length := by
  intro fuel
  induction fuel with
  | zero => intro c b h; omega
  | succ fuel ih =>
    intro c b h
    by_cases hb : b = 0
    · subst hb
      by_cases hc : c = []
      · subst hc
        refine ⟨[], 0, ?_, Nat.le_refl _⟩
        simp [fnOf, fSeq, fNil, fSet, fRet, fDrop, fIf, fFgt, fgtO, fgt, fFor, fIfE, fT, fTru, truD, fAnd, fOr, fNot, fAndV, fOrV, fNotV, fOp2, fVar, fC, fB, fACons, fANil, fTup, fLst, fNeg, gRel, gInt2, gInt2C, gAdd, gMulX_int, gIx, gLen, gAbs, gInt, gEq, gIs, gIsNot, dv_dat, dv_lst, dv_al, dvs, own_dat, own_lst, own_bag, own_dcK, own_scr, flat_dat, flat_lst, Res.fin, frzs_nil, frzs_cons, frz_dat, intT_int, outs, als, argsOf, putArgs, fCall, eqv_int, shp_int, shp_none, shp_bool, noOwn, ownAt, sizeLine_eq, fIter, itemsOf, fRange1, fRange2, eqX_int, eqX_str, fEnumA, fFrz, fNever, permOk, perm, fCallK, fCallP, gMax2, gMin2, gMax3, gMin3, fPar2, fMulti, putM, fAsgG, fLc, fWhile, drawC, drawB, fBagIx, fBagNe, bagS]
      · obtain ⟨l, x, rfl⟩ : ∃ l x, c = l ++ [x] := ⟨c.dropLast, c.getLast hc, (List.dropLast_concat_getLast hc).symm⟩
        rw [List.length_append] at h
        obtain ⟨c', b', e, hl⟩ := ih l (if (10 : Int) ^ 9 < x then x else 0) (by simp at h; omega)
        refine ⟨c', b', ?_, by simp; omega⟩
        have h1 : drawC [some (.bag (l ++ [x]) 0 m), some (.dat (.int n)), none, none] = some (true, [some (.bag (l ++ [x]) 0 m), some (.dat (.int n)), none, none]) := by
          simp [fnOf, fSeq, fNil, fSet, fRet, fDrop, fIf, fFgt, fgtO, fgt, fFor, fIfE, fT, fTru, truD, fAnd, fOr, fNot, fAndV, fOrV, fNotV, fOp2, fVar, fC, fB, fACons, fANil, fTup, fLst, fNeg, gRel, gInt2, gInt2C, gAdd, gMulX_int, gIx, gLen, gAbs, gInt, gEq, gIs, gIsNot, dv_dat, dv_lst, dv_al, dvs, own_dat, own_lst, own_bag, own_dcK, own_scr, flat_dat, flat_lst, Res.fin, frzs_nil, frzs_cons, frz_dat, intT_int, outs, als, argsOf, putArgs, fCall, eqv_int, shp_int, shp_none, shp_bool, noOwn, ownAt, sizeLine_eq, fIter, itemsOf, fRange1, fRange2, eqX_int, eqX_str, fEnumA, fFrz, fNever, permOk, perm, fCallK, fCallP, gMax2, gMin2, gMax3, gMin3, fPar2, fMulti, putM, fAsgG, fLc, drawC, fBagIx, fBagNe, bagS]
        have h2 : drawB [some (.bag (l ++ [x]) 0 m), some (.dat (.int n)), none, none] = some (.nx [some (.bag l (if (10 : Int) ^ 9 < x then x else 0) m), some (.dat (.int n)), none, none]) := by
          by_cases hx : (10 : Int) ^ 9 < x
          · have hx' : (1000000000 : Int) < x := by omega
            simp [fnOf, fSeq, fNil, fSet, fRet, fDrop, fIf, fFgt, fgtO, fgt, fFor, fIfE, fT, fTru, truD, fAnd, fOr, fNot, fAndV, fOrV, fNotV, fOp2, fVar, fC, fB, fACons, fANil, fTup, fLst, fNeg, gRel, gInt2, gInt2C, gAdd, gMulX_int, gIx, gLen, gAbs, gInt, gEq, gIs, gIsNot, dv_dat, dv_lst, dv_al, dvs, own_dat, own_lst, own_bag, own_dcK, own_scr, flat_dat, flat_lst, Res.fin, frzs_nil, frzs_cons, frz_dat, intT_int, outs, als, argsOf, putArgs, fCall, eqv_int, shp_int, shp_none, shp_bool, noOwn, ownAt, sizeLine_eq, fIter, itemsOf, fRange1, fRange2, eqX_int, eqX_str, fEnumA, fFrz, fNever, permOk, perm, fCallK, fCallP, gMax2, gMin2, gMax3, gMin3, fPar2, fMulti, putM, fAsgG, fLc, drawB, fBagPop, fBagPut, bagS, powOk, hx, hx']
          · have hx' : ¬ (1000000000 : Int) < x := by omega
            simp [fnOf, fSeq, fNil, fSet, fRet, fDrop, fIf, fFgt, fgtO, fgt, fFor, fIfE, fT, fTru, truD, fAnd, fOr, fNot, fAndV, fOrV, fNotV, fOp2, fVar, fC, fB, fACons, fANil, fTup, fLst, fNeg, gRel, gInt2, gInt2C, gAdd, gMulX_int, gIx, gLen, gAbs, gInt, gEq, gIs, gIsNot, dv_dat, dv_lst, dv_al, dvs, own_dat, own_lst, own_bag, own_dcK, own_scr, flat_dat, flat_lst, Res.fin, frzs_nil, frzs_cons, frz_dat, intT_int, outs, als, argsOf, putArgs, fCall, eqv_int, shp_int, shp_none, shp_bool, noOwn, ownAt, sizeLine_eq, fIter, itemsOf, fRange1, fRange2, eqX_int, eqX_str, fEnumA, fFrz, fNever, permOk, perm, fCallK, fCallP, gMax2, gMin2, gMax3, gMin3, fPar2, fMulti, putM, fAsgG, fLc, drawB, fBagPop, fBagPut, bagS, powOk, hx, hx']
        rw [fWhile_step h1 h2, e]
    · refine ⟨c, b, ?_, Nat.le_refl _⟩
      simp [fnOf, fSeq, fNil, fSet, fRet, fDrop, fIf, fFgt, fgtO, fgt, fFor, fIfE, fT, fTru, truD, fAnd, fOr, fNot, fAndV, fOrV, fNotV, fOp2, fVar, fC, fB, fACons, fANil, fTup, fLst, fNeg, gRel, gInt2, gInt2C, gAdd, gMulX_int, gIx, gLen, gAbs, gInt, gEq, gIs, gIsNot, dv_dat, dv_lst, dv_al, dvs, own_dat, own_lst, own_bag, own_dcK, own_scr, flat_dat, flat_lst, Res.fin, frzs_nil, frzs_cons, frz_dat, intT_int, outs, als, argsOf, putArgs, fCall, eqv_int, shp_int, shp_none, shp_bool, noOwn, ownAt, sizeLine_eq, fIter, itemsOf, fRange1, fRange2, eqX_int, eqX_str, fEnumA, fFrz, fNever, permOk, perm, fCallK, fCallP, gMax2, gMin2, gMax3, gMin3, fPar2, fMulti, putM, fAsgG, fLc, fWhile, drawC, drawB, fBagIx, fBagNe, bagS, hb]
def drawF : FF := fnOf 2 4 (fSeq (fWhile drawC drawB DRAWS) (fSeq (fIf (fT (fOp2 gGt false (fBagIx 0 1) (fC (.int 0)))) (fSeq (fSet 2 3 (fOp2 gMod false (fB gInt false (fACons (fBagIx 0 1) fANil)) (fVar 1))) (fSeq (fBagPut 0 1 (fOp2 gDiv false (fBagIx 0 1) (fVar 1))) (fRet 2 true (fVar 3)))) fNil)
  (fSeq (fBagPut 0 2 (fOp2 gMod false (fB gInt false (fACons (fOp2 gAdd false (fOp2 gMulX false (fBagIx 0 2) (fC (.int 48271))) (fC (.int 11))) fANil)) (fC (.int 2147483647)))) (fRet 2 true (fOp2 gMod false (fB gInt false (fACons (fOp2 gDiv false (fOp2 gMod false (fB gInt false (fACons (fOp2 gMulX false (fBagIx 0 2) (fBagIx 0 2)) fANil)) (fC (.int 2147483629))) (fC (.int 7))) fANil)) (fVar 1))))))
theorem drawF_ok {B : MD} {n : Int} (h : BagOk B) (hn : 0 < n) (hn2 : n < 2 ^ 64) : ∃ v B', drawF [B, .dat (.int n)] = some (.dat (.int v), [some B', none]) ∧ BagOk B' ∧ 0 ≤ v ∧ v < n := by
  obtain ⟨c, b, m, rfl, hc, hm, hm2⟩ := h
  obtain ⟨c', b', e, hl⟩ := draw_while m n DRAWS c b (by unfold DRAWS; omega)
  have hd : ∀ i : Int, divOk i n = true := fun i => divOk_of hn (Nat.lt_of_lt_of_le (by omega) big64)
  by_cases hb : 0 < b'
  · refine ⟨b' % n, .bag c' (b' / n) m, ?_, ⟨_, _, _, rfl, by omega, hm, hm2⟩, Int.emod_nonneg _ (by omega), Int.emod_lt_of_pos _ hn⟩
    simp [fnOf, fSeq, fNil, fSet, fRet, fDrop, fIf, fFgt, fgtO, fgt, fFor, fIfE, fT, fTru, truD, fAnd, fOr, fNot, fAndV, fOrV, fNotV, fOp2, fVar, fC, fB, fACons, fANil, fTup, fLst, fNeg, gRel, gInt2, gInt2C, gAdd, gMulX_int, gIx, gLen, gAbs, gInt, gEq, gIs, gIsNot, dv_dat, dv_lst, dv_al, dvs, own_dat, own_lst, own_bag, own_dcK, own_scr, flat_dat, flat_lst, Res.fin, frzs_nil, frzs_cons, frz_dat, intT_int, outs, als, argsOf, putArgs, fCall, eqv_int, shp_int, shp_none, shp_bool, noOwn, ownAt, sizeLine_eq, fIter, itemsOf, fRange1, fRange2, eqX_int, eqX_str, fEnumA, fFrz, fNever, permOk, perm, fCallK, fCallP, gMax2, gMin2, gMax3, gMin3, fPar2, fMulti, putM, fAsgG, fLc, drawF, e, fBagIx, fBagPut, bagS, hb, hn, hd]
  · have h1 : mulOk m 48271 = true := mulOk_of (Nat.lt_of_lt_of_le (by omega) big64) (Nat.lt_of_lt_of_le (by decide) big64)
    have k1 : 0 ≤ (m * 48271 + 11) % 2147483647 := Int.emod_nonneg _ (by omega)
    have k2 : (m * 48271 + 11) % 2147483647 < 2147483647 := Int.emod_lt_of_pos _ (by omega)
    have h2 : mulOk ((m * 48271 + 11) % 2147483647) ((m * 48271 + 11) % 2147483647) = true := mulOk_of (Nat.lt_of_lt_of_le (by omega) big64) (Nat.lt_of_lt_of_le (by omega) big64)
    have h3 : ∀ i : Int, divOk i 7 = true := fun i => divOk_of (by decide) (Nat.lt_of_lt_of_le (by decide) big64)
    refine ⟨(((m * 48271 + 11) % 2147483647) * ((m * 48271 + 11) % 2147483647)) % 2147483629 / 7 % n, .bag c' b' ((m * 48271 + 11) % 2147483647), ?_, ⟨_, _, _, rfl, by omega, k1, k2⟩, Int.emod_nonneg _ (by omega), Int.emod_lt_of_pos _ hn⟩
    simp [fnOf, fSeq, fNil, fSet, fRet, fDrop, fIf, fFgt, fgtO, fgt, fFor, fIfE, fT, fTru, truD, fAnd, fOr, fNot, fAndV, fOrV, fNotV, fOp2, fVar, fC, fB, fACons, fANil, fTup, fLst, fNeg, gRel, gInt2, gInt2C, gAdd, gMulX_int, gIx, gLen, gAbs, gInt, gEq, gIs, gIsNot, dv_dat, dv_lst, dv_al, dvs, own_dat, own_lst, own_bag, own_dcK, own_scr, flat_dat, flat_lst, Res.fin, frzs_nil, frzs_cons, frz_dat, intT_int, outs, als, argsOf, putArgs, fCall, eqv_int, shp_int, shp_none, shp_bool, noOwn, ownAt, sizeLine_eq, fIter, itemsOf, fRange1, fRange2, eqX_int, eqX_str, fEnumA, fFrz, fNever, permOk, perm, fCallK, fCallP, gMax2, gMin2, gMax3, gMin3, fPar2, fMulti, putM, fAsgG, fLc, drawF, e, fBagIx, fBagPut, bagS, hb, hn, h1, h2, h3]
/-- a bag that is made smaller by 2 where 1 is drawn below -/
def draw2F : FF := fnOf 2 4 (fSeq (fWhile drawC drawB DRAWS) (fSeq (fIf (fT (fOp2 gGt false (fBagIx 0 1) (fC (.int 0)))) (fSeq (fSet 2 3 (fOp2 gMod false (fB gInt false (fACons (fBagIx 0 1) fANil)) (fVar 1))) (fSeq (fBagPut 0 1 (fIfE (fT (fOp2 gGt false (fVar 1) (fC (.int 1)))) (fOp2 gDiv false (fBagIx 0 1) (fVar 1)) (fOp2 gDiv false (fBagIx 0 1) (fC (.int 2))))) (fRet 2 true (fVar 3)))) fNil)
  (fSeq (fBagPut 0 2 (fOp2 gMod false (fB gInt false (fACons (fOp2 gAdd false (fOp2 gMulX false (fBagIx 0 2) (fC (.int 48271))) (fC (.int 11))) fANil)) (fC (.int 2147483647)))) (fRet 2 true (fOp2 gMod false (fB gInt false (fACons (fOp2 gDiv false (fOp2 gMod false (fB gInt false (fACons (fOp2 gMulX false (fBagIx 0 2) (fBagIx 0 2)) fANil)) (fC (.int 2147483629))) (fC (.int 7))) fANil)) (fVar 1))))))
theorem draw2F_ok {B : MD} {n : Int} (h : BagOk B) (hn : 0 < n) (hn2 : n < 2 ^ 64) : ∃ v B', draw2F [B, .dat (.int n)] = some (.dat (.int v), [some B', none]) ∧ BagOk B' ∧ 0 ≤ v ∧ v < n := by
  obtain ⟨c, b, m, rfl, hc, hm, hm2⟩ := h
  obtain ⟨c', b', e, hl⟩ := draw_while m n DRAWS c b (by unfold DRAWS; omega)
  have hd : ∀ i : Int, divOk i n = true := fun i => divOk_of hn (Nat.lt_of_lt_of_le (by omega) big64)
  by_cases hb : 0 < b'
  · refine ⟨b' % n, .bag c' (if 1 < n then b' / n else b' / 2) m, ?_, ⟨_, _, _, rfl, by omega, hm, hm2⟩, Int.emod_nonneg _ (by omega), Int.emod_lt_of_pos _ hn⟩
    have h22 : ∀ i : Int, divOk i 2 = true := fun i => divOk_of (by decide) (Nat.lt_of_lt_of_le (by decide) big64)
    by_cases h1n : 1 < n
    · simp [fnOf, fSeq, fNil, fSet, fRet, fDrop, fIf, fFgt, fgtO, fgt, fFor, fIfE, fT, fTru, truD, fAnd, fOr, fNot, fAndV, fOrV, fNotV, fOp2, fVar, fC, fB, fACons, fANil, fTup, fLst, fNeg, gRel, gInt2, gInt2C, gAdd, gMulX_int, gIx, gLen, gAbs, gInt, gEq, gIs, gIsNot, dv_dat, dv_lst, dv_al, dvs, own_dat, own_lst, own_bag, own_dcK, own_scr, flat_dat, flat_lst, Res.fin, frzs_nil, frzs_cons, frz_dat, intT_int, outs, als, argsOf, putArgs, fCall, eqv_int, shp_int, shp_none, shp_bool, noOwn, ownAt, sizeLine_eq, fIter, itemsOf, fRange1, fRange2, eqX_int, eqX_str, fEnumA, fFrz, fNever, permOk, perm, fCallK, fCallP, gMax2, gMin2, gMax3, gMin3, fPar2, fMulti, putM, fAsgG, fLc, draw2F, e, fBagIx, fBagPut, bagS, hb, hn, hd, h1n]
    · simp [fnOf, fSeq, fNil, fSet, fRet, fDrop, fIf, fFgt, fgtO, fgt, fFor, fIfE, fT, fTru, truD, fAnd, fOr, fNot, fAndV, fOrV, fNotV, fOp2, fVar, fC, fB, fACons, fANil, fTup, fLst, fNeg, gRel, gInt2, gInt2C, gAdd, gMulX_int, gIx, gLen, gAbs, gInt, gEq, gIs, gIsNot, dv_dat, dv_lst, dv_al, dvs, own_dat, own_lst, own_bag, own_dcK, own_scr, flat_dat, flat_lst, Res.fin, frzs_nil, frzs_cons, frz_dat, intT_int, outs, als, argsOf, putArgs, fCall, eqv_int, shp_int, shp_none, shp_bool, noOwn, ownAt, sizeLine_eq, fIter, itemsOf, fRange1, fRange2, eqX_int, eqX_str, fEnumA, fFrz, fNever, permOk, perm, fCallK, fCallP, gMax2, gMin2, gMax3, gMin3, fPar2, fMulti, putM, fAsgG, fLc, draw2F, e, fBagIx, fBagPut, bagS, hb, hn, hd, h1n, h22]
  · have h1 : mulOk m 48271 = true := mulOk_of (Nat.lt_of_lt_of_le (by omega) big64) (Nat.lt_of_lt_of_le (by decide) big64)
    have k1 : 0 ≤ (m * 48271 + 11) % 2147483647 := Int.emod_nonneg _ (by omega)
    have k2 : (m * 48271 + 11) % 2147483647 < 2147483647 := Int.emod_lt_of_pos _ (by omega)
    have h2 : mulOk ((m * 48271 + 11) % 2147483647) ((m * 48271 + 11) % 2147483647) = true := mulOk_of (Nat.lt_of_lt_of_le (by omega) big64) (Nat.lt_of_lt_of_le (by omega) big64)
    have h3 : ∀ i : Int, divOk i 7 = true := fun i => divOk_of (by decide) (Nat.lt_of_lt_of_le (by decide) big64)
    refine ⟨(((m * 48271 + 11) % 2147483647) * ((m * 48271 + 11) % 2147483647)) % 2147483629 / 7 % n, .bag c' b' ((m * 48271 + 11) % 2147483647), ?_, ⟨_, _, _, rfl, by omega, k1, k2⟩, Int.emod_nonneg _ (by omega), Int.emod_lt_of_pos _ hn⟩
    simp [fnOf, fSeq, fNil, fSet, fRet, fDrop, fIf, fFgt, fgtO, fgt, fFor, fIfE, fT, fTru, truD, fAnd, fOr, fNot, fAndV, fOrV, fNotV, fOp2, fVar, fC, fB, fACons, fANil, fTup, fLst, fNeg, gRel, gInt2, gInt2C, gAdd, gMulX_int, gIx, gLen, gAbs, gInt, gEq, gIs, gIsNot, dv_dat, dv_lst, dv_al, dvs, own_dat, own_lst, own_bag, own_dcK, own_scr, flat_dat, flat_lst, Res.fin, frzs_nil, frzs_cons, frz_dat, intT_int, outs, als, argsOf, putArgs, fCall, eqv_int, shp_int, shp_none, shp_bool, noOwn, ownAt, sizeLine_eq, fIter, itemsOf, fRange1, fRange2, eqX_int, eqX_str, fEnumA, fFrz, fNever, permOk, perm, fCallK, fCallP, gMax2, gMin2, gMax3, gMin3, fPar2, fMulti, putM, fAsgG, fLc, draw2F, e, fBagIx, fBagPut, bagS, hb, hn, h1, h2, h3]
end Fx

end

/-! Fy2: picks, the bag that is made of the script, gcd -/
noncomputable section
namespace Fx
open PySem PySem.Spec PyProof.Rows L2

/-- a def that draws -/
def DrawOk (D : FF) : Prop := ∀ (B : MD) (n : Int), BagOk B → 0 < n → n < 2 ^ 64 → ∃ v B', D [B, .dat (.int n)] = some (.dat (.int v), [some B', none]) ∧ BagOk B' ∧ 0 ≤ v ∧ v < n
theorem drawOk : DrawOk drawF := fun B n h h1 h2 => drawF_ok h h1 h2
def pickF (D : FF) : FF := fnOf 2 2 (fRet 2 true (fOp2 gIx false (fVar 1) (fCall D (fACons (fVar 0) (fACons (fB gLen false (fACons (fVar 1) fANil)) fANil)))))
theorem pickF_ok {D : FF} (hD : DrawOk D) {B : MD} {ds : List PyData} (h : BagOk B) (h0 : ds ≠ []) (hl : ds.length < 2 ^ 64) : ∃ d B', pickF D [B, .dat (.list ds)] = some (.dat d, [some B', none]) ∧ BagOk B' ∧ d ∈ ds := by
  have hp : 0 < ds.length := List.length_pos_iff.mpr h0
  obtain ⟨v, B', e, h', v0, v1⟩ := hD B ds.length h (by omega) (by omega)
  obtain ⟨j, rfl⟩ : ∃ j : Nat, v = (j : Int) := ⟨v.toNat, by omega⟩
  have hj : j < ds.length := by omega
  have ej : ds[j]? = some ds[j] := List.getElem?_eq_getElem hj
  refine ⟨ds[j], B', ?_, h', List.getElem_mem hj⟩
  simp [fnOf, fSeq, fNil, fSet, fRet, fDrop, fIf, fFgt, fgtO, fgt, fFor, fIfE, fT, fTru, truD, fAnd, fOr, fNot, fAndV, fOrV, fNotV, fOp2, fVar, fC, fB, fACons, fANil, fTup, fLst, fNeg, gRel, gInt2, gInt2C, gAdd, gMulX_int, gIx, gLen, gAbs, gInt, gEq, gIs, gIsNot, dv_dat, dv_lst, dv_al, dvs, own_dat, own_lst, own_bag, own_dcK, own_scr, flat_dat, flat_lst, Res.fin, frzs_nil, frzs_cons, frz_dat, intT_int, outs, als, argsOf, putArgs, fCall, eqv_int, shp_int, shp_none, shp_bool, noOwn, ownAt, sizeLine_eq, fIter, itemsOf, fRange1, fRange2, eqX_int, eqX_str, fEnumA, fFrz, fNever, permOk, perm, fCallK, fCallP, gMax2, gMin2, gMax3, gMin3, fPar2, fMulti, putM, fAsgG, fLc, pickF, h.own, h'.own, e, atI_nat ej]
theorem pickF_okT {D : FF} (hD : DrawOk D) {B : MD} {ds : List PyData} (h : BagOk B) (h0 : ds ≠ []) (hl : ds.length < 2 ^ 64) : ∃ d B', pickF D [B, .dat (.tuple ds)] = some (.dat d, [some B', none]) ∧ BagOk B' ∧ d ∈ ds := by
  have hp : 0 < ds.length := List.length_pos_iff.mpr h0
  obtain ⟨v, B', e, h', v0, v1⟩ := hD B ds.length h (by omega) (by omega)
  obtain ⟨j, rfl⟩ : ∃ j : Nat, v = (j : Int) := ⟨v.toNat, by omega⟩
  have hj : j < ds.length := by omega
  have ej : ds[j]? = some ds[j] := List.getElem?_eq_getElem hj
  refine ⟨ds[j], B', ?_, h', List.getElem_mem hj⟩
  simp [fnOf, fSeq, fNil, fSet, fRet, fDrop, fIf, fFgt, fgtO, fgt, fFor, fIfE, fT, fTru, truD, fAnd, fOr, fNot, fAndV, fOrV, fNotV, fOp2, fVar, fC, fB, fACons, fANil, fTup, fLst, fNeg, gRel, gInt2, gInt2C, gAdd, gMulX_int, gIx, gLen, gAbs, gInt, gEq, gIs, gIsNot, dv_dat, dv_lst, dv_al, dvs, own_dat, own_lst, own_bag, own_dcK, own_scr, flat_dat, flat_lst, Res.fin, frzs_nil, frzs_cons, frz_dat, intT_int, outs, als, argsOf, putArgs, fCall, eqv_int, shp_int, shp_none, shp_bool, noOwn, ownAt, sizeLine_eq, fIter, itemsOf, fRange1, fRange2, eqX_int, eqX_str, fEnumA, fFrz, fNever, permOk, perm, fCallK, fCallP, gMax2, gMin2, gMax3, gMin3, fPar2, fMulti, putM, fAsgG, fLc, pickF, h.own, h'.own, e, atI_nat ej]

/-! ### kinds of values -/
theorem kit_eq (T : String) (h : kitB T T = some true := by decide) : kitB T T = some true := h
theorem kit1 : kitB "tuple" "tuple" = some true := by decide
theorem kit2 : kitB "int" "tuple" = some false := by decide
theorem kit3 : kitB "str" "tuple" = some false := by decide
theorem kit4 : kitB "NoneType" "tuple" = some false := by decide
theorem kit5 : kitB "int" "str" = some false := by decide
theorem kit6 : kitB "str" "str" = some true := by decide
theorem kit7 : kitB "int" "int" = some true := by decide
theorem kit8 : kitB "int" "bool" = some false := by decide
theorem cut63 {α : Type} (l : List α) (h : l.length ≤ 63) : cutL l none (some 63) = l := by
  refine cutL_whole ⟨rfl, ?_⟩
  rw [show (some (63 : Int)) = some ((63 : Nat) : Int) from rfl, HT.sIx_nat]
  omega
theorem zipD_self (ds : List PyData) : zipD ds ds = ds.map fun d => .tuple [d, d] := by
  unfold zipD
  induction ds with
  | nil => rfl
  | cons d r ih => rw [List.zip_cons_cons, List.map_cons, List.map_cons, ih]
theorem gAll_true (ds : List PyData) : gAll [.list (ds.map fun _ => PyData.bool true)] = some (.val (.bool true)) := by
  have e : (ds.map fun _ => PyData.bool true) = (ds.map fun _ => true).map PyData.bool := by rw [List.map_map]; rfl
  show (boolsOf (ds.map fun _ => PyData.bool true)).map (fun bs => Res.val (.bool (bs.all id))) = _
  rw [e, boolsOf_map]
  simp
theorem rangeD0 (n : Nat) : rangeD 0 n = (List.range n).map fun (x : Nat) => PyData.int x := by
  unfold rangeD
  simp
theorem rg1_nat {p : Nat} (h : p < 2 ^ 62) : rg1 p = some ((List.range p).map fun (x : Nat) => PyData.int x) := by
  unfold rg1
  rw [if_pos (show rgOk p = true from decide_eq_true (by omega)), Int.toNat_natCast, rangeD0]
theorem rgA_nat {p : Nat} (h : p ≤ 2 ^ 24) : rgA p = some ((List.range p).map fun (x : Nat) => PyData.int x) := by
  unfold rgA
  rw [if_pos (show rg2Ok 0 p = true from decide_eq_true (by omega)), Int.toNat_natCast, rangeD0]
theorem cut_from {α : Type} (l : List α) (b : Nat) (h : b ≤ l.length) : cutL l (some (b : Int)) none = l.drop b := by
  unfold cutL
  rw [HT.sIx_nat, HT.sIx_none, Nat.min_eq_left h, List.take_of_length_le (by simp)]
theorem cut_to {α : Type} (l : List α) (b : Nat) (h : b ≤ l.length) : cutL l none (some (b : Int)) = l.take b := by
  unfold cutL
  rw [HT.sIx_nat, HT.sIx_none, Nat.min_eq_left h, Nat.sub_zero, List.drop_zero]
theorem gSum_ints (l : List Int) : gSum [.list (l.map .int)] = some (.val (.int l.sum)) := by
  show (intsOf (l.map .int)).map _ = _
  rw [intsOf_map]
  rfl
/-- plain data: whole numbers, texts, None, tuples of such -/
inductive Plain : Nat → PyData → Prop
  | int (n : Nat) (i : Int) : Plain (n + 1) (.int i)
  | str (n : Nat) (x : Str) : x.length ≤ sizeLine → shp (.str x) = true → PyData.eqv (.str x) (.str x) = true → Plain (n + 1) (.str x)
  | non (n : Nat) : Plain (n + 1) .none
  | tup (n : Nat) (ds : List PyData) : ds.length ≤ sizeLine → (∀ d ∈ ds, Plain n d) → Plain (n + 1) (.tuple ds)
end Fx

end

/-! Fy3: tallies: in a dict, in a list -/
noncomputable section
namespace Fx
open PySem PySem.Spec PyProof.Rows L2

theorem isum_perm {l m : List Int} (h : l.Perm m) : l.sum = m.sum := by
  induction h with
  | nil => rfl
  | cons x _ ih => simp [ih]
  | swap x y l => simp; omega
  | trans _ _ h1 h2 => exact h1.trans h2
theorem sum_one {L : List Int} (nd : L.Nodup) {x : Int} (hx : x ∈ L) (f : Int → Int) : (L.map fun n => (if x = n then 1 else 0) * f n).sum = f x := by
  induction L with
  | nil => cases hx
  | cons y L ih =>
    have nd' := List.nodup_cons.mp nd
    rw [List.map_cons, List.sum_cons]
    by_cases e : x = y
    · subst e
      have z : (L.map fun n => (if x = n then 1 else 0) * f n).sum = 0 := by
        have : ∀ M : List Int, x ∉ M → (M.map fun n => (if x = n then 1 else 0) * f n).sum = 0 := by
          intro M
          induction M with
          | nil => intro _; rfl
          | cons z M ihM =>
            intro h
            have h' : x ≠ z ∧ x ∉ M := by simpa using h
            rw [List.map_cons, List.sum_cons, if_neg h'.1, ihM h'.2]
            simp
        exact this L nd'.1
      rw [if_pos rfl, z]
      simp
    · rw [if_neg e, ih nd'.2 ((List.mem_cons.mp hx).resolve_left e)]
      simp
/-- summed by what is met, each with its number of times -/
theorem tally_sum {L l : List Int} (nd : L.Nodup) (sub : ∀ x ∈ l, x ∈ L) (f : Int → Int) : (L.map fun n => (l.count n : Int) * f n).sum = (l.map f).sum := by
  induction l with
  | nil =>
    have : ∀ M : List Int, (M.map fun n => ((([] : List Int).count n : Nat) : Int) * f n).sum = 0 := by
      intro M
      induction M with
      | nil => rfl
      | cons z M ih => rw [List.map_cons, List.sum_cons, ih]; simp
    exact this L
  | cons x l ih =>
    have ih' := ih fun y hy => sub y (List.mem_cons_of_mem _ hy)
    rw [List.map_cons, List.sum_cons, ← ih', ← sum_one nd (sub x List.mem_cons_self) f]
    have : ∀ M : List Int, (M.map fun n => (((x :: l).count n : Nat) : Int) * f n).sum = (M.map fun n => (if x = n then 1 else 0) * f n).sum + (M.map fun n => (l.count n : Int) * f n).sum := by
      intro M
      induction M with
      | nil => rfl
      | cons z M ihM =>
        rw [List.map_cons, List.sum_cons, ihM, List.map_cons, List.sum_cons, List.map_cons, List.sum_cons, List.count_cons]
        by_cases e : x = z
        · subst e
          simp [Int.add_mul]
          omega
        · have e' : (x == z) = false := by simpa using e
          simp [e, e']
          omega
    exact this L
/-! ### in a dict -/
def dtal (l : List Int) : List (Key × PyData) := (dd l).map fun n => (Sum.inl n, PyData.int (l.count n))
theorem dtal_val (l : List Int) (n : Int) : (valD (dtal l) (.inl n)).getD (.int 0) = .int (l.count n) := by
  have go : ∀ M : List Int, (valD (M.map fun m => ((Sum.inl m : Key), PyData.int (l.count m))) (.inl n)) = if n ∈ M then some (.int (l.count n)) else none := by
    intro M
    induction M with
    | nil => rfl
    | cons z M ih =>
      unfold valD at ih ⊢
      rw [List.map_cons, List.find?_cons]
      by_cases e : z = n
      · subst e
        simp
      · have e' : decide ((Sum.inl z : Key) = Sum.inl n) = false := decide_eq_false fun h => e (Sum.inl.inj h)
        rw [e', ih]
        have : n ∈ z :: M ↔ n ∈ M := by simp [Ne.symm e]
        simp [this]
  unfold dtal
  rw [go]
  split
  · rfl
  · rename_i h
    have : n ∉ l := fun hn => h (((dd_nodup_mem l).2 n).mpr hn)
    rw [List.count_eq_zero.mpr this]
    rfl
theorem dtal_put (l : List Int) (n : Int) : putD (dtal l) (.inl n) (.int (l.count n + 1)) = dtal (l ++ [n]) := by
  have hc : ∀ m : Int, (l ++ [n]).count m = l.count m + if n = m then 1 else 0 := fun m => by
    rw [List.count_append, List.count_cons, List.count_nil]
    by_cases e : n = m
    · subst e; simp
    · simp [e]
  have any : ((dtal l).any fun p => decide (p.1 = (.inl n : Key))) = decide (n ∈ dd l) := by
    unfold dtal
    induction dd l with
    | nil => rfl
    | cons z M ih =>
      rw [List.map_cons, List.any_cons, ih]
      by_cases e : z = n
      · subst e; simp
      · have e' : decide ((Sum.inl z : Key) = Sum.inl n) = false := decide_eq_false fun h => e (Sum.inl.inj h)
        show (decide ((Sum.inl z : Key) = Sum.inl n) || _) = _
        rw [e']
        simp [Ne.symm e]
  unfold putD
  rw [any]
  by_cases h : n ∈ dd l
  · rw [if_pos (decide_eq_true h)]
    unfold dtal
    rw [dd_snoc, if_pos h, List.map_map]
    refine List.map_congr_left fun m _ => ?_
    show (if (Sum.inl m : Key) = Sum.inl n then ((Sum.inl m : Key), PyData.int (l.count n + 1)) else (Sum.inl m, PyData.int (l.count m))) = _
    by_cases e : m = n
    · subst e
      rw [if_pos rfl, hc, if_pos rfl]
      rfl
    · rw [if_neg (fun z => e (Sum.inl.inj z)), hc, if_neg (Ne.symm e)]
      rfl
  · rw [if_neg (by simpa using h)]
    unfold dtal
    rw [dd_snoc, if_neg h, List.map_append]
    have h0 : l.count n = 0 := List.count_eq_zero.mpr fun z => h (((dd_nodup_mem l).2 n).mpr z)
    congr 1
    · refine List.map_congr_left fun m hm => ?_
      rw [hc, if_neg (fun (z : n = m) => h (z ▸ hm))]
      rfl
    · show [((Sum.inl n : Key), PyData.int (l.count n + 1))] = [(Sum.inl n, PyData.int ((l ++ [n]).count n : Nat))]
      rw [hc, if_pos rfl]
      rfl
theorem dtal_keys (l : List Int) : intK (dtal l) = some (dd l) := by
  unfold dtal
  induction dd l with
  | nil => rfl
  | cons z M ih =>
    show (intK (M.map fun n => ((Sum.inl n : Key), PyData.int (l.count n)))).map (fun r => z :: r) = some (z :: M)
    rw [ih]
    rfl
/-! ### in a list -/
def tally (k : Nat) (l : List Int) : List PyData := (List.range (k + 1)).map fun (j : Nat) => PyData.int (l.count (j : Int))
theorem tally_nil (k : Nat) : tally k [] = List.replicate (k + 1) (.int 0) := by
  unfold tally
  apply List.ext_getElem
  · simp
  · intro i h1 h2
    simp
theorem tally_set {k n : Nat} (l : List Int) (h : n ≤ k) : (tally k l).set n (.int (l.count (n : Int) + 1)) = tally k (l ++ [(n : Int)]) := by
  unfold tally
  apply List.ext_getElem
  · simp
  · intro i h1 h2
    simp only [List.getElem_set, List.getElem_map, List.getElem_range]
    rw [List.count_append, List.count_cons, List.count_nil]
    by_cases e : n = i
    · subst e; simp
    · have : ¬ (n : Int) = i := by omega
      simp [e, this]
theorem tally_get {k n : Nat} (l : List Int) (h : n ≤ k) : (tally k l)[n]? = some (.int (l.count (n : Int))) := by
  unfold tally
  rw [List.getElem?_map, List.getElem?_range (by omega)]
  rfl
end Fx

end

/-! Fy4: loops as folds and searches, texts that repr tells -/
noncomputable section
namespace Fx
open PySem PySem.Spec PyProof.Rows L2

/-! ### loops -/
/-- a loop that hands a state on -/
theorem loopS_foldI {σ α : Type} {tg : FG} {b : FS} {g : α → PyData} {st : σ → Gm} {f : σ → α → σ} (I : σ → Prop) : ∀ (l : List α) (s : σ), I s → (∀ x ∈ l, ∀ s, I s → lsStep tg b (g x) (st s) = some (.nx (st (f s x))) ∧ I (f s x)) → loopS tg b (l.map g) (st s) = some (.nx (st (l.foldl f s))) ∧ I (l.foldl f s)
  | [], s, hs, _ => ⟨rfl, hs⟩
  | x :: l, s, hs, h => by
    obtain ⟨h1, h2⟩ := h x List.mem_cons_self s hs
    have ih := loopS_foldI (tg := tg) (b := b) (g := g) (st := st) (f := f) I l (f s x) h2 fun y hy => h y (List.mem_cons_of_mem _ hy)
    rw [List.map_cons, loopS_cons, h1]
    exact ih
theorem loopS_fold {σ α : Type} {tg : FG} {b : FS} {g : α → PyData} {st : σ → Gm} {f : σ → α → σ} (l : List α) (s : σ) (h : ∀ x ∈ l, ∀ s, lsStep tg b (g x) (st s) = some (.nx (st (f s x)))) : loopS tg b (l.map g) (st s) = some (.nx (st (l.foldl f s))) :=
  (loopS_foldI (fun _ => True) l s True.intro fun x hx s _ => ⟨h x hx s, True.intro⟩).1
/-- a loop that searches -/
theorem loopS_find {α : Type} {tg : FG} {b : FS} {g : α → PyData} {Γ : Gm} {p : α → Option (MD × Gm)} : ∀ (l : List α), (∀ x ∈ l, lsStep tg b (g x) Γ = some (match p x with | none => .nx Γ | some (m, Γ') => .rt m Γ')) → loopS tg b (l.map g) Γ = some (match l.findSome? p with | none => .nx Γ | some (m, Γ') => .rt m Γ')
  | [], _ => rfl
  | x :: l, h => by
    have h1 := h x List.mem_cons_self
    have ih := loopS_find (tg := tg) (b := b) (g := g) (Γ := Γ) (p := p) l fun y hy => h y (List.mem_cons_of_mem _ hy)
    rw [List.map_cons, loopS_cons, h1, List.findSome?_cons]
    cases hp : p x with
    | none => exact ih
    | some q => rfl
/-- all turns are gone through -/
theorem loopS_all {α : Type} {tg : FG} {b : FS} {g : α → PyData} {Γ : Gm} (l : List α) (h : ∀ x ∈ l, lsStep tg b (g x) Γ = some (.nx Γ)) : loopS tg b (l.map g) Γ = some (.nx Γ) := by
  have := loopS_find (tg := tg) (b := b) (g := g) (Γ := Γ) (p := fun _ => none) l h
  rw [this]
  have e : l.findSome? (fun _ => (none : Option (MD × Gm))) = none := by simp
  rw [e]
theorem enumD_map {α : Type} (g : α → PyData) (l : List α) : enumD (l.map g) = l.zipIdx.map fun p => .tuple [.int (p.2 : Nat), g p.1] := by
  unfold enumD
  rw [List.zipIdx_map, List.map_map]
  rfl
theorem zipD_map {α β : Type} (f : α → PyData) (g : β → PyData) (l : List α) (m : List β) : zipD (l.map f) (m.map g) = (l.zip m).map fun p => .tuple [f p.1, g p.2] := by
  unfold zipD
  rw [List.zip_map, List.map_map]
  rfl
theorem gSumA_list (l : List Int) : gSumA [.list (l.map .int)] = some (.val (.int l.sum)) := by
  show (intsOf (l.map .int)).map _ = _
  rw [intsOf_map]
  rfl
theorem gSumA_tuple (l : List Int) : gSumA [.tuple (l.map .int)] = some (.val (.int l.sum)) := by
  show (intsOf (l.map .int)).map _ = _
  rw [intsOf_map]
  rfl
theorem gAll_trueA {α : Type} (l : List α) : gAll [.list (l.map fun _ => PyData.bool true)] = some (.val (.bool true)) := by
  have e : (l.map fun _ => PyData.bool true) = (l.map fun _ => true).map PyData.bool := by rw [List.map_map]; rfl
  show (boolsOf (l.map fun _ => PyData.bool true)).map (fun bs => Res.val (.bool (bs.all id))) = _
  rw [e, boolsOf_map]
  simp
/-! ### what repr tells -/
/-- data of depth n whose text is no longer than 1930 c signs -/
def Rp (n c : Nat) (d : PyData) : Prop := d.showable = true ∧ d.canLay0 = true ∧ d.depth ≤ n ∧ d.shown.length + 4 ≤ 1930 * c
theorem Rp.mono {n m c e : Nat} {d : PyData} (h : Rp n c d) (h1 : n ≤ m) (h2 : c ≤ e) : Rp m e d := ⟨h.1, h.2.1, by have := h.2.2.1; omega, by have := h.2.2.2; have := Nat.mul_le_mul_left 1930 h2; omega⟩
theorem Rp.int {i : Int} (h : i.natAbs.log2 < 1920) : Rp 0 1 (.int i) := ⟨by simpa [PyData.showable] using h, rfl, Nat.le_refl _, by
  have := int_text_len_1921 h
  have e : (PyData.int i).shown = PySem.Str.ofString (toString i) := rfl
  rw [e]
  omega⟩
theorem Rp.small {i : Int} (h : i.natAbs < 2 ^ 1000) : Rp 0 1 (.int i) := .int (by
  by_cases h0 : i.natAbs = 0
  · rw [h0]; decide
  · have := (Nat.log2_lt h0).mpr h
    omega)
theorem Rp.non : Rp 0 1 .none := ⟨rfl, rfl, Nat.le_refl _, by decide +kernel⟩
theorem Rp.bool (b : Bool) : Rp 0 1 (.bool b) := ⟨rfl, rfl, Nat.le_refl _, by cases b <;> decide +kernel⟩
theorem Rp.str {x : Str} (h : (PyData.str x).canLay0 = true) (hl : x.length ≤ 100) : Rp 0 1 (.str x) := ⟨rfl, h, Nat.le_refl _, by
  have e : (PyData.str x).shown = reprText x := PyData.shown_str x
  have h' : PyData.strOk x = true := by simpa only [PyData.canLay0] using h
  have := StrLaws.reprText_len x fun c hc => by
    unfold PyData.strOk at h'
    have := Array.all_eq_true_iff_forall_mem.mp h' c (by simpa using hc)
    have : c < 0x110000 := by simpa using this
    omega
  rw [e]
  omega⟩
theorem shownAll_map : ∀ ds : List PyData, PyData.shownAll ds = ds.map PyData.shown
  | [] => rfl
  | d :: ds => by rw [PyData.shownAll, shownAll_map ds, List.map_cons]
theorem Rp.all {n c : Nat} : ∀ {ds : List PyData}, (∀ d ∈ ds, Rp n c d) → PyData.showableAll ds = true ∧ PyData.canLayAll0 ds = true ∧ PyData.depthAll ds ≤ n ∧ piled (PyData.shownAll ds) ≤ 1930 * (ds.length * c)
  | [], _ => ⟨rfl, rfl, Nat.zero_le _, Nat.zero_le _⟩
  | d :: ds, h => by
    obtain ⟨h1, h2, h3, h4⟩ := h d List.mem_cons_self
    obtain ⟨k1, k2, k3, k4⟩ := Rp.all fun e he => h e (List.mem_cons_of_mem _ he)
    refine ⟨by simp [PyData.showableAll, h1, k1], by simp [PyData.canLayAll0, h2, k2], by simp only [PyData.depthAll]; omega, ?_⟩
    rw [PyData.shownAll, piled_cons, List.length_cons, Nat.add_mul]
    omega
theorem textFrom_le (ts : List Str) : (listText ts).length ≤ piled ts + 2 := by
  cases ts with
  | nil => decide +kernel
  | cons t r =>
    have h := textFrom_length_pos r 1 (("[" : Str) ++ (if (0 : Nat) > 0 then ", " else "" : String) ++ t) (Nat.succ_pos 0)
    have e : (("[" : Str) ++ (if (0 : Nat) > 0 then ", " else "" : String) ++ t).length = 1 + t.length := by
      rw [strLen_append, strLen_append]
      rfl
    show (textFrom 1 _ r ++ ("]" : Str)).length ≤ _
    rw [strLen_append, h, e, piled_cons]
    have : ("]" : Str).length = 1 := rfl
    omega
theorem tupleText_le (ts : List Str) : (tupleText ts).length ≤ piled ts + 3 := by
  cases ts with
  | nil => decide +kernel
  | cons t r =>
    have h := join_length_add (t :: r) (by simp)
    show ((("(" : Str) ++ Str.join ", " (t :: r)) ++ (if (t :: r).length == 1 then ",)" else ")" : String)).length ≤ _
    rw [strLen_append, strLen_append]
    have e1 : ("(" : Str).length = 1 := rfl
    have e2 : ((if (t :: r).length == 1 then ",)" else ")" : String) : Str).length ≤ 2 := by
      split <;> decide +kernel
    omega
theorem Rp.list {n c k : Nat} {ds : List PyData} (h : ∀ d ∈ ds, Rp n c d) (hk : ds.length ≤ k) : Rp (n + 1) (1 + k * c) (.list ds) := by
  obtain ⟨k1, k2, k3, k4⟩ := Rp.all h
  refine ⟨by simpa [PyData.showable] using k1, by simpa only [PyData.canLay0] using k2, by simp only [PyData.depth]; omega, ?_⟩
  have := textFrom_le (PyData.shownAll ds)
  have hm := Nat.mul_le_mul_right c hk
  have hm2 := Nat.mul_le_mul_left 1930 hm
  rw [PyData.shown]
  omega
theorem Rp.tuple {n c k : Nat} {ds : List PyData} (h : ∀ d ∈ ds, Rp n c d) (hk : ds.length ≤ k) : Rp (n + 1) (1 + k * c) (.tuple ds) := by
  obtain ⟨k1, k2, k3, k4⟩ := Rp.all h
  refine ⟨by simpa [PyData.showable] using k1, by simpa only [PyData.canLay0] using k2, by simp only [PyData.depth]; omega, ?_⟩
  have := tupleText_le (PyData.shownAll ds)
  have hm := Nat.mul_le_mul_right c hk
  have hm2 := Nat.mul_le_mul_left 1930 hm
  rw [PyData.shown]
  omega
theorem Rp.shaped {n c : Nat} {d : PyData} (h : Rp n c d) (hn : n ≤ 64) : SeqAt.shaped d = true := by
  unfold SeqAt.shaped
  have := h.2.2.1
  rw [h.2.1, Bool.true_and]
  exact decide_eq_true (by omega)
theorem gRepr_ok {n c : Nat} {d : PyData} (h : Rp n c d) (hn : n ≤ 64) (hc : c ≤ 8000) : gRepr [d] = some (.val (.str d.shown)) := by
  have sh := h.shaped hn
  have hz : d.shown.length ≤ sizeLine := by
    have := h.2.2.2
    rw [PySem.sizeLine_eq]
    omega
  have h1 := h.1
  cases d with
  | none => rfl
  | bool b => rfl
  | int i =>
    have : i.natAbs.log2 < 1920 := by simpa [PyData.showable] using h1
    simp [gRepr, this]
  | str x =>
    have e : (PyData.str x).shown = reprText x := PyData.shown_str x
    rw [e] at hz
    simp [gRepr, hz]
  | list ds => simp [gRepr, h1, sh, hz]
  | tuple ds => simp [gRepr, h1, sh, hz]
  | dict _ => have := h.2.1; simp [PyData.canLay0] at this
end Fx

end

/-! Fy5: slices, comparisons of data with itself -/
noncomputable section
namespace Fx
open PySem PySem.Spec PyProof.Rows L2

theorem cut_mid {α : Type} (l : List α) (b e : Nat) (h : b ≤ e) (h2 : e ≤ l.length) : cutL l (some (b : Int)) (some (e : Int)) = (l.drop b).take (e - b) := by
  unfold cutL
  rw [HT.sIx_nat, HT.sIx_nat, Nat.min_eq_left h2, Nat.min_eq_left (Nat.le_trans h h2)]
theorem ixN_nat {n j : Nat} (h : j < n) : ixN n (j : Int) = some j := by
  unfold ixN
  rw [if_pos (by omega), if_pos (by omega), Int.toNat_natCast]
theorem shp_ints (l : List Int) : shp (.tuple (l.map .int)) = true := by
  show SeqAt.shaped (.tuple (l.map .int)) = true
  unfold SeqAt.shaped
  simp [PyData.canLay0, canLay_ints, PyData.depth, depth_ints]
theorem shp_intsL (l : List Int) : shp (.list (l.map .int)) = true := by
  show SeqAt.shaped (.list (l.map .int)) = true
  unfold SeqAt.shaped
  simp [PyData.canLay0, canLay_ints, PyData.depth, depth_ints]
theorem eqvAll_ints : ∀ a b : List Int, PyData.eqvAll (a.map .int) (b.map .int) = decide (a = b)
  | [], [] => by simp [PyData.eqvAll]
  | [], _ :: _ => by simp [PyData.eqvAll]
  | _ :: _, [] => by simp [PyData.eqvAll]
  | x :: a, y :: b => by
    rw [List.map_cons, List.map_cons, PyData.eqvAll, eqvAll_ints a b, eqv_int]
    by_cases h1 : x = y <;> by_cases h2 : a = b <;> simp [h1, h2]
theorem eqv_ints (a b : List Int) : PyData.eqv (.tuple (a.map .int)) (.tuple (b.map .int)) = decide (a = b) := by rw [PyData.eqv, eqvAll_ints]
theorem eqv_intsL (a b : List Int) : PyData.eqv (.list (a.map .int)) (.list (b.map .int)) = decide (a = b) := by rw [PyData.eqv, eqvAll_ints]
theorem eqX_ints (neg : Bool) (a b : List Int) : gEqX neg (.tuple (a.map .int)) (.tuple (b.map .int)) = some (.val (.bool (if neg then !decide (a = b) else decide (a = b)))) := by
  have e : PyData.eqv (.tuple (a.map .int)) (.tuple (b.map .int)) = decide (a = b) := by rw [PyData.eqv, eqvAll_ints]
  simp [gEqX, gEq, shp_ints, e]
theorem eqX_intsL (neg : Bool) (a b : List Int) : gEqX neg (.list (a.map .int)) (.list (b.map .int)) = some (.val (.bool (if neg then !decide (a = b) else decide (a = b)))) := by
  have e : PyData.eqv (.list (a.map .int)) (.list (b.map .int)) = decide (a = b) := by rw [PyData.eqv, eqvAll_ints]
  simp [gEqX, gEq, shp_intsL, e]
theorem eqX_self {n c : Nat} {d : PyData} (neg : Bool) (h : Rp n c d) (hn : n ≤ 64) : gEqX neg d d = some (.val (.bool (!neg))) := by
  have sh := h.shaped hn
  have e := SeqAt.eqv_refl d h.2.1
  have s2 : shp d = true := by
    unfold shp
    split <;> first | rfl | exact sh
  cases d <;> cases neg <;> simp [gEqX, gEq, s2, e]
theorem gReprX_ok {n c : Nat} {d : PyData} (h : Rp n c d) (hn : n ≤ 64) (hc : c ≤ 8000) : gReprX [d] = some (.val (.str d.shown)) := by
  unfold gReprX
  rw [gRepr_ok h hn hc]
theorem gReprX_dict0 : gReprX [.dict []] = some (.val (.str (PyData.dict []).shown)) := rfl
/-- data without lists, {} among it -/
def Rq (n c : Nat) (d : PyData) : Prop := d.showable = true ∧ rdD d = true ∧ d.depth ≤ n ∧ d.shown.length + 4 ≤ 1930 * c
theorem Rq.flat {d : PyData} (h : Rp 0 1 d) : Rq 0 1 d := ⟨h.1, by
  have h2 := h.2.2.1
  cases d with
  | list _ => simp [PyData.depth] at h2
  | tuple _ => simp [PyData.depth] at h2
  | dict _ => simp [PyData.depth] at h2
  | _ => rfl, h.2.2.1, h.2.2.2⟩
theorem Rq.mono {n m c e : Nat} {d : PyData} (h : Rq n c d) (h1 : n ≤ m) (h2 : c ≤ e) : Rq m e d := ⟨h.1, h.2.1, by have := h.2.2.1; omega, by have := h.2.2.2; have := Nat.mul_le_mul_left 1930 h2; omega⟩
theorem Rq.dict : Rq 1 1 (.dict []) := ⟨rfl, rfl, by decide, by decide +kernel⟩
theorem Rq.all {n c : Nat} : ∀ {ds : List PyData}, (∀ d ∈ ds, Rq n c d) → PyData.showableAll ds = true ∧ rdDs ds = true ∧ PyData.depthAll ds ≤ n ∧ piled (PyData.shownAll ds) ≤ 1930 * (ds.length * c)
  | [], _ => ⟨rfl, rfl, Nat.zero_le _, Nat.zero_le _⟩
  | d :: ds, h => by
    obtain ⟨h1, h2, h3, h4⟩ := h d List.mem_cons_self
    obtain ⟨k1, k2, k3, k4⟩ := Rq.all fun e he => h e (List.mem_cons_of_mem _ he)
    refine ⟨by simp [PyData.showableAll, h1, k1], by simp [rdDs, h2, k2], by simp only [PyData.depthAll]; omega, ?_⟩
    rw [PyData.shownAll, piled_cons, List.length_cons, Nat.add_mul]
    omega
theorem Rq.tuple {n c k : Nat} {ds : List PyData} (h : ∀ d ∈ ds, Rq n c d) (hk : ds.length ≤ k) : Rq (n + 1) (1 + k * c) (.tuple ds) := by
  obtain ⟨k1, k2, k3, k4⟩ := Rq.all h
  refine ⟨by simpa [PyData.showable] using k1, by simpa only [rdD] using k2, by simp only [PyData.depth]; omega, ?_⟩
  have := tupleText_le (PyData.shownAll ds)
  have hm := Nat.mul_le_mul_right c hk
  have hm2 := Nat.mul_le_mul_left 1930 hm
  rw [PyData.shown]
  omega
/-- repr tells of it, one way or the other -/
theorem gReprX_tuple {n c : Nat} {ds : List PyData} (h : Rq n c (.tuple ds)) (hn : n ≤ 60) (hc : c ≤ 8000) : ∃ s, gReprX [.tuple ds] = some (.val (.str s)) := by
  have hz : (PyData.tuple ds).shown.length ≤ sizeLine := by
    have := h.2.2.2
    rw [PySem.sizeLine_eq]
    omega
  have h2 : rdDs ds = true := by simpa only [rdD] using h.2.1
  have h3 : (PyData.tuple ds).depth ≤ 60 := Nat.le_trans h.2.2.1 hn
  unfold gReprX
  cases q : gRepr [.tuple ds] with
  | some r =>
    simp only [gRepr] at q
    split at q
    · cases q
      exact ⟨_, rfl⟩
    · cases q
  | none =>
    refine ⟨(PyData.tuple ds).shown, ?_⟩
    simp [h2, h.1, h3, hz]
end Fx

end

noncomputable section
namespace Lw
open PySem PySem.Spec PyProof.Rows L2 Fx
def topS (i : Nat) : Stmt := PySem.Challenge.pw_looksdrawn_k43_whole_rows_of_bits.main.body.getD i (.Pass ⟨0, 0, 0, 0⟩)
abbrev s_rows_error : Stmt := topS 2
abbrev N_rows_error : List Str := ["value", "i", "item"]
abbrev s_stretch_lean : Stmt := topS 3
abbrev N_stretch_lean : List Str := ["row", "found", "high", "low", "bit", "step"]
abbrev s_lean_at : Stmt := topS 4
abbrev N_lean_at : List Str := ["row", "begin", "end"]
abbrev s_ring_match : Stmt := topS 5
abbrev N_ring_match : List Str := ["row", "shift", "many", "moved", "agreed", "one", "other"]
abbrev s_word_counts : Stmt := topS 6
abbrev N_word_counts : List Str := ["row", "many", "found", "size", "number", "k", "begin"]
abbrev s__law_own_bag : Stmt := topS 8
abbrev N__law_own_bag : List Str := ["script", "cells", "mixed", "cell"]
abbrev s__law_draw : Stmt := topS 9
abbrev N__law_draw : List Str := ["bag", "below", "cell", "found"]
abbrev s__law_pick : Stmt := topS 10
abbrev N__law_pick : List Str := ["bag", "some"]
abbrev s__law_same : Stmt := topS 11
abbrev N__law_same : List Str := ["told", "due", "k"]
abbrev s__law_own_row : Stmt := topS 12
abbrev N__law_own_row : List Str := ["bag", "many", "way", "some", "row", "place"]
abbrev s__law_lean : Stmt := topS 13
abbrev N__law_lean : List Str := ["row", "bit"]
abbrev s__law_stretch : Stmt := topS 14
abbrev N__law_stretch : List Str := ["row", "now", "high", "low", "bit"]
abbrev s__law_match : Stmt := topS 15
abbrev N__law_match : List Str := ["row", "shift", "many", "way", "moved", "a", "b"]
abbrev s__law_words : Stmt := topS 16
abbrev N__law_words : List Str := ["row", "many", "counts", "size", "number", "turn", "place"]
abbrev s__law_shift : Stmt := topS 17
abbrev N__law_shift : List Str := ["bag", "many", "way", "shift", "turn"]
abbrev s__law_put : Stmt := topS 18
abbrev N__law_put : List Str := ["row", "at", "item"]
abbrev s__law_are_errors_right : Stmt := topS 19
abbrev N__law_are_errors_right : List Str := ["bag", "row", "bit", "full", "some", "last", "at", "bad", "k", "value", "due", "kept", "told"]
abbrev s__law_are_leans_right : Stmt := topS 20
abbrev N__law_are_leans_right : List Str := ["bag", "row", "many", "begin", "end", "whole", "part", "low", "high", "ahead", "behind", "due"]
abbrev s__law_are_matches_right : Stmt := topS 21
abbrev N__law_are_matches_right : List Str := ["bag", "row", "many", "turn", "shift", "due", "told"]
abbrev s__law_are_words_right : Stmt := topS 22
abbrev N__law_are_words_right : List Str := ["bag", "row", "many", "due", "told", "half", "less", "by_last", "by_first", "k"]
abbrev s_law : Stmt := topS 23
abbrev N_law : List Str := ["script", "bag", "way", "many", "row", "ring", "short", "one"]
def FUEL : Nat := 1000000
def b1_rows_error : FS := fFgt [1, 2] (fIf (fOr (fNot (fTru (fIsi "int" (fVar 2)))) (fOr (fTru (fIsi "bool" (fVar 2))) (fT (fOp2 (gIn true) false (fVar 2) (fTup (fACons (fC (.int 0)) (fACons (fC (.int 1)) fANil))))))) (fRet 1 true (fTup (fACons (fC (.str "bit")) (fACons (fVar 1) fANil)))) fNil)
def F_rows_error : FF := fnOf 1 3 (fSeq (fIf (fNot (fTru (fIsi "tuple" (fVar 0)))) (fRet 1 true (fC (.str "form"))) fNil) (fSeq (fIf (fT (fOp2 gGt false (fB gLen false (fACons (fVar 0) fANil)) (fC (.int 256)))) (fRet 1 true (fC (.str "many"))) fNil) (fSeq (fFor (fEnumA (fVar 0)) (gT 2 (gsCons (gN 1) (gsCons (gN 2) gsNil))) b1_rows_error) (fRet 1 true (fC .none)))))
def b1_stretch_lean : FS := fFgt [4, 5] (fSeq (fSet 1 5 (fIfE (fT (fOp2 (gEqX false) false (fVar 4) (fC (.int 1)))) (fC (.int 1)) (fNeg (fC (.int 1))))) (fSeq (fPar2 1 2 3 (fB gMax2 false (fACons (fC (.int 0)) (fACons (fOp2 gAdd false (fVar 2) (fVar 5)) fANil))) (fB gMin2 false (fACons (fC (.int 0)) (fACons (fOp2 gAdd false (fVar 3) (fVar 5)) fANil)))) (fSet 1 1 (fB gMax3 false (fACons (fVar 1) (fACons (fVar 2) (fACons (fNeg (fVar 3)) fANil)))))))
def F_stretch_lean : FF := fnOf 1 6 (fSeq (fMulti 1 [1, 2, 3] (fACons (fC (.int 0)) (fACons (fC (.int 0)) (fACons (fC (.int 0)) fANil)))) (fSeq (fFor (fIter (fVar 0)) (gN 4) b1_stretch_lean) (fRet 1 true (fVar 1))))
def F_lean_at : FF := fnOf 3 3 (fRet 3 true (fOp2 gSub false (fOp2 gMulX false (fC (.int 2)) (fB gSumA false (fACons (fSlice false (fVar 0) (fOSo (fVar 1)) (fOSo (fVar 2))) fANil))) (fOp2 gSub false (fVar 2) (fVar 1))))
def e1_ring_match : FE := fB gInt false (fACons (fOp2 (gEqX false) false (fVar 5) (fVar 6)) fANil)
def F_ring_match : FF := fnOf 2 7 (fSeq (fSet 2 2 (fB gLen false (fACons (fVar 0) fANil))) (fSeq (fSet 2 3 (fOp2 gMod false (fVar 1) (fVar 2))) (fSeq (fSet 2 4 (fB gSumA false (fACons (fLc false (fZip (fACons (fVar 0) (fACons (fOp2 gAdd false (fSlice false (fVar 0) (fOSo (fVar 3)) fONo) (fSlice false (fVar 0) fONo (fOSo (fVar 3)))) fANil))) (gT 2 (gsCons (gN 5) (gsCons (gN 6) gsNil))) tYesF e1_ring_match [5, 6]) fANil))) (fRet 2 true (fOp2 gSub false (fOp2 gMulX false (fC (.int 2)) (fVar 4)) (fVar 2))))))
def b1_word_counts : FS := fFgt [5] (fSet 2 4 (fOp2 gAdd false (fOp2 gMulX false (fC (.int 2)) (fVar 4)) (fOp2 gIx false (fVar 0) (fOp2 gMod false (fVar 5) (fVar 3)))))
def b2_word_counts : FS := fFgt [6] (fSeq (fPutIx 2 (fOp2 gAdd false (fOp2 gIx false (fVar 2) (fVar 4)) (fC (.int 1))) (fVar 4)) (fSet 2 4 (fOp2 gMod false (fOp2 gAdd false (fOp2 gMulX false (fC (.int 2)) (fVar 4)) (fOp2 gIx false (fVar 0) (fOp2 gMod false (fOp2 gAdd false (fVar 6) (fVar 1)) (fVar 3)))) (fOp2 gShl false (fC (.int 1)) (fVar 1)))))
def F_word_counts : FF := fnOf 2 7 (fSeq (fPar2 2 2 3 (fOp2 gMulX true (fLst false (fACons (fC (.int 0)) fANil)) (fOp2 gShl false (fC (.int 1)) (fVar 1))) (fB gLen false (fACons (fVar 0) fANil))) (fSeq (fSet 2 4 (fC (.int 0))) (fSeq (fFor (fRange1 (fVar 1)) (gN 5) b1_word_counts) (fSeq (fFor (fRange1 (fVar 3)) (gN 6) b2_word_counts) (fFrz 2 (fRet 2 true (fB gToT false (fACons (fVar 2) fANil))))))))
def e1__law_own_bag : FE := fB gAbs false (fACons (fVar 3) fANil)
def b2__law_own_bag : FS := fFgt [3] (fSet 1 2 (fOp2 gMod false (fB gInt false (fACons (fOp2 gAdd false (fOp2 gAdd false (fOp2 gMulX false (fVar 2) (fC (.int 48271))) (fOp2 gMod false (fB gInt false (fACons (fVar 3) fANil)) (fC (.int 2147483629)))) (fC (.int 7))) fANil)) (fC (.int 2147483647))))
def F__law_own_bag : FF := fnOf 1 4 (fSeq (fSet 1 1 (fLc false (fIter (fSlice false (fVar 0) fONo (fOSo (fC (.int 63))))) (gN 3) tYesF e1__law_own_bag [3])) (fSeq (fSet 1 2 (fOp2 gAdd false (fC (.int 1357)) (fB gLen false (fACons (fVar 1) fANil)))) (fSeq (fFor (fIter (fVar 1)) (gN 3) b2__law_own_bag) (fRet 1 false (fMkBag (fListRev true (fB gToL false (fACons (fVar 1) fANil))) (fC (.int 0)) (fVar 2))))))
def c1__law_draw : FT := fAnd (fT (fOp2 (gEqX false) false (fBagIx 0 1) (fC (.int 0)))) (fT (fBagNe 0))
def b2__law_draw : FS := fFgt [2] (fSeq (fSet 2 2 (fBagPop 0)) (fBagPut 0 1 (fIfE (fT (fOp2 gGt false (fVar 2) (fOp2 gPow false (fC (.int 10)) (fC (.int 9))))) (fVar 2) (fC (.int 0)))))
def F__law_draw : FF := fnOf 2 4 (fSeq (fWhile c1__law_draw b2__law_draw FUEL) (fSeq (fIf (fT (fOp2 gGt false (fBagIx 0 1) (fC (.int 0)))) (fSeq (fSet 2 3 (fOp2 gMod false (fB gInt false (fACons (fBagIx 0 1) fANil)) (fVar 1))) (fSeq (fBagPut 0 1 (fIfE (fT (fOp2 gGt false (fVar 1) (fC (.int 1)))) (fOp2 gDiv false (fBagIx 0 1) (fVar 1)) (fOp2 gDiv false (fBagIx 0 1) (fC (.int 2))))) (fRet 2 true (fVar 3)))) fNil) (fSeq (fBagPut 0 2 (fOp2 gMod false (fB gInt false (fACons (fOp2 gAdd false (fOp2 gMulX false (fBagIx 0 2) (fC (.int 48271))) (fC (.int 11))) fANil)) (fC (.int 2147483647)))) (fRet 2 true (fOp2 gMod false (fB gInt false (fACons (fOp2 gDiv false (fOp2 gMod false (fB gInt false (fACons (fOp2 gMulX false (fBagIx 0 2) (fBagIx 0 2)) fANil)) (fC (.int 2147483629))) (fC (.int 7))) fANil)) (fVar 1))))))
def F__law_pick : FF := fnOf 2 2 (fRet 2 true (fOp2 gIx false (fVar 1) (fCall F__law_draw (fACons (fVar 0) (fACons (fB gLen false (fACons (fVar 1) fANil)) fANil)))))
def e1__law_same (R : FF) : FE := fCall R (fACons (fOp2 gIx false (fVar 0) (fVar 2)) (fACons (fOp2 gIx false (fVar 1) (fVar 2)) fANil))
def F__law_same : Nat → FF
  | 0 => fun _ => none
  | n + 1 => fnOf 2 3 (fSeq (fIf (fT (fOp2 gIs false (fVar 1) (fC .none))) (fRet 2 true (fOp2 gIs false (fVar 0) (fC .none))) fNil) (fSeq (fIf (fTru (fIsi "bool" (fVar 1))) (fRet 2 true (fAndV (fIsi "bool" (fVar 0)) (fOp2 (gEqX false) false (fVar 0) (fVar 1)))) fNil) (fSeq (fIf (fTru (fIsi "int" (fVar 1))) (fRet 2 true (fAndV (fIsi "int" (fVar 0)) (fAndV (fNotV (fIsi "bool" (fVar 0))) (fOp2 (gEqX false) false (fVar 0) (fVar 1))))) fNil) (fSeq (fIf (fTru (fIsi "str" (fVar 1))) (fRet 2 true (fAndV (fIsi "str" (fVar 0)) (fOp2 (gEqX false) false (fVar 0) (fVar 1)))) fNil) (fSeq (fIf (fOr (fNot (fTru (fIsi "tuple" (fVar 0)))) (fT (fOp2 (gEqX true) false (fB gLen false (fACons (fVar 0) fANil)) (fB gLen false (fACons (fVar 1) fANil))))) (fRet 2 true (fC (.bool false))) fNil) (fRet 2 true (fB gAll false (fACons (fLc false (fRange1 (fB gLen false (fACons (fVar 1) fANil))) (gN 2) tYesF (e1__law_same (F__law_same n)) [2]) fANil))))))))
def b1__law_own_row : FS := fFgt [5] (fIf (fT (fOp2 gLt false (fVar 2) (fC (.int 2)))) (fDrop (fAppend 4 (fCall F__law_draw (fACons (fVar 0) (fACons (fC (.int 2)) fANil))))) (fIf (fT (fOp2 gLt false (fVar 2) (fC (.int 4)))) (fDrop (fAppend 4 (fIfE (fT (fOp2 gGt false (fCall F__law_draw (fACons (fVar 0) (fACons (fOp2 gAdd false (fC (.int 2)) (fVar 3)) fANil))) (fC (.int 0)))) (fOp2 gSub false (fVar 2) (fC (.int 2))) (fOp2 gSub false (fC (.int 3)) (fVar 2))))) (fIf (fT (fOp2 (gEqX false) false (fVar 2) (fC (.int 4)))) (fDrop (fAppend 4 (fIfE (fAnd (fT (fOp2 gGt false (fVar 5) (fC (.int 0)))) (fT (fOp2 gGt false (fCall F__law_draw (fACons (fVar 0) (fACons (fOp2 gAdd false (fC (.int 2)) (fVar 3)) fANil))) (fC (.int 1))))) (fOp2 gIx false (fVar 4) (fOp2 gSub false (fVar 5) (fC (.int 1)))) (fCall F__law_draw (fACons (fVar 0) (fACons (fC (.int 2)) fANil)))))) (fDrop (fAppend 4 (fIfE (fT (fOp2 gGe false (fVar 5) (fVar 3))) (fOp2 gIx false (fVar 4) (fOp2 gSub false (fVar 5) (fVar 3))) (fCall F__law_draw (fACons (fVar 0) (fACons (fC (.int 2)) fANil)))))))))
def F__law_own_row : FF := fnOf 2 6 (fSeq (fMulti 2 [2, 3, 4] (fACons (fCall F__law_draw (fACons (fVar 0) (fACons (fC (.int 6)) fANil))) (fACons (fOp2 gAdd false (fC (.int 1)) (fCall F__law_draw (fACons (fVar 0) (fACons (fC (.int 9)) fANil)))) (fACons (fLst true fANil) fANil)))) (fSeq (fFor (fRange1 (fVar 1)) (gN 5) b1__law_own_row) (fFrz 4 (fRet 2 true (fB gToT false (fACons (fVar 4) fANil))))))
def e1__law_lean : FE := fOp2 gSub false (fOp2 gMulX false (fC (.int 2)) (fVar 1)) (fC (.int 1))
def F__law_lean : FF := fnOf 1 2 (fRet 1 true (fB gSumA false (fACons (fLc false (fIter (fVar 0)) (gN 1) tYesF e1__law_lean [1]) fANil)))
def b1__law_stretch : FS := fFgt [4] (fSeq (fSet 1 1 (fOp2 gSub false (fOp2 gAdd false (fVar 1) (fOp2 gMulX false (fC (.int 2)) (fVar 4))) (fC (.int 1)))) (fPar2 1 2 3 (fB gMaxL false (fACons (fLst false (fACons (fVar 2) (fACons (fVar 1) fANil))) fANil)) (fB gMinL false (fACons (fLst false (fACons (fVar 3) (fACons (fVar 1) fANil))) fANil))))
def F__law_stretch : FF := fnOf 1 5 (fSeq (fMulti 1 [1, 2, 3] (fACons (fC (.int 0)) (fACons (fC (.int 0)) (fACons (fC (.int 0)) fANil)))) (fSeq (fFor (fIter (fVar 0)) (gN 4) b1__law_stretch) (fRet 1 true (fOp2 gSub false (fVar 2) (fVar 3)))))
def e1__law_match : FE := fIfE (fT (fOp2 (gEqX false) false (fVar 5) (fVar 6))) (fC (.int 1)) (fNeg (fC (.int 1)))
def F__law_match : FF := fnOf 2 7 (fSeq (fSet 2 2 (fB gLen false (fACons (fVar 0) fANil))) (fSeq (fSet 2 3 (fOp2 gMod false (fB gInt false (fACons (fVar 1) fANil)) (fVar 2))) (fSeq (fSet 2 4 (fOp2 gAdd false (fSlice false (fVar 0) (fOSo (fVar 3)) fONo) (fSlice false (fVar 0) fONo (fOSo (fVar 3))))) (fRet 2 true (fB gSumA false (fACons (fLc false (fIter (fListZip false (fACons (fVar 0) (fACons (fVar 4) fANil)))) (gT 2 (gsCons (gN 5) (gsCons (gN 6) gsNil))) tYesF e1__law_match [5, 6]) fANil))))))
def b1__law_words : FS := fFgt [5] (fSeq (fSet 2 3 (fOp2 gMulX false (fVar 3) (fC (.int 2)))) (fSet 2 4 (fOp2 gAdd false (fOp2 gMulX false (fVar 4) (fC (.int 2))) (fOp2 gIx false (fVar 0) (fOp2 gMod false (fB gInt false (fACons (fVar 5) fANil)) (fB gLen false (fACons (fVar 0) fANil)))))))
def b2__law_words : FS := fFgt [6] (fSeq (fPutIx 2 (fOp2 gAdd false (fOp2 gIx false (fVar 2) (fVar 4)) (fC (.int 1))) (fVar 4)) (fSet 2 4 (fOp2 gAdd false (fOp2 gMod false (fB gInt false (fACons (fOp2 gMulX false (fVar 4) (fC (.int 2))) fANil)) (fVar 3)) (fOp2 gIx false (fVar 0) (fOp2 gMod false (fB gInt false (fACons (fOp2 gAdd false (fVar 6) (fVar 1)) fANil)) (fB gLen false (fACons (fVar 0) fANil)))))))
def F__law_words : FF := fnOf 2 7 (fSeq (fMulti 2 [2, 3, 4] (fACons (fOp2 gMulX true (fLst false (fACons (fC (.int 0)) fANil)) (fOp2 gPow false (fC (.int 2)) (fC (.int 7)))) (fACons (fC (.int 1)) (fACons (fC (.int 0)) fANil)))) (fSeq (fFor (fRange1 (fVar 1)) (gN 5) b1__law_words) (fSeq (fFor (fRange1 (fB gLen false (fACons (fVar 0) fANil))) (gN 6) b2__law_words) (fFrz 2 (fRet 2 true (fB gToT false (fACons (fSlice false (fVar 2) fONo (fOSo (fVar 3))) fANil)))))))
def b1__law_shift : FS := fFgt [4] (fSet 2 3 (fOp2 gAdd false (fOp2 gMulX false (fVar 3) (fOp2 gPow false (fC (.int 10)) (fC (.int 4)))) (fCall F__law_draw (fACons (fVar 0) (fACons (fOp2 gPow false (fC (.int 10)) (fC (.int 4))) fANil)))))
def F__law_shift : FF := fnOf 2 5 (fSeq (fPar2 2 2 3 (fCall F__law_draw (fACons (fVar 0) (fACons (fC (.int 6)) fANil))) (fC (.int 0))) (fSeq (fIf (fT (fOp2 gLt false (fVar 2) (fC (.int 3)))) (fRet 2 true (fCall F__law_draw (fACons (fVar 0) (fACons (fOp2 gAdd false (fVar 1) (fC (.int 1))) fANil)))) fNil) (fSeq (fIf (fT (fOp2 (gEqX false) false (fVar 2) (fC (.int 3)))) (fRet 2 true (fOp2 gAdd false (fOp2 gMulX false (fVar 1) (fOp2 gAdd false (fC (.int 1)) (fCall F__law_draw (fACons (fVar 0) (fACons (fC (.int 9)) fANil))))) (fCall F__law_pick (fACons (fVar 0) (fACons (fLst false (fACons (fC (.int 0)) (fACons (fC (.int 0)) (fACons (fC (.int 1)) (fACons (fOp2 gSub false (fVar 1) (fC (.int 1))) fANil))))) fANil))))) fNil) (fSeq (fIf (fT (fOp2 (gEqX false) false (fVar 2) (fC (.int 4)))) (fRet 2 true (fOp2 gSub false (fOp2 gSub false (fOp2 gPow false (fC (.int 10)) (fC (.int 40))) (fC (.int 1))) (fCall F__law_draw (fACons (fVar 0) (fACons (fC (.int 3)) fANil))))) fNil) (fSeq (fFor (fRange1 (fOp2 gAdd false (fC (.int 1)) (fCall F__law_draw (fACons (fVar 0) (fACons (fC (.int 10)) fANil))))) (gN 4) b1__law_shift) (fRet 2 true (fVar 3)))))))
def F__law_put : FF := fnOf 3 3 (fRet 3 true (fOp2 gAdd false (fOp2 gAdd false (fSlice false (fVar 0) fONo (fOSo (fVar 1))) (fTup (fACons (fVar 2) fANil))) (fSlice false (fVar 0) (fOSo (fOp2 gAdd false (fVar 1) (fC (.int 1)))) fONo)))
def b1__law_are_errors_right : FS := fFgt [7] (fSeq (fDrop (fAppend 4 (fTup (fACons (fCall F__law_put (fACons (fVar 1) (fACons (fVar 5) (fACons (fVar 7) fANil)))) (fACons (fTup (fACons (fC (.str "bit")) (fACons (fVar 5) fANil))) fANil))))) (fDrop (fAppend 4 (fTup (fACons (fCall F__law_put (fACons (fCall F__law_put (fACons (fVar 1) (fACons (fVar 5) (fACons (fC .none) fANil)))) (fACons (fVar 6) (fACons (fVar 7) fANil)))) (fACons (fTup (fACons (fC (.str "bit")) (fACons (fVar 6) fANil))) fANil))))))
def b2__law_are_errors_right : FS := fFgt [8, 9, 10, 11, 12] (fSeq (fSet 2 11 (fB gReprX false (fACons (fVar 9) fANil))) (fSeq (fSet 2 12 (fIfE (fT (fOp2 (gEqX false) false (fVar 8) (fC (.int 1)))) (fCallK F_rows_error 1 [0] (fACons (fVar 9) fANil)) (fCall F_rows_error (fACons (fVar 9) fANil)))) (fIf (fOr (fNot (fTru (fCall (F__law_same 8) (fACons (fVar 12) (fACons (fVar 10) fANil))))) (fT (fOp2 (gEqX true) false (fB gReprX false (fACons (fVar 9) fANil)) (fVar 11)))) (fRet 2 true (fC (.bool false))) fNil)))
def F__law_are_errors_right : FF := fnOf 2 13 (fSeq (fSet 2 2 (fCall F__law_draw (fACons (fVar 0) (fACons (fC (.int 2)) fANil)))) (fSeq (fSet 2 3 (fSlice false (fOp2 gAdd false (fOp2 gMulX false (fVar 1) (fC (.int 256))) (fOp2 gMulX false (fTup (fACons (fVar 2) fANil)) (fC (.int 256)))) fONo (fOSo (fC (.int 256))))) (fSeq (fSet 2 4 (fLst true (fACons (fTup (fACons (fVar 1) (fACons (fC .none) fANil))) (fACons (fTup (fACons (fTup fANil) (fACons (fC .none) fANil))) (fACons (fTup (fACons (fVar 3) (fACons (fC .none) fANil))) (fACons (fTup (fACons (fB gToL false (fACons (fVar 1) fANil)) (fACons (fC (.str "form")) fANil))) (fACons (fTup (fACons (fC .none) (fACons (fC (.str "form")) fANil))) (fACons (fTup (fACons (fVar 2) (fACons (fC (.str "form")) fANil))) (fACons (fTup (fACons (fC (.str "01")) (fACons (fC (.str "form")) fANil))) fANil))))))))) (fSeq (fDrop (fExtend 4 (fLst false (fACons (fTup (fACons (fOp2 gAdd false (fVar 3) (fTup (fACons (fVar 2) fANil))) (fACons (fC (.str "many")) fANil))) (fACons (fTup (fACons (fOp2 gAdd false (fSlice false (fVar 3) fONo (fOSo (fC (.int 255)))) (fTup (fACons (fC (.int 2)) (fACons (fVar 2) fANil)))) (fACons (fC (.str "many")) fANil))) (fACons (fTup (fACons (fOp2 gAdd false (fB gToL false (fACons (fVar 3) fANil)) (fLst false (fACons (fVar 2) fANil))) (fACons (fC (.str "form")) fANil))) fANil)))))) (fSeq (fDrop (fAppend 4 (fTup (fACons (fFrzE fDNewK) (fACons (fC (.str "form")) fANil))))) (fSeq (fDrop (fExtend 4 (fLst false (fACons (fTup (fACons (fOp2 gAdd false (fSlice false (fVar 3) fONo (fOSo (fC (.int 255)))) (fTup (fACons (fC (.int 2)) fANil))) (fACons (fTup (fACons (fC (.str "bit")) (fACons (fC (.int 255)) fANil))) fANil))) (fACons (fTup (fACons (fOp2 gMulX false (fTup (fACons (fC .none) fANil)) (fC (.int 257))) (fACons (fC (.str "many")) fANil))) (fACons (fTup (fACons (fTup (fACons (fVar 3) (fACons (fVar 3) fANil))) (fACons (fTup (fACons (fC (.str "bit")) (fACons (fC (.int 0)) fANil))) fANil))) fANil)))))) (fSeq (fIf (fT (fOp2 (gEqX true) false (fVar 1) (fTup fANil))) (fSeq (fPar2 2 5 6 (fOp2 gSub false (fB gLen false (fACons (fVar 1) fANil)) (fC (.int 1))) (fCall F__law_draw (fACons (fVar 0) (fACons (fB gLen false (fACons (fVar 1) fANil)) fANil)))) (fSeq (fFor (fIter (fLst false (fACons (fC (.int 2)) (fACons (fNeg (fC (.int 1))) (fACons (fC (.bool true)) (fACons (fC (.bool false)) (fACons (fC .none) (fACons (fC (.str "0")) (fACons (fC (.str "1")) (fACons (fTup fANil) (fACons (fTup (fACons (fC (.int 0)) fANil)) (fACons (fLst false (fACons (fC (.int 1)) fANil)) (fACons (fOp2 gAdd false (fC (.int 2)) (fCall F__law_draw (fACons (fVar 0) (fACons (fC (.int 998)) fANil)))) (fACons (fOp2 gPow false (fC (.int 10)) (fC (.int 30))) (fACons (fFrzE fDNewK) fANil))))))))))))))) (gN 7) b1__law_are_errors_right) (fIf (fT (fOp2 gLt false (fVar 5) (fC (.int 255)))) (fDrop (fAppend 4 (fTup (fACons (fOp2 gAdd false (fVar 1) (fTup (fACons (fC (.int 2)) fANil))) (fACons (fTup (fACons (fC (.str "bit")) (fACons (fOp2 gAdd false (fVar 5) (fC (.int 1))) fANil))) fANil))))) fNil))) fNil) (fFrz 4 (fSeq (fFor (fEnumA (fVar 4)) (gT 2 (gsCons (gN 8) (gsCons (gT 2 (gsCons (gN 9) (gsCons (gN 10) gsNil))) gsNil))) b2__law_are_errors_right) (fRet 2 true (fC (.bool true))))))))))))
def b1__law_are_leans_right : FS := fFgt [7, 8] (fIf (fNot (fTru (fCall (F__law_same 8) (fACons (fCall F_lean_at (fACons (fVar 1) (fACons (fVar 7) (fACons (fVar 8) fANil)))) (fACons (fCall F__law_lean (fACons (fSlice false (fVar 1) (fOSo (fVar 7)) (fOSo (fVar 8))) fANil)) fANil))))) (fRet 2 true (fC (.bool false))) fNil)
def F__law_are_leans_right : FF := fnOf 2 12 (fSeq (fSet 2 2 (fB gLen false (fACons (fVar 1) fANil))) (fSeq (fSet 2 3 (fCall F__law_draw (fACons (fVar 0) (fACons (fOp2 gAdd false (fVar 2) (fC (.int 1))) fANil)))) (fSeq (fSet 2 4 (fOp2 gAdd false (fVar 3) (fCall F__law_draw (fACons (fVar 0) (fACons (fOp2 gAdd false (fOp2 gSub false (fVar 2) (fVar 3)) (fC (.int 1))) fANil))))) (fSeq (fPar2 2 5 6 (fCall F__law_stretch (fACons (fVar 1) fANil)) (fCall F__law_stretch (fACons (fSlice false (fVar 1) (fOSo (fVar 3)) (fOSo (fVar 4))) fANil))) (fSeq (fIf (fOr (fNot (fTru (fCall (F__law_same 8) (fACons (fCall F_stretch_lean (fACons (fVar 1) fANil)) (fACons (fVar 5) fANil))))) (fNot (fTru (fCall (F__law_same 8) (fACons (fCallK F_stretch_lean 1 [0] (fACons (fSlice false (fVar 1) (fOSo (fVar 3)) (fOSo (fVar 4))) fANil)) (fACons (fVar 6) fANil)))))) (fRet 2 true (fC (.bool false))) fNil) (fSeq (fFor (fIter (fLst false (fACons (fTup (fACons (fC (.int 0)) (fACons (fVar 2) fANil))) (fACons (fTup (fACons (fC (.int 0)) (fACons (fC (.int 0)) fANil))) (fACons (fTup (fACons (fVar 2) (fACons (fVar 2) fANil))) (fACons (fTup (fACons (fVar 3) (fACons (fVar 4) fANil))) (fACons (fTup (fACons (fVar 3) (fACons (fVar 3) fANil))) (fACons (fTup (fACons (fC (.int 0)) (fACons (fVar 4) fANil))) (fACons (fTup (fACons (fVar 3) (fACons (fVar 2) fANil))) fANil))))))))) (gT 2 (gsCons (gN 7) (gsCons (gN 8) gsNil))) b1__law_are_leans_right) (fSeq (fPar2 2 9 10 (fCallK F_lean_at 3 [0, 1, 2] (fACons (fVar 1) (fACons (fC (.int 0)) (fACons (fVar 3) fANil)))) (fCallP F_lean_at 1 2 [0, 2, 1] (fACons (fVar 1) fANil) (fACons (fVar 2) (fACons (fVar 3) fANil)))) (fSeq (fSet 2 11 (fLst false (fACons (fCall F__law_lean (fACons (fSlice false (fVar 1) fONo (fOSo (fVar 3))) fANil)) (fACons (fCall F__law_lean (fACons (fSlice false (fVar 1) (fOSo (fVar 3)) fONo) fANil)) fANil)))) (fSeq (fIf (fOr (fNot (fTru (fCall (F__law_same 8) (fACons (fTup (fACons (fVar 9) (fACons (fVar 10) fANil))) (fACons (fB gToT false (fACons (fVar 11) fANil)) fANil))))) (fT (fOp2 (gEqX true) false (fOp2 gAdd false (fVar 9) (fVar 10)) (fCall F__law_lean (fACons (fVar 1) fANil))))) (fRet 2 true (fC (.bool false))) fNil) (fRet 2 true (fAndV (fCall (F__law_same 8) (fACons (fCall F_stretch_lean (fACons (fTup fANil) fANil)) (fACons (fC (.int 0)) fANil))) (fAndV (fCall (F__law_same 8) (fACons (fCall F_lean_at (fACons (fTup fANil) (fACons (fC (.int 0)) (fACons (fC (.int 0)) fANil)))) (fACons (fC (.int 0)) fANil))) (fOp2 gLe false (fVar 6) (fVar 5))))))))))))))
def b1__law_are_matches_right : FS := fFgt [3, 4, 5, 6] (fSeq (fSet 2 4 (fIfE (fT (fOp2 gGt false (fVar 3) (fC (.int 0)))) (fCall F__law_shift (fACons (fVar 0) (fACons (fVar 2) fANil))) (fC (.int 0)))) (fSeq (fSet 2 5 (fCall F__law_match (fACons (fVar 1) (fACons (fVar 4) fANil)))) (fSeq (fSet 2 6 (fIfE (fT (fOp2 (gEqX false) false (fVar 3) (fC (.int 1)))) (fCallK F_ring_match 2 [0, 1] (fACons (fVar 1) (fACons (fVar 4) fANil))) (fCall F_ring_match (fACons (fVar 1) (fACons (fVar 4) fANil))))) (fSeq (fIf (fNot (fTru (fCall (F__law_same 8) (fACons (fVar 6) (fACons (fVar 5) fANil))))) (fRet 2 true (fC (.bool false))) fNil) (fIf (fAnd (fT (fOp2 gLe false (fVar 4) (fVar 2))) (fNot (fTru (fCall (F__law_same 8) (fACons (fCall F_ring_match (fACons (fVar 1) (fACons (fOp2 gSub false (fVar 2) (fVar 4)) fANil))) (fACons (fVar 5) fANil)))))) (fRet 2 true (fC (.bool false))) fNil)))))
def F__law_are_matches_right : FF := fnOf 2 7 (fSeq (fSet 2 2 (fB gLen false (fACons (fVar 1) fANil))) (fSeq (fFor (fRange1 (fC (.int 5))) (gN 3) b1__law_are_matches_right) (fRet 2 true (fC (.bool true)))))
def e1__law_are_words_right : FE := fOp2 gAdd false (fOp2 gIx false (fVar 4) (fOp2 gMulX false (fC (.int 2)) (fVar 9))) (fOp2 gIx false (fVar 4) (fOp2 gAdd false (fOp2 gMulX false (fC (.int 2)) (fVar 9)) (fC (.int 1))))
def e2__law_are_words_right : FE := fOp2 gAdd false (fOp2 gIx false (fVar 4) (fVar 9)) (fOp2 gIx false (fVar 4) (fOp2 gAdd false (fVar 5) (fVar 9)))
def F__law_are_words_right : FF := fnOf 2 10 (fSeq (fSet 2 2 (fCall F__law_pick (fACons (fVar 0) (fACons (fLst false (fACons (fC (.int 1)) (fACons (fC (.int 2)) (fACons (fC (.int 3)) (fACons (fC (.int 4)) (fACons (fC (.int 4)) (fACons (fC (.int 5)) (fACons (fC (.int 5)) (fACons (fC (.int 6)) (fACons (fC (.int 6)) (fACons (fC (.int 7)) (fACons (fC (.int 7)) fANil)))))))))))) fANil)))) (fSeq (fSet 2 3 (fCall F__law_words (fACons (fVar 1) (fACons (fVar 2) fANil)))) (fSeq (fSet 2 4 (fCall F_word_counts (fACons (fVar 1) (fACons (fVar 2) fANil)))) (fSeq (fIf (fOr (fNot (fTru (fCall (F__law_same 8) (fACons (fVar 4) (fACons (fVar 3) fANil))))) (fOr (fT (fOp2 (gEqX true) false (fB gSumA false (fACons (fVar 4) fANil)) (fB gLen false (fACons (fVar 1) fANil)))) (fNot (fTru (fCall (F__law_same 8) (fACons (fCallK F_word_counts 2 [1, 0] (fACons (fVar 2) (fACons (fVar 1) fANil))) (fACons (fVar 3) fANil))))))) (fRet 2 true (fC (.bool false))) fNil) (fSeq (fIf (fT (fOp2 (gEqX false) false (fVar 2) (fC (.int 1)))) (fRet 2 true (fCall (F__law_same 8) (fACons (fVar 4) (fACons (fTup (fACons (fOp2 gSub false (fB gLen false (fACons (fVar 1) fANil)) (fB gSumA false (fACons (fVar 1) fANil))) (fACons (fB gSumA false (fACons (fVar 1) fANil)) fANil))) fANil)))) fNil) (fSeq (fSet 2 5 (fOp2 gDiv false (fB gLen false (fACons (fVar 3) fANil)) (fC (.int 2)))) (fSeq (fSet 2 6 (fCall F_word_counts (fACons (fVar 1) (fACons (fOp2 gSub false (fVar 2) (fC (.int 1))) fANil)))) (fSeq (fIf (fNot (fTru (fCall (F__law_same 8) (fACons (fVar 6) (fACons (fCall F__law_words (fACons (fVar 1) (fACons (fOp2 gSub false (fVar 2) (fC (.int 1))) fANil))) fANil))))) (fRet 2 true (fC (.bool false))) fNil) (fSeq (fSet 2 7 (fB gToT false (fACons (fLc false (fRange1 (fVar 5)) (gN 9) tYesF e1__law_are_words_right [9]) fANil))) (fSeq (fSet 2 8 (fB gToT false (fACons (fLc false (fRange1 (fVar 5)) (gN 9) tYesF e2__law_are_words_right [9]) fANil))) (fRet 2 true (fAndV (fOp2 (gEqX false) false (fVar 6) (fVar 7)) (fOp2 (gEqX false) false (fVar 6) (fVar 8))))))))))))))
def b1_law : FS := fFgt [7] (fIf (fOr (fNot (fTru (fCall F__law_are_matches_right (fACons (fVar 1) (fACons (fVar 7) fANil))))) (fNot (fTru (fCall F__law_are_words_right (fACons (fVar 1) (fACons (fVar 7) fANil)))))) (fRet 1 true (fC (.bool false))) fNil)
def F_law : FF := fnOf 1 8 (fSeq (fSet 1 1 (fCall F__law_own_bag (fACons (fVar 0) fANil))) (fSeq (fSet 1 2 (fCall F__law_draw (fACons (fVar 1) (fACons (fC (.int 10)) fANil)))) (fSeq (fSet 1 3 (fCall F__law_draw (fACons (fVar 1) (fACons (fC (.int 41)) fANil)))) (fSeq (fIf (fT (fOp2 (gEqX false) false (fVar 2) (fC (.int 0)))) (fSet 1 3 (fCall F__law_pick (fACons (fVar 1) (fACons (fLst false (fACons (fC (.int 256)) (fACons (fC (.int 256)) (fACons (fC (.int 255)) (fACons (fOp2 gAdd false (fC (.int 200)) (fCall F__law_draw (fACons (fVar 1) (fACons (fC (.int 57)) fANil)))) fANil))))) fANil)))) (fIf (fT (fOp2 (gEqX false) false (fVar 2) (fC (.int 1)))) (fSet 1 3 (fCall F__law_draw (fACons (fVar 1) (fACons (fC (.int 4)) fANil)))) fNil)) (fSeq (fSet 1 4 (fCall F__law_own_row (fACons (fVar 1) (fACons (fVar 3) fANil)))) (fSeq (fIf (fOr (fNot (fTru (fCall F__law_are_errors_right (fACons (fVar 1) (fACons (fVar 4) fANil))))) (fNot (fTru (fCall F__law_are_leans_right (fACons (fVar 1) (fACons (fVar 4) fANil)))))) (fRet 1 true (fC (.bool false))) fNil) (fSeq (fSet 1 5 (fIfE (fT (fOp2 (gEqX true) false (fVar 4) (fTup fANil))) (fVar 4) (fTup (fACons (fCall F__law_draw (fACons (fVar 1) (fACons (fC (.int 2)) fANil))) fANil)))) (fSeq (fSet 1 6 (fCall F__law_own_row (fACons (fVar 1) (fACons (fOp2 gAdd false (fC (.int 1)) (fCall F__law_draw (fACons (fVar 1) (fACons (fC (.int 7)) fANil)))) fANil)))) (fSeq (fFor (fIter (fLst false (fACons (fVar 5) (fACons (fVar 6) fANil)))) (gN 7) b1_law) (fRet 1 true (fAndV (fCall (F__law_same 8) (fACons (fCall F_stretch_lean (fACons (fVar 6) fANil)) (fACons (fCall F__law_stretch (fACons (fVar 6) fANil)) fANil))) (fCall (F__law_same 8) (fACons (fCall F_rows_error (fACons (fVar 6) fANil)) (fACons (fC .none) fANil))))))))))))))
structure Bs (mg : Str → Option Value) : Prop where
  abs : mg "abs" = none
  «all» : mg "all" = none
  bool : mg "bool" = none
  enumerate : mg "enumerate" = none
  int : mg "int" = none
  isinstance : mg "isinstance" = none
  len : mg "len" = none
  list : mg "list" = none
  max : mg "max" = none
  min : mg "min" = none
  range : mg "range" = none
  repr : mg "repr" = none
  reversed : mg "reversed" = none
  str : mg "str" = none
  sum : mg "sum" = none
  tuple : mg "tuple" = none
  zip : mg "zip" = none
  g_MAX_BITS : ∃ t, mg "MAX_BITS" = some (.int 256 t)
section
variable {P : Program} {w : World} {K : PySem.W.Frag} {mg : Str → Option Value} {base : Heap}
theorem sc_rows_error : FnScope ["value", "i", "item"] ["value"] (defScope s_rows_error) := ⟨rfl, rfl, rfl, by decide +kernel, rfl, by decide +kernel, by decide +kernel⟩
theorem ok_rows_error (B : Bs mg) (E : At K mg "rows_error" s_rows_error) : Def P w K mg base 1 "rows_error" s_rows_error ["value"] F_rows_error :=
  def_ok 0 E sc_rows_error (fun _ _ _ _ _ _ us hl => match us, hl with | [_], _ => rfl) (fun f cdv A outer s H E hr =>
    fss_cons (fs_if (ft_not (ft_truth (fx_isi (T := "tuple") B.isinstance B.tuple (fx_var 0)))) (fss_one (fs_ret (fz := true) fx_str)) fss_nil) (fss_cons (fs_if (ft_cmp op_gt snd_rel (fx_B (ow := false) call_len snd_len B.len (fa_cons (fx_var 0) fa_nil)) (fx_globI (by rfl) B.g_MAX_BITS) (nomark _)) (fss_one (fs_ret (fz := true) fx_str)) fss_nil) (fss_cons (fs_for PassesOwn.never rfl (fi_enumA B.enumerate (fx_var 0)) (fg_tup rfl (fgs_cons (fg_name (i := 1) sc_rows_error.nd) (fgs_cons (fg_name (i := 2) sc_rows_error.nd) fgs_nil))) (fss_fgt [1, 2] (fss_one (fs_if ((fw_or (ft_not (ft_truth (fx_isi (T := "int") B.isinstance B.int (fx_var 2)))) (fw_or (ft_truth (fx_isi (T := "bool") B.isinstance B.bool (fx_var 2))) (fw_or1 (ft_cmp op_notIn_seq snd_in (fx_var 2) (fx_tup (fa_cons fx_int (fa_cons fx_int fa_nil))) (by rfl))))).ft) (fss_one (fs_ret (fz := true) (fx_tup (fa_cons fx_str (fa_cons (fx_var 1) fa_nil))))) fss_nil)))) (fss_one (fs_ret (fz := true) fx_non)))))
theorem sc_stretch_lean : FnScope ["row", "found", "high", "low", "bit", "step"] ["row"] (defScope s_stretch_lean) := ⟨rfl, rfl, rfl, by decide +kernel, rfl, by decide +kernel, by decide +kernel⟩
theorem ok_stretch_lean (B : Bs mg) (E : At K mg "stretch_lean" s_stretch_lean) : Def P w K mg base 1 "stretch_lean" s_stretch_lean ["row"] F_stretch_lean :=
  def_ok 0 E sc_stretch_lean (fun _ _ _ _ _ _ us hl => match us, hl with | [_], _ => rfl) (fun f cdv A outer s H E hr =>
    fss_cons (fs_multi (is := [1, 2, 3]) rfl (fa_cons fx_int (fa_cons fx_int (fa_cons fx_int fa_nil))) (fm_cons (i := 1) (fm_cons (i := 2) (fm_cons (i := 3) fm_nil sc_stretch_lean.nd) sc_stretch_lean.nd) sc_stretch_lean.nd)) (fss_cons (fs_for PassesOwn.never rfl (fi_seq (fx_var 0)) (fg_name (i := 4) sc_stretch_lean.nd) (fss_fgt [4, 5] (fss_cons (fs_set (i := 5) sc_stretch_lean.nd (fx_ifE (ft_cmp (op_eqA hr.units) snd_eqX (fx_var 4) fx_int (nomark _)) fx_int (fx_neg fx_int))) (fss_cons (fs_par2 (i := 2) (j := 3) rfl sc_stretch_lean.nd (fx_B (ow := false) (call_max2 rfl) snd_max2 B.max (fa_cons fx_int (fa_cons (fx_op (ow := false) op_addA snd_add (fx_var 2) (fx_var 5)) fa_nil))) (fx_B (ow := false) (call_min2 rfl) snd_min2 B.min (fa_cons fx_int (fa_cons (fx_op (ow := false) op_addA snd_add (fx_var 3) (fx_var 5)) fa_nil)))) (fss_one (fs_set (i := 1) sc_stretch_lean.nd (fx_B (ow := false) (call_max3Nu rfl) snd_max3 B.max (fa_cons (fx_var 1) (fa_cons (fx_var 2) (fa_cons (fx_neg (fx_var 3)) fa_nil)))))))))) (fss_one (fs_ret (fz := true) (fx_var 1)))))
theorem sc_lean_at : FnScope ["row", "begin", "end"] ["row", "begin", "end"] (defScope s_lean_at) := ⟨rfl, rfl, rfl, by decide +kernel, rfl, by decide +kernel, by decide +kernel⟩
theorem ok_lean_at (B : Bs mg) (E : At K mg "lean_at" s_lean_at) : Def P w K mg base 1 "lean_at" s_lean_at ["row", "begin", "end"] F_lean_at :=
  def_ok 0 E sc_lean_at (fun _ _ _ _ _ _ us hl => match us, hl with | [_, _, _], _ => rfl) (fun f cdv A outer s H E hr =>
    fss_one (fs_ret (fz := true) (fx_op (ow := false) op_sub snd_int2 (fx_op (ow := false) op_mulX snd_mulX fx_int (fx_B (ow := false) (cr_sumA rfl) snd_sumA B.sum (fa_cons (fx_slice (ow := false) (fx_var 0) (fo_some (fx_var 1)) (fo_some (fx_var 2))) fa_nil))) (fx_op (ow := false) op_sub snd_int2 (fx_var 2) (fx_var 1)))))
theorem sc_ring_match : FnScope ["row", "shift", "many", "moved", "agreed", "one", "other"] ["row", "shift"] (defScope s_ring_match) := ⟨rfl, rfl, rfl, by decide +kernel, rfl, by decide +kernel, by decide +kernel⟩
theorem ok_ring_match (B : Bs mg) (E : At K mg "ring_match" s_ring_match) : Def P w K mg base 1 "ring_match" s_ring_match ["row", "shift"] F_ring_match :=
  def_ok 0 E sc_ring_match (fun _ _ _ _ _ _ us hl => match us, hl with | [_, _], _ => rfl) (fun f cdv A outer s H E hr =>
    fss_cons (fs_set (i := 2) sc_ring_match.nd (fx_B (ow := false) call_len snd_len B.len (fa_cons (fx_var 0) fa_nil))) (fss_cons (fs_set (i := 3) sc_ring_match.nd (fx_op (ow := false) op_mod snd_mod (fx_var 1) (fx_var 2))) (fss_cons (fs_set (i := 4) sc_ring_match.nd (fx_B (ow := false) (cr_sumA rfl) snd_sumA B.sum (fa_cons (fx_lc (own := [("one", 5), ("other", 6)]) (ow := false) rfl sc_ring_match.nd (fi_zip B.zip (fa_cons (fx_var 0) (fa_cons (fx_op (ow := false) op_addA snd_add (fx_slice (ow := false) (fx_var 0) (fo_some (fx_var 3)) fo_none) (fx_slice (ow := false) (fx_var 0) fo_none (fo_some (fx_var 3)))) fa_nil))) (blkOk_by (own := [("one", 5), ("other", 6)]) (N := N_ring_match) (sc := defScope s_ring_match) (by decide +kernel)) (fun _ _ _ _ _ => fg_tup rfl (fgs_cons (fg_name (i := 5) sc_ring_match.nd) (fgs_cons (fg_name (i := 6) sc_ring_match.nd) fgs_nil))) (fun _ _ _ _ _ => fts_nil) (fun _ _ _ _ _ => fx_Ty (ow := false) call_int1 snd_toInt B.int (fa_cons (fx_cmp (op_eqA hr.units) snd_eqX (fx_var 5) (fx_var 6) (nomark _)) fa_nil))) fa_nil))) (fss_one (fs_ret (fz := true) (fx_op (ow := false) op_sub snd_int2 (fx_op (ow := false) op_mulX snd_mulX fx_int (fx_var 4)) (fx_var 2)))))))
theorem sc_word_counts : FnScope ["row", "many", "found", "size", "number", "k", "begin"] ["row", "many"] (defScope s_word_counts) := ⟨rfl, rfl, rfl, by decide +kernel, rfl, by decide +kernel, by decide +kernel⟩
theorem ok_word_counts (B : Bs mg) (E : At K mg "word_counts" s_word_counts) : Def P w K mg base 1 "word_counts" s_word_counts ["row", "many"] F_word_counts :=
  def_ok 0 E sc_word_counts (fun _ _ _ _ _ _ us hl => match us, hl with | [_, _], _ => rfl) (fun f cdv A outer s H E hr =>
    fss_cons (fs_par2 (i := 2) (j := 3) rfl sc_word_counts.nd (fx_op (ow := true) op_mulX snd_mulX (fx_lst (ow := false) (fa_cons fx_int fa_nil)) (fx_op (ow := false) op_shl snd_shl fx_int (fx_var 1))) (fx_B (ow := false) call_len snd_len B.len (fa_cons (fx_var 0) fa_nil))) (fss_cons (fs_set (i := 4) sc_word_counts.nd fx_int) (fss_cons (fs_for PassesOwn.never rfl (fi_range1 B.range (fx_var 1)) (fg_name (i := 5) sc_word_counts.nd) (fss_fgt [5] (fss_one (fs_set (i := 4) sc_word_counts.nd (fx_op (ow := false) op_addA snd_add (fx_op (ow := false) op_mulX snd_mulX fx_int (fx_var 4)) (fx_ix (fx_var 0) (fx_op (ow := false) op_mod snd_mod (fx_var 5) (fx_var 3)))))))) (fss_cons (fs_for PassesOwn.never rfl (fi_range1 B.range (fx_var 3)) (fg_name (i := 6) sc_word_counts.nd) (fss_fgt [6] (fss_cons (fs_putIx 2 (fx_op (ow := false) op_addA snd_add (fx_ix (fx_var 2) (fx_var 4)) fx_int) (fx_var 4)) (fss_one (fs_set (i := 4) sc_word_counts.nd (fx_op (ow := false) op_mod snd_mod (fx_op (ow := false) op_addA snd_add (fx_op (ow := false) op_mulX snd_mulX fx_int (fx_var 4)) (fx_ix (fx_var 0) (fx_op (ow := false) op_mod snd_mod (fx_op (ow := false) op_addA snd_add (fx_var 6) (fx_var 1)) (fx_var 3)))) (fx_op (ow := false) op_shl snd_shl fx_int (fx_var 1)))))))) (fss_frz 2 (fss_one (fs_ret (fz := true) (fx_Ty (ow := false) call_tuple_of snd_toT B.tuple (fa_cons (fx_var 2) fa_nil)))))))))
theorem sc__law_own_bag : FnScope ["script", "cells", "mixed", "cell"] ["script"] (defScope s__law_own_bag) := ⟨rfl, rfl, rfl, by decide +kernel, rfl, by decide +kernel, by decide +kernel⟩
theorem ok__law_own_bag (B : Bs mg) (E : At K mg "_law_own_bag" s__law_own_bag) : Def P w K mg base 1 "_law_own_bag" s__law_own_bag ["script"] F__law_own_bag :=
  def_ok 0 E sc__law_own_bag (fun _ _ _ _ _ _ us hl => match us, hl with | [_], _ => rfl) (fun f cdv A outer s H E hr =>
    fss_cons (fs_setLc (i := 1) (own := [("cell", 3)]) (ow := false) rfl sc__law_own_bag.nd rfl (sw_true rfl rfl rfl (by decide +kernel)) (fi_seq (fx_slice (ow := false) (fx_var 0) fo_none (fo_some fx_int))) (blkOk_by (own := [("cell", 3)]) (N := N__law_own_bag) (sc := defScope s__law_own_bag) (by decide +kernel)) (fun _ _ _ _ _ => fg_name (i := 3) sc__law_own_bag.nd) (fun _ _ _ _ _ => fts_nil) (fun _ _ _ _ _ => fx_B (ow := false) call_abs snd_abs B.abs (fa_cons (fx_var 3) fa_nil))) (fss_cons (fs_set (i := 2) sc__law_own_bag.nd (fx_op (ow := false) op_addA snd_add fx_int (fx_B (ow := false) call_len snd_len B.len (fa_cons (fx_var 1) fa_nil)))) (fss_cons (fs_for PassesOwn.never rfl (fi_seq (fx_var 1)) (fg_name (i := 3) sc__law_own_bag.nd) (fss_fgt [3] (fss_one (fs_set (i := 2) sc__law_own_bag.nd (fx_op (ow := false) op_mod snd_mod (fx_Ty (ow := false) call_int1 snd_toInt B.int (fa_cons (fx_op (ow := false) op_addA snd_add (fx_op (ow := false) op_addA snd_add (fx_op (ow := false) op_mulX snd_mulX (fx_var 2) fx_int) (fx_op (ow := false) op_mod snd_mod (fx_Ty (ow := false) call_int1 snd_toInt B.int (fa_cons (fx_var 3) fa_nil)) fx_int)) fx_int) fa_nil)) fx_int))))) (fss_one (fs_ret (fz := false) (fx_mkBag (fx_listRev (ow := true) rfl B.list B.reversed (fx_Ty (ow := false) call_list_of snd_toL B.list (fa_cons (fx_var 1) fa_nil))) fx_int (fx_var 2)))))))
theorem sc__law_draw : FnScope ["bag", "below", "cell", "found"] ["bag", "below"] (defScope s__law_draw) := ⟨rfl, rfl, rfl, by decide +kernel, rfl, by decide +kernel, by decide +kernel⟩
theorem ok__law_draw (B : Bs mg) (E : At K mg "_law_draw" s__law_draw) : Def P w K mg base 1 "_law_draw" s__law_draw ["bag", "below"] F__law_draw :=
  def_ok 0 E sc__law_draw (fun _ _ _ _ _ _ us hl => match us, hl with | [_, _], _ => rfl) (fun f cdv A outer s H E hr =>
    fss_cons (fs_while FUEL PassesOwn.never ((fw_and (ft_cmp (op_eqA hr.units) snd_eqX (fx_bagIx 0) fx_int (nomark _)) (fw_and1 (ft_bagNe 0 hr.units))).ft) (fss_fgt [2] (fss_cons (fs_set (i := 2) sc__law_draw.nd (fx_bagPop 0)) (fss_one (fs_bagPut 0 (fx_ifE (ft_cmp op_gt snd_rel (fx_var 2) (fx_op (ow := false) op_pow snd_pow fx_int fx_int) (nomark _)) (fx_var 2) fx_int)))))) (fss_cons (fs_if (ft_cmp op_gt snd_rel (fx_bagIx 0) fx_int (nomark _)) (fss_cons (fs_set (i := 3) sc__law_draw.nd (fx_op (ow := false) op_mod snd_mod (fx_Ty (ow := false) call_int1 snd_toInt B.int (fa_cons (fx_bagIx 0) fa_nil)) (fx_var 1))) (fss_cons (fs_bagPut 0 (fx_ifE (ft_cmp op_gt snd_rel (fx_var 1) fx_int (nomark _)) (fx_op (ow := false) op_fdivW snd_div (fx_bagIx 0) (fx_var 1)) (fx_op (ow := false) op_fdivW snd_div (fx_bagIx 0) fx_int))) (fss_one (fs_ret (fz := true) (fx_var 3))))) fss_nil) (fss_cons (fs_bagPut 0 (fx_op (ow := false) op_mod snd_mod (fx_Ty (ow := false) call_int1 snd_toInt B.int (fa_cons (fx_op (ow := false) op_addA snd_add (fx_op (ow := false) op_mulX snd_mulX (fx_bagIx 0) fx_int) fx_int) fa_nil)) fx_int)) (fss_one (fs_ret (fz := true) (fx_op (ow := false) op_mod snd_mod (fx_Ty (ow := false) call_int1 snd_toInt B.int (fa_cons (fx_op (ow := false) op_fdivW snd_div (fx_op (ow := false) op_mod snd_mod (fx_Ty (ow := false) call_int1 snd_toInt B.int (fa_cons (fx_op (ow := false) op_mulX snd_mulX (fx_bagIx 0) (fx_bagIx 0)) fa_nil)) fx_int) fx_int) fa_nil)) (fx_var 1)))))))
theorem sc__law_pick : FnScope ["bag", "some"] ["bag", "some"] (defScope s__law_pick) := ⟨rfl, rfl, rfl, by decide +kernel, rfl, by decide +kernel, by decide +kernel⟩
theorem ok__law_pick (B : Bs mg) (D__law_draw : Def P w K mg base 1 "_law_draw" s__law_draw ["bag", "below"] F__law_draw) (E : At K mg "_law_pick" s__law_pick) : Def P w K mg base 2 "_law_pick" s__law_pick ["bag", "some"] F__law_pick :=
  def_ok 1 E sc__law_pick (fun _ _ _ _ _ _ us hl => match us, hl with | [_, _], _ => rfl) (fun f cdv A outer s H E hr =>
    fss_one (fs_ret (fz := true) (fx_ix (fx_var 1) (fx_callD D__law_draw (hr.mono (by first | decide | omega)) (fa_cons (fx_var 0) (fa_cons (fx_B (ow := false) call_len snd_len B.len (fa_cons (fx_var 1) fa_nil)) fa_nil))))))
theorem sc__law_same : FnScope ["told", "due", "k"] ["told", "due"] (defScope s__law_same) := ⟨rfl, rfl, rfl, by decide +kernel, rfl, by decide +kernel, by decide +kernel⟩
theorem ok__law_same (B : Bs mg) (E : At K mg "_law_same" s__law_same) : ∀ n : Nat, Def P w K mg base (0 + n + 1) "_law_same" s__law_same ["told", "due"] (F__law_same n)
  | 0 => by
    obtain ⟨f, fd, Fn, hm⟩ := E
    exact ⟨⟨f, fd, Fn, fnG_none, hm⟩, (fun _ _ _ _ _ _ us hl => match us, hl with | [_, _], _ => rfl)⟩
  | n + 1 => by
    have D__law_same := ok__law_same B E n
    exact def_ok (0 + n + 1) E sc__law_same (fun _ _ _ _ _ _ us hl => match us, hl with | [_, _], _ => rfl) (fun f cdv A outer s H E hr =>
      fss_cons (fs_if (ft_cmp op_isA snd_is (fx_var 1) fx_non (nomark _)) (fss_one (fs_ret (fz := true) (fx_cmp op_isA snd_is (fx_var 0) fx_non (nomark _)))) fss_nil) (fss_cons (fs_if (ft_truth (fx_isi (T := "bool") B.isinstance B.bool (fx_var 1))) (fss_one (fs_ret (fz := true) (fx_and (fx_isi (T := "bool") B.isinstance B.bool (fx_var 0)) (fx_one (fx_cmp (op_eqA hr.units) snd_eqX (fx_var 0) (fx_var 1) (nomark _)))))) fss_nil) (fss_cons (fs_if (ft_truth (fx_isi (T := "int") B.isinstance B.int (fx_var 1))) (fss_one (fs_ret (fz := true) (fx_and (fx_isi (T := "int") B.isinstance B.int (fx_var 0)) (fx_and (fx_not (fx_isi (T := "bool") B.isinstance B.bool (fx_var 0))) (fx_one (fx_cmp (op_eqA hr.units) snd_eqX (fx_var 0) (fx_var 1) (nomark _))))))) fss_nil) (fss_cons (fs_if (ft_truth (fx_isi (T := "str") B.isinstance B.str (fx_var 1))) (fss_one (fs_ret (fz := true) (fx_and (fx_isi (T := "str") B.isinstance B.str (fx_var 0)) (fx_one (fx_cmp (op_eqA hr.units) snd_eqX (fx_var 0) (fx_var 1) (nomark _)))))) fss_nil) (fss_cons (fs_if ((fw_or (ft_not (ft_truth (fx_isi (T := "tuple") B.isinstance B.tuple (fx_var 0)))) (fw_or1 (ft_cmp (op_neA hr.units) snd_neX (fx_B (ow := false) call_len snd_len B.len (fa_cons (fx_var 0) fa_nil)) (fx_B (ow := false) call_len snd_len B.len (fa_cons (fx_var 1) fa_nil)) (nomark _)))).ft) (fss_one (fs_ret (fz := true) fx_bl)) fss_nil) (fss_one (fs_ret (fz := true) (fx_B (ow := false) (cr_all rfl) snd_all B.«all» (fa_cons (fx_lc (own := [("k", 2)]) (ow := false) rfl sc__law_same.nd (fi_range1 B.range (fx_B (ow := false) call_len snd_len B.len (fa_cons (fx_var 1) fa_nil))) (blkOk_by (own := [("k", 2)]) (N := N__law_same) (sc := defScope s__law_same) (by decide +kernel)) (fun _ _ _ _ _ => fg_name (i := 2) sc__law_same.nd) (fun _ _ _ _ _ => fts_nil) (fun _ _ _ _ _ => fx_callD D__law_same (hr.mono (by first | decide | omega)) (fa_cons (fx_ix (fx_var 0) (fx_var 2)) (fa_cons (fx_ix (fx_var 1) (fx_var 2)) fa_nil)))) fa_nil)))))))))
theorem sc__law_own_row : FnScope ["bag", "many", "way", "some", "row", "place"] ["bag", "many"] (defScope s__law_own_row) := ⟨rfl, rfl, rfl, by decide +kernel, rfl, by decide +kernel, by decide +kernel⟩
theorem ok__law_own_row (B : Bs mg) (D__law_draw : Def P w K mg base 1 "_law_draw" s__law_draw ["bag", "below"] F__law_draw) (E : At K mg "_law_own_row" s__law_own_row) : Def P w K mg base 2 "_law_own_row" s__law_own_row ["bag", "many"] F__law_own_row :=
  def_ok 1 E sc__law_own_row (fun _ _ _ _ _ _ us hl => match us, hl with | [_, _], _ => rfl) (fun f cdv A outer s H E hr =>
    fss_cons (fs_par3 (i := 2) (j := 3) (l := 4) rfl sc__law_own_row.nd (fa_cons (fx_callD D__law_draw (hr.mono (by first | decide | omega)) (fa_cons (fx_var 0) (fa_cons fx_int fa_nil))) (fa_cons (fx_op (ow := false) op_addA snd_add fx_int (fx_callD D__law_draw (hr.mono (by first | decide | omega)) (fa_cons (fx_var 0) (fa_cons fx_int fa_nil)))) (fa_cons (fx_lst (ow := true) fa_nil) fa_nil)))) (fss_cons (fs_for PassesOwn.never rfl (fi_range1 B.range (fx_var 1)) (fg_name (i := 5) sc__law_own_row.nd) (fss_fgt [5] (fss_one (fs_if (ft_cmp op_lt snd_rel (fx_var 2) fx_int (nomark _)) (fss_one (fs_expr (fx_append 4 (fx_callD D__law_draw (hr.mono (by first | decide | omega)) (fa_cons (fx_var 0) (fa_cons fx_int fa_nil)))))) (fss_one (fs_if (ft_cmp op_lt snd_rel (fx_var 2) fx_int (nomark _)) (fss_one (fs_expr (fx_append 4 (fx_ifE (ft_cmp op_gt snd_rel (fx_callD D__law_draw (hr.mono (by first | decide | omega)) (fa_cons (fx_var 0) (fa_cons (fx_op (ow := false) op_addA snd_add fx_int (fx_var 3)) fa_nil))) fx_int (nomark _)) (fx_op (ow := false) op_sub snd_int2 (fx_var 2) fx_int) (fx_op (ow := false) op_sub snd_int2 fx_int (fx_var 2)))))) (fss_one (fs_if (ft_cmp (op_eqA hr.units) snd_eqX (fx_var 2) fx_int (nomark _)) (fss_one (fs_expr (fx_append 4 (fx_ifE ((fw_and (ft_cmp op_gt snd_rel (fx_var 5) fx_int (nomark _)) (fw_and1 (ft_cmp op_gt snd_rel (fx_callD D__law_draw (hr.mono (by first | decide | omega)) (fa_cons (fx_var 0) (fa_cons (fx_op (ow := false) op_addA snd_add fx_int (fx_var 3)) fa_nil))) fx_int (nomark _)))).ft) (fx_ix (fx_var 4) (fx_op (ow := false) op_sub snd_int2 (fx_var 5) fx_int)) (fx_callD D__law_draw (hr.mono (by first | decide | omega)) (fa_cons (fx_var 0) (fa_cons fx_int fa_nil))))))) (fss_one (fs_expr (fx_append 4 (fx_ifE (ft_cmp op_ge snd_rel (fx_var 5) (fx_var 3) (nomark _)) (fx_ix (fx_var 4) (fx_op (ow := false) op_sub snd_int2 (fx_var 5) (fx_var 3))) (fx_callD D__law_draw (hr.mono (by first | decide | omega)) (fa_cons (fx_var 0) (fa_cons fx_int fa_nil))))))))))))))) (fss_frz 4 (fss_one (fs_ret (fz := true) (fx_Ty (ow := false) call_tuple_of snd_toT B.tuple (fa_cons (fx_var 4) fa_nil)))))))
theorem sc__law_lean : FnScope ["row", "bit"] ["row"] (defScope s__law_lean) := ⟨rfl, rfl, rfl, by decide +kernel, rfl, by decide +kernel, by decide +kernel⟩
theorem ok__law_lean (B : Bs mg) (E : At K mg "_law_lean" s__law_lean) : Def P w K mg base 1 "_law_lean" s__law_lean ["row"] F__law_lean :=
  def_ok 0 E sc__law_lean (fun _ _ _ _ _ _ us hl => match us, hl with | [_], _ => rfl) (fun f cdv A outer s H E hr =>
    fss_one (fs_ret (fz := true) (fx_B (ow := false) (cr_sumA rfl) snd_sumA B.sum (fa_cons (fx_lc (own := [("bit", 1)]) (ow := false) rfl sc__law_lean.nd (fi_seq (fx_var 0)) (blkOk_by (own := [("bit", 1)]) (N := N__law_lean) (sc := defScope s__law_lean) (by decide +kernel)) (fun _ _ _ _ _ => fg_name (i := 1) sc__law_lean.nd) (fun _ _ _ _ _ => fts_nil) (fun _ _ _ _ _ => fx_op (ow := false) op_sub snd_int2 (fx_op (ow := false) op_mulX snd_mulX fx_int (fx_var 1)) fx_int)) fa_nil))))
theorem sc__law_stretch : FnScope ["row", "now", "high", "low", "bit"] ["row"] (defScope s__law_stretch) := ⟨rfl, rfl, rfl, by decide +kernel, rfl, by decide +kernel, by decide +kernel⟩
theorem ok__law_stretch (B : Bs mg) (E : At K mg "_law_stretch" s__law_stretch) : Def P w K mg base 1 "_law_stretch" s__law_stretch ["row"] F__law_stretch :=
  def_ok 0 E sc__law_stretch (fun _ _ _ _ _ _ us hl => match us, hl with | [_], _ => rfl) (fun f cdv A outer s H E hr =>
    fss_cons (fs_multi (is := [1, 2, 3]) rfl (fa_cons fx_int (fa_cons fx_int (fa_cons fx_int fa_nil))) (fm_cons (i := 1) (fm_cons (i := 2) (fm_cons (i := 3) fm_nil sc__law_stretch.nd) sc__law_stretch.nd) sc__law_stretch.nd)) (fss_cons (fs_for PassesOwn.never rfl (fi_seq (fx_var 0)) (fg_name (i := 4) sc__law_stretch.nd) (fss_fgt [4] (fss_cons (fs_set (i := 1) sc__law_stretch.nd (fx_op (ow := false) op_sub snd_int2 (fx_op (ow := false) op_addA snd_add (fx_var 1) (fx_op (ow := false) op_mulX snd_mulX fx_int (fx_var 4))) fx_int)) (fss_one (fs_par2 (i := 2) (j := 3) rfl sc__law_stretch.nd (fx_B (ow := false) (cr_max rfl) snd_maxL B.max (fa_cons (fx_lst (ow := false) (fa_cons (fx_var 2) (fa_cons (fx_var 1) fa_nil))) fa_nil)) (fx_B (ow := false) (cr_min rfl) snd_minL B.min (fa_cons (fx_lst (ow := false) (fa_cons (fx_var 3) (fa_cons (fx_var 1) fa_nil))) fa_nil))))))) (fss_one (fs_ret (fz := true) (fx_op (ow := false) op_sub snd_int2 (fx_var 2) (fx_var 3))))))
theorem sc__law_match : FnScope ["row", "shift", "many", "way", "moved", "a", "b"] ["row", "shift"] (defScope s__law_match) := ⟨rfl, rfl, rfl, by decide +kernel, rfl, by decide +kernel, by decide +kernel⟩
theorem ok__law_match (B : Bs mg) (E : At K mg "_law_match" s__law_match) : Def P w K mg base 1 "_law_match" s__law_match ["row", "shift"] F__law_match :=
  def_ok 0 E sc__law_match (fun _ _ _ _ _ _ us hl => match us, hl with | [_, _], _ => rfl) (fun f cdv A outer s H E hr =>
    fss_cons (fs_set (i := 2) sc__law_match.nd (fx_B (ow := false) call_len snd_len B.len (fa_cons (fx_var 0) fa_nil))) (fss_cons (fs_set (i := 3) sc__law_match.nd (fx_op (ow := false) op_mod snd_mod (fx_Ty (ow := false) call_int1 snd_toInt B.int (fa_cons (fx_var 1) fa_nil)) (fx_var 2))) (fss_cons (fs_set (i := 4) sc__law_match.nd (fx_op (ow := false) op_addA snd_add (fx_slice (ow := false) (fx_var 0) (fo_some (fx_var 3)) fo_none) (fx_slice (ow := false) (fx_var 0) fo_none (fo_some (fx_var 3))))) (fss_one (fs_ret (fz := true) (fx_B (ow := false) (cr_sumA rfl) snd_sumA B.sum (fa_cons (fx_lc (own := [("a", 5), ("b", 6)]) (ow := false) rfl sc__law_match.nd (fi_seq (fx_listZip (ow := false) rfl B.list B.zip (fa_cons (fx_var 0) (fa_cons (fx_var 4) fa_nil)))) (blkOk_by (own := [("a", 5), ("b", 6)]) (N := N__law_match) (sc := defScope s__law_match) (by decide +kernel)) (fun _ _ _ _ _ => fg_tup rfl (fgs_cons (fg_name (i := 5) sc__law_match.nd) (fgs_cons (fg_name (i := 6) sc__law_match.nd) fgs_nil))) (fun _ _ _ _ _ => fts_nil) (fun _ _ _ _ _ => fx_ifE (ft_cmp (op_eqA hr.units) snd_eqX (fx_var 5) (fx_var 6) (nomark _)) fx_int (fx_neg fx_int))) fa_nil)))))))
theorem sc__law_words : FnScope ["row", "many", "counts", "size", "number", "turn", "place"] ["row", "many"] (defScope s__law_words) := ⟨rfl, rfl, rfl, by decide +kernel, rfl, by decide +kernel, by decide +kernel⟩
theorem ok__law_words (B : Bs mg) (E : At K mg "_law_words" s__law_words) : Def P w K mg base 1 "_law_words" s__law_words ["row", "many"] F__law_words :=
  def_ok 0 E sc__law_words (fun _ _ _ _ _ _ us hl => match us, hl with | [_, _], _ => rfl) (fun f cdv A outer s H E hr =>
    fss_cons (fs_par3 (i := 2) (j := 3) (l := 4) rfl sc__law_words.nd (fa_cons (fx_op (ow := true) op_mulX snd_mulX (fx_lst (ow := false) (fa_cons fx_int fa_nil)) (fx_op (ow := false) op_pow snd_pow fx_int fx_int)) (fa_cons fx_int (fa_cons fx_int fa_nil)))) (fss_cons (fs_for PassesOwn.never rfl (fi_range1 B.range (fx_var 1)) (fg_name (i := 5) sc__law_words.nd) (fss_fgt [5] (fss_cons (fs_set (i := 3) sc__law_words.nd (fx_op (ow := false) op_mulX snd_mulX (fx_var 3) fx_int)) (fss_one (fs_set (i := 4) sc__law_words.nd (fx_op (ow := false) op_addA snd_add (fx_op (ow := false) op_mulX snd_mulX (fx_var 4) fx_int) (fx_ix (fx_var 0) (fx_op (ow := false) op_mod snd_mod (fx_Ty (ow := false) call_int1 snd_toInt B.int (fa_cons (fx_var 5) fa_nil)) (fx_B (ow := false) call_len snd_len B.len (fa_cons (fx_var 0) fa_nil)))))))))) (fss_cons (fs_for PassesOwn.never rfl (fi_range1 B.range (fx_B (ow := false) call_len snd_len B.len (fa_cons (fx_var 0) fa_nil))) (fg_name (i := 6) sc__law_words.nd) (fss_fgt [6] (fss_cons (fs_putIx 2 (fx_op (ow := false) op_addA snd_add (fx_ix (fx_var 2) (fx_var 4)) fx_int) (fx_var 4)) (fss_one (fs_set (i := 4) sc__law_words.nd (fx_op (ow := false) op_addA snd_add (fx_op (ow := false) op_mod snd_mod (fx_Ty (ow := false) call_int1 snd_toInt B.int (fa_cons (fx_op (ow := false) op_mulX snd_mulX (fx_var 4) fx_int) fa_nil)) (fx_var 3)) (fx_ix (fx_var 0) (fx_op (ow := false) op_mod snd_mod (fx_Ty (ow := false) call_int1 snd_toInt B.int (fa_cons (fx_op (ow := false) op_addA snd_add (fx_var 6) (fx_var 1)) fa_nil)) (fx_B (ow := false) call_len snd_len B.len (fa_cons (fx_var 0) fa_nil)))))))))) (fss_frz 2 (fss_one (fs_ret (fz := true) (fx_Ty (ow := false) call_tuple_of snd_toT B.tuple (fa_cons (fx_slice (ow := false) (fx_var 2) fo_none (fo_some (fx_var 3))) fa_nil))))))))
theorem sc__law_shift : FnScope ["bag", "many", "way", "shift", "turn"] ["bag", "many"] (defScope s__law_shift) := ⟨rfl, rfl, rfl, by decide +kernel, rfl, by decide +kernel, by decide +kernel⟩
theorem ok__law_shift (B : Bs mg) (D__law_draw : Def P w K mg base 1 "_law_draw" s__law_draw ["bag", "below"] F__law_draw) (D__law_pick : Def P w K mg base 2 "_law_pick" s__law_pick ["bag", "some"] F__law_pick) (E : At K mg "_law_shift" s__law_shift) : Def P w K mg base 3 "_law_shift" s__law_shift ["bag", "many"] F__law_shift :=
  def_ok 2 E sc__law_shift (fun _ _ _ _ _ _ us hl => match us, hl with | [_, _], _ => rfl) (fun f cdv A outer s H E hr =>
    fss_cons (fs_par2 (i := 2) (j := 3) rfl sc__law_shift.nd (fx_callD D__law_draw (hr.mono (by first | decide | omega)) (fa_cons (fx_var 0) (fa_cons fx_int fa_nil))) fx_int) (fss_cons (fs_if (ft_cmp op_lt snd_rel (fx_var 2) fx_int (nomark _)) (fss_one (fs_ret (fz := true) (fx_callD D__law_draw (hr.mono (by first | decide | omega)) (fa_cons (fx_var 0) (fa_cons (fx_op (ow := false) op_addA snd_add (fx_var 1) fx_int) fa_nil))))) fss_nil) (fss_cons (fs_if (ft_cmp (op_eqA hr.units) snd_eqX (fx_var 2) fx_int (nomark _)) (fss_one (fs_ret (fz := true) (fx_op (ow := false) op_addA snd_add (fx_op (ow := false) op_mulX snd_mulX (fx_var 1) (fx_op (ow := false) op_addA snd_add fx_int (fx_callD D__law_draw (hr.mono (by first | decide | omega)) (fa_cons (fx_var 0) (fa_cons fx_int fa_nil))))) (fx_callD D__law_pick (hr.mono (by first | decide | omega)) (fa_cons (fx_var 0) (fa_cons (fx_lst (ow := false) (fa_cons fx_int (fa_cons fx_int (fa_cons fx_int (fa_cons (fx_op (ow := false) op_sub snd_int2 (fx_var 1) fx_int) fa_nil))))) fa_nil)))))) fss_nil) (fss_cons (fs_if (ft_cmp (op_eqA hr.units) snd_eqX (fx_var 2) fx_int (nomark _)) (fss_one (fs_ret (fz := true) (fx_op (ow := false) op_sub snd_int2 (fx_op (ow := false) op_sub snd_int2 (fx_op (ow := false) op_pow snd_pow fx_int fx_int) fx_int) (fx_callD D__law_draw (hr.mono (by first | decide | omega)) (fa_cons (fx_var 0) (fa_cons fx_int fa_nil)))))) fss_nil) (fss_cons (fs_for PassesOwn.never rfl (fi_range1 B.range (fx_op (ow := false) op_addA snd_add fx_int (fx_callD D__law_draw (hr.mono (by first | decide | omega)) (fa_cons (fx_var 0) (fa_cons fx_int fa_nil))))) (fg_name (i := 4) sc__law_shift.nd) (fss_fgt [4] (fss_one (fs_set (i := 3) sc__law_shift.nd (fx_op (ow := false) op_addA snd_add (fx_op (ow := false) op_mulX snd_mulX (fx_var 3) (fx_op (ow := false) op_pow snd_pow fx_int fx_int)) (fx_callD D__law_draw (hr.mono (by first | decide | omega)) (fa_cons (fx_var 0) (fa_cons (fx_op (ow := false) op_pow snd_pow fx_int fx_int) fa_nil)))))))) (fss_one (fs_ret (fz := true) (fx_var 3))))))))
theorem sc__law_put : FnScope ["row", "at", "item"] ["row", "at", "item"] (defScope s__law_put) := ⟨rfl, rfl, rfl, by decide +kernel, rfl, by decide +kernel, by decide +kernel⟩
theorem ok__law_put (B : Bs mg) (E : At K mg "_law_put" s__law_put) : Def P w K mg base 1 "_law_put" s__law_put ["row", "at", "item"] F__law_put :=
  def_ok 0 E sc__law_put (fun _ _ _ _ _ _ us hl => match us, hl with | [_, _, _], _ => rfl) (fun f cdv A outer s H E hr =>
    fss_one (fs_ret (fz := true) (fx_op (ow := false) op_addA snd_add (fx_op (ow := false) op_addA snd_add (fx_slice (ow := false) (fx_var 0) fo_none (fo_some (fx_var 1))) (fx_tup (fa_cons (fx_var 2) fa_nil))) (fx_slice (ow := false) (fx_var 0) (fo_some (fx_op (ow := false) op_addA snd_add (fx_var 1) fx_int)) fo_none))))
theorem sc__law_are_errors_right : FnScope ["bag", "row", "bit", "full", "some", "last", "at", "bad", "k", "value", "due", "kept", "told"] ["bag", "row"] (defScope s__law_are_errors_right) := ⟨rfl, rfl, rfl, by decide +kernel, rfl, by decide +kernel, by decide +kernel⟩
theorem ok__law_are_errors_right (B : Bs mg) (D__law_draw : Def P w K mg base 1 "_law_draw" s__law_draw ["bag", "below"] F__law_draw) (D__law_put : Def P w K mg base 1 "_law_put" s__law_put ["row", "at", "item"] F__law_put) (D_rows_error : Def P w K mg base 1 "rows_error" s_rows_error ["value"] F_rows_error) (D__law_same : Def P w K mg base 9 "_law_same" s__law_same ["told", "due"] (F__law_same 8)) (E : At K mg "_law_are_errors_right" s__law_are_errors_right) : Def P w K mg base 10 "_law_are_errors_right" s__law_are_errors_right ["bag", "row"] F__law_are_errors_right :=
  def_ok 9 E sc__law_are_errors_right (fun _ _ _ _ _ _ us hl => match us, hl with | [_, _], _ => rfl) (fun f cdv A outer s H E hr =>
    fss_cons (fs_set (i := 2) sc__law_are_errors_right.nd (fx_callD D__law_draw (hr.mono (by first | decide | omega)) (fa_cons (fx_var 0) (fa_cons fx_int fa_nil)))) (fss_cons (fs_set (i := 3) sc__law_are_errors_right.nd (fx_slice (ow := false) (fx_op (ow := false) op_addA snd_add (fx_op (ow := false) op_mulX snd_mulX (fx_var 1) fx_int) (fx_op (ow := false) op_mulX snd_mulX (fx_tup (fa_cons (fx_var 2) fa_nil)) fx_int)) fo_none (fo_some fx_int))) (fss_cons (fs_set (i := 4) sc__law_are_errors_right.nd (fx_lst (ow := true) (fa_cons (fx_tup (fa_cons (fx_var 1) (fa_cons fx_non fa_nil))) (fa_cons (fx_tup (fa_cons (fx_tup fa_nil) (fa_cons fx_non fa_nil))) (fa_cons (fx_tup (fa_cons (fx_var 3) (fa_cons fx_non fa_nil))) (fa_cons (fx_tup (fa_cons (fx_Ty (ow := false) call_list_of snd_toL B.list (fa_cons (fx_var 1) fa_nil)) (fa_cons fx_str fa_nil))) (fa_cons (fx_tup (fa_cons fx_non (fa_cons fx_str fa_nil))) (fa_cons (fx_tup (fa_cons (fx_var 2) (fa_cons fx_str fa_nil))) (fa_cons (fx_tup (fa_cons fx_str (fa_cons fx_str fa_nil))) fa_nil))))))))) (fss_cons (fs_expr (fx_extend 4 (fx_lst (ow := false) (fa_cons (fx_tup (fa_cons (fx_op (ow := false) op_addA snd_add (fx_var 3) (fx_tup (fa_cons (fx_var 2) fa_nil))) (fa_cons fx_str fa_nil))) (fa_cons (fx_tup (fa_cons (fx_op (ow := false) op_addA snd_add (fx_slice (ow := false) (fx_var 3) fo_none (fo_some fx_int)) (fx_tup (fa_cons fx_int (fa_cons (fx_var 2) fa_nil)))) (fa_cons fx_str fa_nil))) (fa_cons (fx_tup (fa_cons (fx_op (ow := false) op_addA snd_add (fx_Ty (ow := false) call_list_of snd_toL B.list (fa_cons (fx_var 3) fa_nil)) (fx_lst (ow := false) (fa_cons (fx_var 2) fa_nil))) (fa_cons fx_str fa_nil))) fa_nil)))))) (fss_cons (fs_expr (fx_append 4 (fx_tup (fa_cons (fx_frzE fx_dnewK) (fa_cons fx_str fa_nil))))) (fss_cons (fs_expr (fx_extend 4 (fx_lst (ow := false) (fa_cons (fx_tup (fa_cons (fx_op (ow := false) op_addA snd_add (fx_slice (ow := false) (fx_var 3) fo_none (fo_some fx_int)) (fx_tup (fa_cons fx_int fa_nil))) (fa_cons (fx_tup (fa_cons fx_str (fa_cons fx_int fa_nil))) fa_nil))) (fa_cons (fx_tup (fa_cons (fx_op (ow := false) op_mulX snd_mulX (fx_tup (fa_cons fx_non fa_nil)) fx_int) (fa_cons fx_str fa_nil))) (fa_cons (fx_tup (fa_cons (fx_tup (fa_cons (fx_var 3) (fa_cons (fx_var 3) fa_nil))) (fa_cons (fx_tup (fa_cons fx_str (fa_cons fx_int fa_nil))) fa_nil))) fa_nil)))))) (fss_cons (fs_if (ft_cmp (op_neA hr.units) snd_neX (fx_var 1) (fx_tup fa_nil) (nomark _)) (fss_cons (fs_par2 (i := 5) (j := 6) rfl sc__law_are_errors_right.nd (fx_op (ow := false) op_sub snd_int2 (fx_B (ow := false) call_len snd_len B.len (fa_cons (fx_var 1) fa_nil)) fx_int) (fx_callD D__law_draw (hr.mono (by first | decide | omega)) (fa_cons (fx_var 0) (fa_cons (fx_B (ow := false) call_len snd_len B.len (fa_cons (fx_var 1) fa_nil)) fa_nil)))) (fss_cons (fs_for PassesOwn.never rfl (fi_seq (fx_lst (ow := false) (fa_cons fx_int (fa_cons (fx_neg fx_int) (fa_cons fx_bl (fa_cons fx_bl (fa_cons fx_non (fa_cons fx_str (fa_cons fx_str (fa_cons (fx_tup fa_nil) (fa_cons (fx_tup (fa_cons fx_int fa_nil)) (fa_cons (fx_lst (ow := false) (fa_cons fx_int fa_nil)) (fa_cons (fx_op (ow := false) op_addA snd_add fx_int (fx_callD D__law_draw (hr.mono (by first | decide | omega)) (fa_cons (fx_var 0) (fa_cons fx_int fa_nil)))) (fa_cons (fx_op (ow := false) op_pow snd_pow fx_int fx_int) (fa_cons (fx_frzE fx_dnewK) fa_nil))))))))))))))) (fg_name (i := 7) sc__law_are_errors_right.nd) (fss_fgt [7] (fss_cons (fs_expr (fx_append 4 (fx_tup (fa_cons (fx_callD D__law_put (hr.mono (by first | decide | omega)) (fa_cons (fx_var 1) (fa_cons (fx_var 5) (fa_cons (fx_var 7) fa_nil)))) (fa_cons (fx_tup (fa_cons fx_str (fa_cons (fx_var 5) fa_nil))) fa_nil))))) (fss_one (fs_expr (fx_append 4 (fx_tup (fa_cons (fx_callD D__law_put (hr.mono (by first | decide | omega)) (fa_cons (fx_callD D__law_put (hr.mono (by first | decide | omega)) (fa_cons (fx_var 1) (fa_cons (fx_var 5) (fa_cons fx_non fa_nil)))) (fa_cons (fx_var 6) (fa_cons (fx_var 7) fa_nil)))) (fa_cons (fx_tup (fa_cons fx_str (fa_cons (fx_var 6) fa_nil))) fa_nil))))))))) (fss_one (fs_if (ft_cmp op_lt snd_rel (fx_var 5) fx_int (nomark _)) (fss_one (fs_expr (fx_append 4 (fx_tup (fa_cons (fx_op (ow := false) op_addA snd_add (fx_var 1) (fx_tup (fa_cons fx_int fa_nil))) (fa_cons (fx_tup (fa_cons fx_str (fa_cons (fx_op (ow := false) op_addA snd_add (fx_var 5) fx_int) fa_nil))) fa_nil)))))) fss_nil)))) fss_nil) (fss_frz 4 (fss_cons (fs_for PassesOwn.never rfl (fi_enumA B.enumerate (fx_var 4)) (fg_tup rfl (fgs_cons (fg_name (i := 8) sc__law_are_errors_right.nd) (fgs_cons (fg_tup rfl (fgs_cons (fg_name (i := 9) sc__law_are_errors_right.nd) (fgs_cons (fg_name (i := 10) sc__law_are_errors_right.nd) fgs_nil))) fgs_nil))) (fss_fgt [8, 9, 10, 11, 12] (fss_cons (fs_set (i := 11) sc__law_are_errors_right.nd (fx_B (ow := false) (cr_reprX hr.rp) snd_reprX B.repr (fa_cons (fx_var 9) fa_nil))) (fss_cons (fs_set (i := 12) sc__law_are_errors_right.nd (fx_ifE (ft_cmp (op_eqA hr.units) snd_eqX (fx_var 8) fx_int (nomark _)) (fx_callK0 (js := [0]) D_rows_error (hr.mono (by first | decide | omega)) (by decide) (fun _ _ _ _ _ _ us ws h1 h2 => match us, ws, h1, h2 with | [], [_], _, _ => rfl) (fk_cons (fx_var 9) fk_nil)) (fx_callD D_rows_error (hr.mono (by first | decide | omega)) (fa_cons (fx_var 9) fa_nil)))) (fss_one (fs_if ((fw_or (ft_not (ft_truth (fx_callD D__law_same (hr.mono (by first | decide | omega)) (fa_cons (fx_var 12) (fa_cons (fx_var 10) fa_nil))))) (fw_or1 (ft_cmp (op_neA hr.units) snd_neX (fx_B (ow := false) (cr_reprX hr.rp) snd_reprX B.repr (fa_cons (fx_var 9) fa_nil)) (fx_var 11) (nomark _)))).ft) (fss_one (fs_ret (fz := true) fx_bl)) fss_nil)))))) (fss_one (fs_ret (fz := true) fx_bl)))))))))))
theorem sc__law_are_leans_right : FnScope ["bag", "row", "many", "begin", "end", "whole", "part", "low", "high", "ahead", "behind", "due"] ["bag", "row"] (defScope s__law_are_leans_right) := ⟨rfl, rfl, rfl, by decide +kernel, rfl, by decide +kernel, by decide +kernel⟩
theorem ok__law_are_leans_right (B : Bs mg) (D__law_draw : Def P w K mg base 1 "_law_draw" s__law_draw ["bag", "below"] F__law_draw) (D__law_stretch : Def P w K mg base 1 "_law_stretch" s__law_stretch ["row"] F__law_stretch) (D__law_same : Def P w K mg base 9 "_law_same" s__law_same ["told", "due"] (F__law_same 8)) (D_stretch_lean : Def P w K mg base 1 "stretch_lean" s_stretch_lean ["row"] F_stretch_lean) (D__law_lean : Def P w K mg base 1 "_law_lean" s__law_lean ["row"] F__law_lean) (D_lean_at : Def P w K mg base 1 "lean_at" s_lean_at ["row", "begin", "end"] F_lean_at) (E : At K mg "_law_are_leans_right" s__law_are_leans_right) : Def P w K mg base 10 "_law_are_leans_right" s__law_are_leans_right ["bag", "row"] F__law_are_leans_right :=
  def_ok 9 E sc__law_are_leans_right (fun _ _ _ _ _ _ us hl => match us, hl with | [_, _], _ => rfl) (fun f cdv A outer s H E hr =>
    fss_cons (fs_set (i := 2) sc__law_are_leans_right.nd (fx_B (ow := false) call_len snd_len B.len (fa_cons (fx_var 1) fa_nil))) (fss_cons (fs_set (i := 3) sc__law_are_leans_right.nd (fx_callD D__law_draw (hr.mono (by first | decide | omega)) (fa_cons (fx_var 0) (fa_cons (fx_op (ow := false) op_addA snd_add (fx_var 2) fx_int) fa_nil)))) (fss_cons (fs_set (i := 4) sc__law_are_leans_right.nd (fx_op (ow := false) op_addA snd_add (fx_var 3) (fx_callD D__law_draw (hr.mono (by first | decide | omega)) (fa_cons (fx_var 0) (fa_cons (fx_op (ow := false) op_addA snd_add (fx_op (ow := false) op_sub snd_int2 (fx_var 2) (fx_var 3)) fx_int) fa_nil))))) (fss_cons (fs_par2 (i := 5) (j := 6) rfl sc__law_are_leans_right.nd (fx_callD D__law_stretch (hr.mono (by first | decide | omega)) (fa_cons (fx_var 1) fa_nil)) (fx_callD D__law_stretch (hr.mono (by first | decide | omega)) (fa_cons (fx_slice (ow := false) (fx_var 1) (fo_some (fx_var 3)) (fo_some (fx_var 4))) fa_nil))) (fss_cons (fs_if ((fw_or (ft_not (ft_truth (fx_callD D__law_same (hr.mono (by first | decide | omega)) (fa_cons (fx_callD D_stretch_lean (hr.mono (by first | decide | omega)) (fa_cons (fx_var 1) fa_nil)) (fa_cons (fx_var 5) fa_nil))))) (fw_or1 (ft_not (ft_truth (fx_callD D__law_same (hr.mono (by first | decide | omega)) (fa_cons (fx_callK0 (js := [0]) D_stretch_lean (hr.mono (by first | decide | omega)) (by decide) (fun _ _ _ _ _ _ us ws h1 h2 => match us, ws, h1, h2 with | [], [_], _, _ => rfl) (fk_cons (fx_slice (ow := false) (fx_var 1) (fo_some (fx_var 3)) (fo_some (fx_var 4))) fk_nil)) (fa_cons (fx_var 6) fa_nil))))))).ft) (fss_one (fs_ret (fz := true) fx_bl)) fss_nil) (fss_cons (fs_for PassesOwn.never rfl (fi_seq (fx_lst (ow := false) (fa_cons (fx_tup (fa_cons fx_int (fa_cons (fx_var 2) fa_nil))) (fa_cons (fx_tup (fa_cons fx_int (fa_cons fx_int fa_nil))) (fa_cons (fx_tup (fa_cons (fx_var 2) (fa_cons (fx_var 2) fa_nil))) (fa_cons (fx_tup (fa_cons (fx_var 3) (fa_cons (fx_var 4) fa_nil))) (fa_cons (fx_tup (fa_cons (fx_var 3) (fa_cons (fx_var 3) fa_nil))) (fa_cons (fx_tup (fa_cons fx_int (fa_cons (fx_var 4) fa_nil))) (fa_cons (fx_tup (fa_cons (fx_var 3) (fa_cons (fx_var 2) fa_nil))) fa_nil))))))))) (fg_tup rfl (fgs_cons (fg_name (i := 7) sc__law_are_leans_right.nd) (fgs_cons (fg_name (i := 8) sc__law_are_leans_right.nd) fgs_nil))) (fss_fgt [7, 8] (fss_one (fs_if (ft_not (ft_truth (fx_callD D__law_same (hr.mono (by first | decide | omega)) (fa_cons (fx_callD D_lean_at (hr.mono (by first | decide | omega)) (fa_cons (fx_var 1) (fa_cons (fx_var 7) (fa_cons (fx_var 8) fa_nil)))) (fa_cons (fx_callD D__law_lean (hr.mono (by first | decide | omega)) (fa_cons (fx_slice (ow := false) (fx_var 1) (fo_some (fx_var 7)) (fo_some (fx_var 8))) fa_nil)) fa_nil))))) (fss_one (fs_ret (fz := true) fx_bl)) fss_nil)))) (fss_cons (fs_par2 (i := 9) (j := 10) rfl sc__law_are_leans_right.nd (fx_callK0 (js := [0, 1, 2]) D_lean_at (hr.mono (by first | decide | omega)) (by decide) (fun _ _ _ _ _ _ us ws h1 h2 => match us, ws, h1, h2 with | [], [_, _, _], _, _ => rfl) (fk_cons (fx_var 1) (fk_cons fx_int (fk_cons (fx_var 3) fk_nil)))) (fx_callP (js := [0, 2, 1]) D_lean_at (hr.mono (by first | decide | omega)) (by decide) (fun _ _ _ _ _ _ us ws h1 h2 => match us, ws, h1, h2 with | [_], [_, _], _, _ => rfl) (fa_cons (fx_var 1) fa_nil) (fk_cons (fx_var 2) (fk_cons (fx_var 3) fk_nil)))) (fss_cons (fs_set (i := 11) sc__law_are_leans_right.nd (fx_lst (ow := false) (fa_cons (fx_callD D__law_lean (hr.mono (by first | decide | omega)) (fa_cons (fx_slice (ow := false) (fx_var 1) fo_none (fo_some (fx_var 3))) fa_nil)) (fa_cons (fx_callD D__law_lean (hr.mono (by first | decide | omega)) (fa_cons (fx_slice (ow := false) (fx_var 1) (fo_some (fx_var 3)) fo_none) fa_nil)) fa_nil)))) (fss_cons (fs_if ((fw_or (ft_not (ft_truth (fx_callD D__law_same (hr.mono (by first | decide | omega)) (fa_cons (fx_tup (fa_cons (fx_var 9) (fa_cons (fx_var 10) fa_nil))) (fa_cons (fx_Ty (ow := false) call_tuple_of snd_toT B.tuple (fa_cons (fx_var 11) fa_nil)) fa_nil))))) (fw_or1 (ft_cmp (op_neA hr.units) snd_neX (fx_op (ow := false) op_addA snd_add (fx_var 9) (fx_var 10)) (fx_callD D__law_lean (hr.mono (by first | decide | omega)) (fa_cons (fx_var 1) fa_nil)) (nomark _)))).ft) (fss_one (fs_ret (fz := true) fx_bl)) fss_nil) (fss_one (fs_ret (fz := true) (fx_and (fx_callD D__law_same (hr.mono (by first | decide | omega)) (fa_cons (fx_callD D_stretch_lean (hr.mono (by first | decide | omega)) (fa_cons (fx_tup fa_nil) fa_nil)) (fa_cons fx_int fa_nil))) (fx_and (fx_callD D__law_same (hr.mono (by first | decide | omega)) (fa_cons (fx_callD D_lean_at (hr.mono (by first | decide | omega)) (fa_cons (fx_tup fa_nil) (fa_cons fx_int (fa_cons fx_int fa_nil)))) (fa_cons fx_int fa_nil))) (fx_one (fx_cmp op_le snd_rel (fx_var 6) (fx_var 5) (nomark _))))))))))))))))
theorem sc__law_are_matches_right : FnScope ["bag", "row", "many", "turn", "shift", "due", "told"] ["bag", "row"] (defScope s__law_are_matches_right) := ⟨rfl, rfl, rfl, by decide +kernel, rfl, by decide +kernel, by decide +kernel⟩
theorem ok__law_are_matches_right (B : Bs mg) (D__law_shift : Def P w K mg base 3 "_law_shift" s__law_shift ["bag", "many"] F__law_shift) (D__law_match : Def P w K mg base 1 "_law_match" s__law_match ["row", "shift"] F__law_match) (D_ring_match : Def P w K mg base 1 "ring_match" s_ring_match ["row", "shift"] F_ring_match) (D__law_same : Def P w K mg base 9 "_law_same" s__law_same ["told", "due"] (F__law_same 8)) (E : At K mg "_law_are_matches_right" s__law_are_matches_right) : Def P w K mg base 10 "_law_are_matches_right" s__law_are_matches_right ["bag", "row"] F__law_are_matches_right :=
  def_ok 9 E sc__law_are_matches_right (fun _ _ _ _ _ _ us hl => match us, hl with | [_, _], _ => rfl) (fun f cdv A outer s H E hr =>
    fss_cons (fs_set (i := 2) sc__law_are_matches_right.nd (fx_B (ow := false) call_len snd_len B.len (fa_cons (fx_var 1) fa_nil))) (fss_cons (fs_for PassesOwn.never rfl (fi_range1 B.range fx_int) (fg_name (i := 3) sc__law_are_matches_right.nd) (fss_fgt [3, 4, 5, 6] (fss_cons (fs_set (i := 4) sc__law_are_matches_right.nd (fx_ifE (ft_cmp op_gt snd_rel (fx_var 3) fx_int (nomark _)) (fx_callD D__law_shift (hr.mono (by first | decide | omega)) (fa_cons (fx_var 0) (fa_cons (fx_var 2) fa_nil))) fx_int)) (fss_cons (fs_set (i := 5) sc__law_are_matches_right.nd (fx_callD D__law_match (hr.mono (by first | decide | omega)) (fa_cons (fx_var 1) (fa_cons (fx_var 4) fa_nil)))) (fss_cons (fs_set (i := 6) sc__law_are_matches_right.nd (fx_ifE (ft_cmp (op_eqA hr.units) snd_eqX (fx_var 3) fx_int (nomark _)) (fx_callK0 (js := [0, 1]) D_ring_match (hr.mono (by first | decide | omega)) (by decide) (fun _ _ _ _ _ _ us ws h1 h2 => match us, ws, h1, h2 with | [], [_, _], _, _ => rfl) (fk_cons (fx_var 1) (fk_cons (fx_var 4) fk_nil))) (fx_callD D_ring_match (hr.mono (by first | decide | omega)) (fa_cons (fx_var 1) (fa_cons (fx_var 4) fa_nil))))) (fss_cons (fs_if (ft_not (ft_truth (fx_callD D__law_same (hr.mono (by first | decide | omega)) (fa_cons (fx_var 6) (fa_cons (fx_var 5) fa_nil))))) (fss_one (fs_ret (fz := true) fx_bl)) fss_nil) (fss_one (fs_if ((fw_and (ft_cmp op_le snd_rel (fx_var 4) (fx_var 2) (nomark _)) (fw_and1 (ft_not (ft_truth (fx_callD D__law_same (hr.mono (by first | decide | omega)) (fa_cons (fx_callD D_ring_match (hr.mono (by first | decide | omega)) (fa_cons (fx_var 1) (fa_cons (fx_op (ow := false) op_sub snd_int2 (fx_var 2) (fx_var 4)) fa_nil))) (fa_cons (fx_var 5) fa_nil))))))).ft) (fss_one (fs_ret (fz := true) fx_bl)) fss_nil)))))))) (fss_one (fs_ret (fz := true) fx_bl))))
theorem sc__law_are_words_right : FnScope ["bag", "row", "many", "due", "told", "half", "less", "by_last", "by_first", "k"] ["bag", "row"] (defScope s__law_are_words_right) := ⟨rfl, rfl, rfl, by decide +kernel, rfl, by decide +kernel, by decide +kernel⟩
theorem ok__law_are_words_right (B : Bs mg) (D__law_pick : Def P w K mg base 2 "_law_pick" s__law_pick ["bag", "some"] F__law_pick) (D__law_words : Def P w K mg base 1 "_law_words" s__law_words ["row", "many"] F__law_words) (D_word_counts : Def P w K mg base 1 "word_counts" s_word_counts ["row", "many"] F_word_counts) (D__law_same : Def P w K mg base 9 "_law_same" s__law_same ["told", "due"] (F__law_same 8)) (E : At K mg "_law_are_words_right" s__law_are_words_right) : Def P w K mg base 10 "_law_are_words_right" s__law_are_words_right ["bag", "row"] F__law_are_words_right :=
  def_ok 9 E sc__law_are_words_right (fun _ _ _ _ _ _ us hl => match us, hl with | [_, _], _ => rfl) (fun f cdv A outer s H E hr =>
    fss_cons (fs_set (i := 2) sc__law_are_words_right.nd (fx_callD D__law_pick (hr.mono (by first | decide | omega)) (fa_cons (fx_var 0) (fa_cons (fx_lst (ow := false) (fa_cons fx_int (fa_cons fx_int (fa_cons fx_int (fa_cons fx_int (fa_cons fx_int (fa_cons fx_int (fa_cons fx_int (fa_cons fx_int (fa_cons fx_int (fa_cons fx_int (fa_cons fx_int fa_nil)))))))))))) fa_nil)))) (fss_cons (fs_set (i := 3) sc__law_are_words_right.nd (fx_callD D__law_words (hr.mono (by first | decide | omega)) (fa_cons (fx_var 1) (fa_cons (fx_var 2) fa_nil)))) (fss_cons (fs_set (i := 4) sc__law_are_words_right.nd (fx_callD D_word_counts (hr.mono (by first | decide | omega)) (fa_cons (fx_var 1) (fa_cons (fx_var 2) fa_nil)))) (fss_cons (fs_if ((fw_or (ft_not (ft_truth (fx_callD D__law_same (hr.mono (by first | decide | omega)) (fa_cons (fx_var 4) (fa_cons (fx_var 3) fa_nil))))) (fw_or (ft_cmp (op_neA hr.units) snd_neX (fx_B (ow := false) (cr_sumA rfl) snd_sumA B.sum (fa_cons (fx_var 4) fa_nil)) (fx_B (ow := false) call_len snd_len B.len (fa_cons (fx_var 1) fa_nil)) (nomark _)) (fw_or1 (ft_not (ft_truth (fx_callD D__law_same (hr.mono (by first | decide | omega)) (fa_cons (fx_callK0 (js := [1, 0]) D_word_counts (hr.mono (by first | decide | omega)) (by decide) (fun _ _ _ _ _ _ us ws h1 h2 => match us, ws, h1, h2 with | [], [_, _], _, _ => rfl) (fk_cons (fx_var 2) (fk_cons (fx_var 1) fk_nil))) (fa_cons (fx_var 3) fa_nil)))))))).ft) (fss_one (fs_ret (fz := true) fx_bl)) fss_nil) (fss_cons (fs_if (ft_cmp (op_eqA hr.units) snd_eqX (fx_var 2) fx_int (nomark _)) (fss_one (fs_ret (fz := true) (fx_callD D__law_same (hr.mono (by first | decide | omega)) (fa_cons (fx_var 4) (fa_cons (fx_tup (fa_cons (fx_op (ow := false) op_sub snd_int2 (fx_B (ow := false) call_len snd_len B.len (fa_cons (fx_var 1) fa_nil)) (fx_B (ow := false) (cr_sumA rfl) snd_sumA B.sum (fa_cons (fx_var 1) fa_nil))) (fa_cons (fx_B (ow := false) (cr_sumA rfl) snd_sumA B.sum (fa_cons (fx_var 1) fa_nil)) fa_nil))) fa_nil))))) fss_nil) (fss_cons (fs_set (i := 5) sc__law_are_words_right.nd (fx_op (ow := false) op_fdivW snd_div (fx_B (ow := false) call_len snd_len B.len (fa_cons (fx_var 3) fa_nil)) fx_int)) (fss_cons (fs_set (i := 6) sc__law_are_words_right.nd (fx_callD D_word_counts (hr.mono (by first | decide | omega)) (fa_cons (fx_var 1) (fa_cons (fx_op (ow := false) op_sub snd_int2 (fx_var 2) fx_int) fa_nil)))) (fss_cons (fs_if (ft_not (ft_truth (fx_callD D__law_same (hr.mono (by first | decide | omega)) (fa_cons (fx_var 6) (fa_cons (fx_callD D__law_words (hr.mono (by first | decide | omega)) (fa_cons (fx_var 1) (fa_cons (fx_op (ow := false) op_sub snd_int2 (fx_var 2) fx_int) fa_nil))) fa_nil))))) (fss_one (fs_ret (fz := true) fx_bl)) fss_nil) (fss_cons (fs_set (i := 7) sc__law_are_words_right.nd (fx_Ty (ow := false) call_tuple_of snd_toT B.tuple (fa_cons (fx_lc (own := [("k", 9)]) (ow := false) rfl sc__law_are_words_right.nd (fi_range1 B.range (fx_var 5)) (blkOk_by (own := [("k", 9)]) (N := N__law_are_words_right) (sc := defScope s__law_are_words_right) (by decide +kernel)) (fun _ _ _ _ _ => fg_name (i := 9) sc__law_are_words_right.nd) (fun _ _ _ _ _ => fts_nil) (fun _ _ _ _ _ => fx_op (ow := false) op_addA snd_add (fx_ix (fx_var 4) (fx_op (ow := false) op_mulX snd_mulX fx_int (fx_var 9))) (fx_ix (fx_var 4) (fx_op (ow := false) op_addA snd_add (fx_op (ow := false) op_mulX snd_mulX fx_int (fx_var 9)) fx_int)))) fa_nil))) (fss_cons (fs_set (i := 8) sc__law_are_words_right.nd (fx_Ty (ow := false) call_tuple_of snd_toT B.tuple (fa_cons (fx_lc (own := [("k", 9)]) (ow := false) rfl sc__law_are_words_right.nd (fi_range1 B.range (fx_var 5)) (blkOk_by (own := [("k", 9)]) (N := N__law_are_words_right) (sc := defScope s__law_are_words_right) (by decide +kernel)) (fun _ _ _ _ _ => fg_name (i := 9) sc__law_are_words_right.nd) (fun _ _ _ _ _ => fts_nil) (fun _ _ _ _ _ => fx_op (ow := false) op_addA snd_add (fx_ix (fx_var 4) (fx_var 9)) (fx_ix (fx_var 4) (fx_op (ow := false) op_addA snd_add (fx_var 5) (fx_var 9))))) fa_nil))) (fss_one (fs_ret (fz := true) (fx_and (fx_cmp (op_eqA hr.units) snd_eqX (fx_var 6) (fx_var 7) (nomark _)) (fx_one (fx_cmp (op_eqA hr.units) snd_eqX (fx_var 6) (fx_var 8) (nomark _))))))))))))))))
theorem sc_law : FnScope ["script", "bag", "way", "many", "row", "ring", "short", "one"] ["script"] (defScope s_law) := ⟨rfl, rfl, rfl, by decide +kernel, rfl, by decide +kernel, by decide +kernel⟩
theorem ok_law (B : Bs mg) (D__law_own_bag : Def P w K mg base 1 "_law_own_bag" s__law_own_bag ["script"] F__law_own_bag) (D__law_draw : Def P w K mg base 1 "_law_draw" s__law_draw ["bag", "below"] F__law_draw) (D__law_pick : Def P w K mg base 2 "_law_pick" s__law_pick ["bag", "some"] F__law_pick) (D__law_own_row : Def P w K mg base 2 "_law_own_row" s__law_own_row ["bag", "many"] F__law_own_row) (D__law_are_errors_right : Def P w K mg base 10 "_law_are_errors_right" s__law_are_errors_right ["bag", "row"] F__law_are_errors_right) (D__law_are_leans_right : Def P w K mg base 10 "_law_are_leans_right" s__law_are_leans_right ["bag", "row"] F__law_are_leans_right) (D__law_are_matches_right : Def P w K mg base 10 "_law_are_matches_right" s__law_are_matches_right ["bag", "row"] F__law_are_matches_right) (D__law_are_words_right : Def P w K mg base 10 "_law_are_words_right" s__law_are_words_right ["bag", "row"] F__law_are_words_right) (D__law_same : Def P w K mg base 9 "_law_same" s__law_same ["told", "due"] (F__law_same 8)) (D__law_stretch : Def P w K mg base 1 "_law_stretch" s__law_stretch ["row"] F__law_stretch) (D_stretch_lean : Def P w K mg base 1 "stretch_lean" s_stretch_lean ["row"] F_stretch_lean) (D_rows_error : Def P w K mg base 1 "rows_error" s_rows_error ["value"] F_rows_error) (E : At K mg "law" s_law) : Def P w K mg base 11 "law" s_law ["script"] F_law :=
  def_ok 10 E sc_law (fun _ _ _ _ _ _ us hl => match us, hl with | [_], _ => rfl) (fun f cdv A outer s H E hr =>
    fss_cons (fs_set (i := 1) sc_law.nd (fx_callD D__law_own_bag (hr.mono (by first | decide | omega)) (fa_cons (fx_var 0) fa_nil))) (fss_cons (fs_set (i := 2) sc_law.nd (fx_callD D__law_draw (hr.mono (by first | decide | omega)) (fa_cons (fx_var 1) (fa_cons fx_int fa_nil)))) (fss_cons (fs_set (i := 3) sc_law.nd (fx_callD D__law_draw (hr.mono (by first | decide | omega)) (fa_cons (fx_var 1) (fa_cons fx_int fa_nil)))) (fss_cons (fs_if (ft_cmp (op_eqA hr.units) snd_eqX (fx_var 2) fx_int (nomark _)) (fss_one (fs_set (i := 3) sc_law.nd (fx_callD D__law_pick (hr.mono (by first | decide | omega)) (fa_cons (fx_var 1) (fa_cons (fx_lst (ow := false) (fa_cons fx_int (fa_cons fx_int (fa_cons fx_int (fa_cons (fx_op (ow := false) op_addA snd_add fx_int (fx_callD D__law_draw (hr.mono (by first | decide | omega)) (fa_cons (fx_var 1) (fa_cons fx_int fa_nil)))) fa_nil))))) fa_nil))))) (fss_one (fs_if (ft_cmp (op_eqA hr.units) snd_eqX (fx_var 2) fx_int (nomark _)) (fss_one (fs_set (i := 3) sc_law.nd (fx_callD D__law_draw (hr.mono (by first | decide | omega)) (fa_cons (fx_var 1) (fa_cons fx_int fa_nil))))) fss_nil))) (fss_cons (fs_set (i := 4) sc_law.nd (fx_callD D__law_own_row (hr.mono (by first | decide | omega)) (fa_cons (fx_var 1) (fa_cons (fx_var 3) fa_nil)))) (fss_cons (fs_if ((fw_or (ft_not (ft_truth (fx_callD D__law_are_errors_right (hr.mono (by first | decide | omega)) (fa_cons (fx_var 1) (fa_cons (fx_var 4) fa_nil))))) (fw_or1 (ft_not (ft_truth (fx_callD D__law_are_leans_right (hr.mono (by first | decide | omega)) (fa_cons (fx_var 1) (fa_cons (fx_var 4) fa_nil))))))).ft) (fss_one (fs_ret (fz := true) fx_bl)) fss_nil) (fss_cons (fs_set (i := 5) sc_law.nd (fx_ifE (ft_cmp (op_neA hr.units) snd_neX (fx_var 4) (fx_tup fa_nil) (nomark _)) (fx_var 4) (fx_tup (fa_cons (fx_callD D__law_draw (hr.mono (by first | decide | omega)) (fa_cons (fx_var 1) (fa_cons fx_int fa_nil))) fa_nil)))) (fss_cons (fs_set (i := 6) sc_law.nd (fx_callD D__law_own_row (hr.mono (by first | decide | omega)) (fa_cons (fx_var 1) (fa_cons (fx_op (ow := false) op_addA snd_add fx_int (fx_callD D__law_draw (hr.mono (by first | decide | omega)) (fa_cons (fx_var 1) (fa_cons fx_int fa_nil)))) fa_nil)))) (fss_cons (fs_for PassesOwn.never rfl (fi_seq (fx_lst (ow := false) (fa_cons (fx_var 5) (fa_cons (fx_var 6) fa_nil)))) (fg_name (i := 7) sc_law.nd) (fss_fgt [7] (fss_one (fs_if ((fw_or (ft_not (ft_truth (fx_callD D__law_are_matches_right (hr.mono (by first | decide | omega)) (fa_cons (fx_var 1) (fa_cons (fx_var 7) fa_nil))))) (fw_or1 (ft_not (ft_truth (fx_callD D__law_are_words_right (hr.mono (by first | decide | omega)) (fa_cons (fx_var 1) (fa_cons (fx_var 7) fa_nil))))))).ft) (fss_one (fs_ret (fz := true) fx_bl)) fss_nil)))) (fss_one (fs_ret (fz := true) (fx_and (fx_callD D__law_same (hr.mono (by first | decide | omega)) (fa_cons (fx_callD D_stretch_lean (hr.mono (by first | decide | omega)) (fa_cons (fx_var 6) fa_nil)) (fa_cons (fx_callD D__law_stretch (hr.mono (by first | decide | omega)) (fa_cons (fx_var 6) fa_nil)) fa_nil))) (fx_one (fx_callD D__law_same (hr.mono (by first | decide | omega)) (fa_cons (fx_callD D_rows_error (hr.mono (by first | decide | omega)) (fa_cons (fx_var 6) fa_nil)) (fa_cons fx_non fa_nil))))))))))))))))
end
section
variable {P : Program} {w : World} {K : PySem.W.Frag} {mg : Str → Option Value} {base : Heap}
theorem defs_all (B : Bs mg) (E_rows_error : At K mg "rows_error" s_rows_error) (E_stretch_lean : At K mg "stretch_lean" s_stretch_lean) (E_lean_at : At K mg "lean_at" s_lean_at) (E_ring_match : At K mg "ring_match" s_ring_match) (E_word_counts : At K mg "word_counts" s_word_counts) (E__law_own_bag : At K mg "_law_own_bag" s__law_own_bag) (E__law_draw : At K mg "_law_draw" s__law_draw) (E__law_pick : At K mg "_law_pick" s__law_pick) (E__law_same : At K mg "_law_same" s__law_same) (E__law_own_row : At K mg "_law_own_row" s__law_own_row) (E__law_lean : At K mg "_law_lean" s__law_lean) (E__law_stretch : At K mg "_law_stretch" s__law_stretch) (E__law_match : At K mg "_law_match" s__law_match) (E__law_words : At K mg "_law_words" s__law_words) (E__law_shift : At K mg "_law_shift" s__law_shift) (E__law_put : At K mg "_law_put" s__law_put) (E__law_are_errors_right : At K mg "_law_are_errors_right" s__law_are_errors_right) (E__law_are_leans_right : At K mg "_law_are_leans_right" s__law_are_leans_right) (E__law_are_matches_right : At K mg "_law_are_matches_right" s__law_are_matches_right) (E__law_are_words_right : At K mg "_law_are_words_right" s__law_are_words_right) (E_law : At K mg "law" s_law) : Def P w K mg base 11 "law" s_law ["script"] F_law := by
  have D_rows_error := ok_rows_error (P := P) (w := w) (base := base) B E_rows_error
  have D_stretch_lean := ok_stretch_lean (P := P) (w := w) (base := base) B E_stretch_lean
  have D_lean_at := ok_lean_at (P := P) (w := w) (base := base) B E_lean_at
  have D_ring_match := ok_ring_match (P := P) (w := w) (base := base) B E_ring_match
  have D_word_counts := ok_word_counts (P := P) (w := w) (base := base) B E_word_counts
  have D__law_own_bag := ok__law_own_bag (P := P) (w := w) (base := base) B E__law_own_bag
  have D__law_draw := ok__law_draw (P := P) (w := w) (base := base) B E__law_draw
  have D__law_pick := ok__law_pick (P := P) (w := w) (base := base) B D__law_draw E__law_pick
  have D__law_same := ok__law_same (P := P) (w := w) (base := base) B E__law_same 8
  have D__law_own_row := ok__law_own_row (P := P) (w := w) (base := base) B D__law_draw E__law_own_row
  have D__law_lean := ok__law_lean (P := P) (w := w) (base := base) B E__law_lean
  have D__law_stretch := ok__law_stretch (P := P) (w := w) (base := base) B E__law_stretch
  have D__law_match := ok__law_match (P := P) (w := w) (base := base) B E__law_match
  have D__law_words := ok__law_words (P := P) (w := w) (base := base) B E__law_words
  have D__law_shift := ok__law_shift (P := P) (w := w) (base := base) B D__law_draw D__law_pick E__law_shift
  have D__law_put := ok__law_put (P := P) (w := w) (base := base) B E__law_put
  have D__law_are_errors_right := ok__law_are_errors_right (P := P) (w := w) (base := base) B D__law_draw D__law_put D_rows_error D__law_same E__law_are_errors_right
  have D__law_are_leans_right := ok__law_are_leans_right (P := P) (w := w) (base := base) B D__law_draw D__law_stretch D__law_same D_stretch_lean D__law_lean D_lean_at E__law_are_leans_right
  have D__law_are_matches_right := ok__law_are_matches_right (P := P) (w := w) (base := base) B D__law_shift D__law_match D_ring_match D__law_same E__law_are_matches_right
  have D__law_are_words_right := ok__law_are_words_right (P := P) (w := w) (base := base) B D__law_pick D__law_words D_word_counts D__law_same E__law_are_words_right
  have D_law := ok_law (P := P) (w := w) (base := base) B D__law_own_bag D__law_draw D__law_pick D__law_own_row D__law_are_errors_right D__law_are_leans_right D__law_are_matches_right D__law_are_words_right D__law_same D__law_stretch D_stretch_lean D_rows_error E_law
  exact D_law
theorem all_mk {h : Heap} {fa : Addr} (X : K.In h) (G : h.Ns mainGlobals mg) (hfa : mg "law" = some (.ref fa)) (B : Bs mg) (E_rows_error : At K mg "rows_error" s_rows_error) (E_stretch_lean : At K mg "stretch_lean" s_stretch_lean) (E_lean_at : At K mg "lean_at" s_lean_at) (E_ring_match : At K mg "ring_match" s_ring_match) (E_word_counts : At K mg "word_counts" s_word_counts) (E__law_own_bag : At K mg "_law_own_bag" s__law_own_bag) (E__law_draw : At K mg "_law_draw" s__law_draw) (E__law_pick : At K mg "_law_pick" s__law_pick) (E__law_same : At K mg "_law_same" s__law_same) (E__law_own_row : At K mg "_law_own_row" s__law_own_row) (E__law_lean : At K mg "_law_lean" s__law_lean) (E__law_stretch : At K mg "_law_stretch" s__law_stretch) (E__law_match : At K mg "_law_match" s__law_match) (E__law_words : At K mg "_law_words" s__law_words) (E__law_shift : At K mg "_law_shift" s__law_shift) (E__law_put : At K mg "_law_put" s__law_put) (E__law_are_errors_right : At K mg "_law_are_errors_right" s__law_are_errors_right) (E__law_are_leans_right : At K mg "_law_are_leans_right" s__law_are_leans_right) (E__law_are_matches_right : At K mg "_law_are_matches_right" s__law_are_matches_right) (E__law_are_words_right : At K mg "_law_are_words_right" s__law_are_words_right) (E_law : At K mg "law" s_law) :
    ∃ fd : FuncData, (∀ (s : Shared) (v : Value), BindsTo s fd ⟨[v], []⟩ [("script", v)]) ∧ ∀ base : Heap, K.In base → base.Ns mainGlobals mg → FnG P w K mg base 11 fa fd ["script"] (spF K F_law) :=
  end_mk X G hfa fun base _ _ => defs_all B E_rows_error E_stretch_lean E_lean_at E_ring_match E_word_counts E__law_own_bag E__law_draw E__law_pick E__law_same E__law_own_row E__law_lean E__law_stretch E__law_match E__law_words E__law_shift E__law_put E__law_are_errors_right E__law_are_leans_right E__law_are_matches_right E__law_are_words_right E_law
end
end Lw

end

/-! M43: turned rows, words of rings: counting -/
namespace Lw
def rot {α : Type} (l : List α) (m : Nat) : List α := l.drop m ++ l.take m
theorem rot_len {α : Type} (l : List α) (m : Nat) : (rot l m).length = l.length := by
  unfold rot
  rw [List.length_append, List.length_drop, List.length_take]
  omega
theorem rot_perm {α : Type} (l : List α) (m : Nat) : (rot l m).Perm l := by
  unfold rot
  have := List.perm_append_comm (l₁ := l.drop m) (l₂ := l.take m)
  rwa [List.take_append_drop] at this
theorem rot_zip {α β : Type} {a : List α} {b : List β} (h : a.length = b.length) (m : Nat) : (rot a m).zip (rot b m) = rot (a.zip b) m := by
  unfold rot
  rw [List.zip_append (by simp [h])]
  simp only [List.zip_eq_zipWith, List.drop_zipWith, List.take_zipWith]
theorem rot_back {α : Type} (l : List α) {m : Nat} (h : m ≤ l.length) : rot (rot l (l.length - m)) m = l := by
  unfold rot
  have e : (l.drop (l.length - m)).length = m := by rw [List.length_drop]; omega
  rw [List.drop_left' e, List.take_left' e, List.take_append_drop]
def eqI (p : Int × Int) : Int := if p.1 = p.2 then 1 else 0
theorem perm_sum {l m : List Int} (h : l.Perm m) : l.sum = m.sum := by
  induction h with
  | nil => rfl
  | cons x _ ih => simp [ih]
  | swap x y l => simp; omega
  | trans _ _ h1 h2 => exact h1.trans h2
def agreed (l : List Int) (m : Nat) : Int := ((l.zip (rot l m)).map eqI).sum
theorem agreed_back (l : List Int) {m : Nat} (h : m ≤ l.length) : agreed l (l.length - m) = agreed l m := by
  have h1 : (rot l m).zip l = rot (l.zip (rot l (l.length - m))) m := by
    rw [← rot_zip (by rw [rot_len]), rot_back l h]
  have h2 : (((rot l m).zip l).map eqI).sum = agreed l (l.length - m) := by
    rw [h1]
    exact perm_sum ((rot_perm _ m).map eqI)
  rw [← h2]
  unfold agreed
  have h3 : ∀ a b : List Int, (a.zip b).map eqI = (b.zip a).map eqI := by
    intro a
    induction a with
    | nil => intro b; simp
    | cons x a ih =>
      intro b
      cases b with
      | nil => rfl
      | cons y b =>
        rw [List.zip_cons_cons, List.zip_cons_cons, List.map_cons, List.map_cons, ih b]
        congr 1
        unfold eqI
        by_cases e : x = y
        · subst e; simp
        · simp [e, Ne.symm e]
  rw [h3]
theorem agreed_mod (l : List Int) : agreed l 0 = agreed l l.length := by
  unfold agreed rot
  simp
/-- each that agrees counts 1, each other -1 -/
theorem signs_sum (z : List (Int × Int)) : (z.map fun p => if p.1 = p.2 then (1 : Int) else -1).sum = 2 * (z.map eqI).sum - z.length := by
  induction z with
  | nil => rfl
  | cons p z ih =>
    rw [List.map_cons, List.map_cons, List.sum_cons, List.sum_cons, ih, List.length_cons]
    unfold eqI
    by_cases e : p.1 = p.2
    · simp [e]; omega
    · simp [e]; omega
theorem leans_sum (l : List Int) : (l.map fun b => 2 * b - 1).sum = 2 * l.sum - l.length := by
  induction l with
  | nil => rfl
  | cons b l ih =>
    rw [List.map_cons, List.sum_cons, ih, List.sum_cons, List.length_cons]
    omega

/-! ### words of a ring -/
section
variable (f : Nat → Int)
/-- the word of m bits from b on -/
def num : Nat → Nat → Int
  | 0, _ => 0
  | m + 1, b => 2 * num m b + f (b + m)
variable (hf : ∀ i, f i = 0 ∨ f i = 1)
include hf
theorem num_bd (m b : Nat) : 0 ≤ num f m b ∧ num f m b < 2 ^ m := by
  induction m with
  | zero => exact ⟨Int.le_refl _, by show (0 : Int) < 2 ^ 0; decide⟩
  | succ m ih =>
    show 0 ≤ 2 * num f m b + f (b + m) ∧ 2 * num f m b + f (b + m) < 2 ^ (m + 1)
    have := hf (b + m)
    rw [Int.pow_succ]
    omega
omit hf in
theorem num_front (m b : Nat) : num f (m + 1) b = f b * 2 ^ m + num f m (b + 1) := by
  induction m with
  | zero => show 2 * 0 + f (b + 0) = f b * 1 + 0; simp
  | succ m ih =>
    show 2 * num f (m + 1) b + f (b + (m + 1)) = f b * 2 ^ (m + 1) + (2 * num f m (b + 1) + f (b + 1 + m))
    rw [ih, show b + 1 + m = b + (m + 1) by omega, Int.pow_succ]
    grind
theorem num_next (m b : Nat) : (2 * num f m b + f (b + m)) % 2 ^ m = num f m (b + 1) := by
  have h1 : 2 * num f m b + f (b + m) = f b * 2 ^ m + num f m (b + 1) := num_front f m b
  obtain ⟨h2, h3⟩ := num_bd f hf m (b + 1)
  rw [h1, Int.add_comm, Int.add_mul_emod_self_right, Int.emod_eq_of_lt h2 h3]
theorem num_next2 (m b : Nat) (hm : 0 < m) : (2 * num f m b) % 2 ^ m + f (b + m) = num f m (b + 1) := by
  obtain ⟨k, rfl⟩ : ∃ k, m = k + 1 := ⟨m - 1, by omega⟩
  rw [← num_next f hf (k + 1) b]
  have hb := hf (b + (k + 1))
  generalize f (b + (k + 1)) = c at hb
  generalize num f (k + 1) b = n
  have hp : (0 : Int) < 2 ^ k := Int.pow_pos (by decide)
  rw [Int.pow_succ, Int.mul_comm (2 ^ k) 2, Int.mul_emod_mul_of_pos _ _ (by decide : (0 : Int) < 2)]
  have h1 : 0 ≤ n % 2 ^ k := Int.emod_nonneg _ (by omega)
  have h2 : n % 2 ^ k < 2 ^ k := Int.emod_lt_of_pos _ hp
  have h3 : 2 * n + c = (2 * (n % 2 ^ k) + c) + (n / 2 ^ k) * (2 * 2 ^ k) := by
    have := Int.mul_ediv_add_emod n (2 ^ k)
    grind
  generalize n % 2 ^ k = r at h1 h2 h3
  rw [h3, Int.add_mul_emod_self_right, Int.emod_eq_of_lt (by omega) (by omega)]
omit hf in
theorem num_period {n : Nat} (hp : ∀ i, f (i + n) = f i) (m b : Nat) : num f m (b + n) = num f m b := by
  induction m with
  | zero => rfl
  | succ m ih =>
    show 2 * num f m (b + n) + f (b + n + m) = 2 * num f m b + f (b + m)
    rw [ih, show b + n + m = b + m + n by omega, hp]
/-- the words in their order -/
def nums (f : Nat → Int) (m n : Nat) : List Int := (List.range n).map (num f m)
omit hf in
theorem nums_len (m n : Nat) : (nums f m n).length = n := by simp [nums]
theorem by_last (m n : Nat) (k : Int) : (nums f (m + 1) n).count (2 * k) + (nums f (m + 1) n).count (2 * k + 1) = (nums f m n).count k := by
  unfold nums
  induction List.range n with
  | nil => rfl
  | cons b l ih =>
    simp only [List.map_cons, List.count_cons]
    have e : num f (m + 1) b = 2 * num f m b + f (b + m) := rfl
    have := hf (b + m)
    rw [e]
    generalize f (b + m) = c at this
    generalize num f m b = x
    by_cases h1 : x = k
    · subst h1
      rcases this with rfl | rfl
      · have a1 : ¬ 2 * x + 0 = 2 * x + 1 := by omega
        simp [a1]
        have a2 : ¬ 2 * x = 2 * x + 1 := by omega
        simp [a2]
        omega
      · have a1 : ¬ 2 * x + 1 = 2 * x := by omega
        simp [a1]; omega
    · have a1 : ¬ 2 * x + c = 2 * k := by omega
      have a2 : ¬ 2 * x + c = 2 * k + 1 := by omega
      simp [h1, a1, a2]
      omega
omit hf in
theorem count_shift (g : Nat → Int) (n : Nat) (h : g n = g 0) (k : Int) : ((List.range n).map fun b => g (b + 1)).count k = ((List.range n).map g).count k := by
  have h1 : (List.range (n + 1)).map g = g 0 :: (List.range n).map fun b => g (b + 1) := by
    rw [List.range_succ_eq_map, List.map_cons, List.map_map]
    rfl
  have h2 : (List.range (n + 1)).map g = (List.range n).map g ++ [g 0] := by
    rw [List.range_succ, List.map_append, ← h]
    rfl
  have h3 := congrArg (List.count k) (h1.symm.trans h2)
  rw [List.count_cons, List.count_append, List.count_cons, List.count_nil] at h3
  omega
theorem by_first (m n : Nat) (hp : ∀ i, f (i + n) = f i) (k : Int) (hk : 0 ≤ k) (hk2 : k < 2 ^ m) : (nums f (m + 1) n).count k + (nums f (m + 1) n).count (2 ^ m + k) = (nums f m n).count k := by
  rw [show (nums f m n).count k = ((List.range n).map fun b => num f m (b + 1)).count k from (count_shift (num f m) n (by have := num_period f hp m 0; rwa [Nat.zero_add] at this) k).symm]
  unfold nums
  induction List.range n with
  | nil => rfl
  | cons b l ih =>
    simp only [List.map_cons, List.count_cons]
    have e := num_front f m b
    obtain ⟨h2, h3⟩ := num_bd f hf m (b + 1)
    have := hf b
    rw [e]
    generalize f b = c at this
    generalize num f m (b + 1) = x at h2 h3
    by_cases h1 : x = k
    · subst h1
      have hp : (0 : Int) < 2 ^ m := Int.pow_pos (by decide)
      rcases this with rfl | rfl
      · have a1 : ¬ x = 2 ^ m + x := by omega
        simp [a1]; omega
      · have a1 : ¬ 2 ^ m + x = x := by omega
        simp [a1]; omega
    · have a1 : ¬ c * 2 ^ m + x = k := by
        rcases this with rfl | rfl <;> omega
      have a2 : ¬ c * 2 ^ m + x = 2 ^ m + k := by
        rcases this with rfl | rfl <;> omega
      simp [h1, a1, a2]
      omega
end
end Lw

/-! K43: the bag, what is alike, stretches, leans -/
noncomputable section
namespace Lw
open PySem PySem.Spec PyProof.Rows L2 Fx

theorem draw {B : MD} (hB : BagOk B) {n : Int} (h1 : 0 < n) (h2 : n < 2 ^ 64) : ∃ v B', F__law_draw [B, .dat (.int n)] = some (.dat (.int v), [some B', none]) ∧ BagOk B' ∧ 0 ≤ v ∧ v < n := draw2F_ok hB h1 h2
theorem pick {B : MD} (hB : BagOk B) {ds : List PyData} (h0 : ds ≠ []) (hl : ds.length < 100) : ∃ d B', F__law_pick [B, .dat (.list ds)] = some (.dat d, [some B', none]) ∧ BagOk B' ∧ d ∈ ds :=
  pickF_ok (D := draw2F) (fun B n h h1 h2 => draw2F_ok h h1 h2) hB h0 (by omega)
theorem own_bag_ok (ns : List Int) (hl : ns.length ≤ 63) : ∃ B, F__law_own_bag [.scr ns] = some (B, [none]) ∧ BagOk B := by
  have e1 : loopL (gN 3) tYesF e1__law_own_bag [3] (ns.map .int) [] [some (.scr ns), none, none, none] = some ([] ++ ns.map (fun i => .int (if i < 0 then -i else i)), [some (.scr ns), none, none, none]) :=
    loopL_map (by simp [sizeLine_eq]; omega) fun x _ => by simp [fnOf, fSeq, fNil, fSet, fRet, fDrop, fIf, fFgt, fgtO, fgt, fFor, fIfE, fT, fTru, truD, fAnd, fOr, fNot, fAndV, fOrV, fNotV, fOp2, fVar, fC, fB, fACons, fANil, fTup, fLst, fNeg, gRel, gInt2, gInt2C, gAdd, gMulX_int, gIx, gLen, gAbs, gInt, gEq, gIs, gIsNot, dv_dat, dv_lst, dv_al, dvs, own_dat, own_lst, own_bag, own_dcK, own_scr, flat_dat, flat_lst, Res.fin, frzs_nil, frzs_cons, frz_dat, intT_int, outs, als, argsOf, putArgs, fCall, eqv_int, shp_int, shp_none, shp_bool, noOwn, ownAt, sizeLine_eq, fIter, itemsOf, fRange1, fRange2, eqX_int, eqX_str, fEnumA, fFrz, fNever, permOk, perm, fCallK, fCallP, gMax2, gMin2, gMax3, gMin3, fPar2, fMulti, putM, fAsgG, fLc, lcStep, lsStep, tYesF, gN, gT, gsCons, gsNil, e1__law_own_bag]
  obtain ⟨cs, ecs⟩ : ∃ cs : List Int, ns.map (fun i => PyData.int (if i < 0 then -i else i)) = cs.map .int := ⟨ns.map fun i => if i < 0 then -i else i, by simp⟩
  have lcs : cs.length ≤ 63 := by
    have := congrArg List.length ecs
    simp at this
    omega
  rw [ecs] at e1
  have h7 : ∀ i : Int, divOk i 2147483629 = true := fun i => divOk_of (by decide) (Nat.lt_of_lt_of_le (by decide) big64)
  obtain ⟨e2, m0, m1⟩ := loopS_foldI (tg := gN 3) (b := b2__law_own_bag) (g := PyData.int) (st := fun m : Int => [some (.scr ns), some (.dat (.list (cs.map .int))), some (.dat (.int m)), none])
    (f := fun m x => (m * 48271 + x % 2147483629 + 7) % 2147483647) (fun m => 0 ≤ m ∧ m < 2147483647) cs (1357 + cs.length) ⟨by omega, by omega⟩ fun x _ m hm => by
      have h8 : mulOk m 48271 = true := mulOk_of (Nat.lt_of_lt_of_le (by omega) big64) (Nat.lt_of_lt_of_le (by decide) big64)
      exact ⟨by simp [fnOf, fSeq, fNil, fSet, fRet, fDrop, fIf, fFgt, fgtO, fgt, fFor, fIfE, fT, fTru, truD, fAnd, fOr, fNot, fAndV, fOrV, fNotV, fOp2, fVar, fC, fB, fACons, fANil, fTup, fLst, fNeg, gRel, gInt2, gInt2C, gAdd, gMulX_int, gIx, gLen, gAbs, gInt, gEq, gIs, gIsNot, dv_dat, dv_lst, dv_al, dvs, own_dat, own_lst, own_bag, own_dcK, own_scr, flat_dat, flat_lst, Res.fin, frzs_nil, frzs_cons, frz_dat, intT_int, outs, als, argsOf, putArgs, fCall, eqv_int, shp_int, shp_none, shp_bool, noOwn, ownAt, sizeLine_eq, fIter, itemsOf, fRange1, fRange2, eqX_int, eqX_str, fEnumA, fFrz, fNever, permOk, perm, fCallK, fCallP, gMax2, gMin2, gMax3, gMin3, fPar2, fMulti, putM, fAsgG, fLc, lcStep, lsStep, tYesF, gN, gT, gsCons, gsNil, b2__law_own_bag, h8], Int.emod_nonneg _ (by omega), Int.emod_lt_of_pos _ (by omega)⟩
  refine ⟨.bag cs.reverse 0 _, ?_, _, _, _, rfl, by simpa using lcs, m0, m1⟩
  have e3 : intsOf (cs.map PyData.int).reverse = some cs.reverse := by rw [← List.map_reverse]; exact intsOf_map _
  simp only [List.nil_append] at e1
  simp [fnOf, fSeq, fNil, fSet, fRet, fDrop, fIf, fFgt, fgtO, fgt, fFor, fIfE, fT, fTru, truD, fAnd, fOr, fNot, fAndV, fOrV, fNotV, fOp2, fVar, fC, fB, fACons, fANil, fTup, fLst, fNeg, gRel, gInt2, gInt2C, gAdd, gMulX_int, gIx, gLen, gAbs, gInt, gEq, gIs, gIsNot, dv_dat, dv_lst, dv_al, dvs, own_dat, own_lst, own_bag, own_dcK, own_scr, flat_dat, flat_lst, Res.fin, frzs_nil, frzs_cons, frz_dat, intT_int, outs, als, argsOf, putArgs, fCall, eqv_int, shp_int, shp_none, shp_bool, noOwn, ownAt, sizeLine_eq, fIter, itemsOf, fRange1, fRange2, eqX_int, eqX_str, fEnumA, fFrz, fNever, permOk, perm, fCallK, fCallP, gMax2, gMin2, gMax3, gMin3, fPar2, fMulti, putM, fAsgG, fLc, F__law_own_bag, fSlice, fONo, fOSo, dvS, gSl, cut63, hl, e1, e2, fMkBag, fListRev, gToL, e3]
theorem kit9 : kitB "NoneType" "bool" = some false := by decide
theorem kit10 : kitB "str" "bool" = some false := by decide
theorem kit11 : kitB "tuple" "bool" = some false := by decide
theorem kit12 : kitB "tuple" "int" = some false := by decide
theorem kit13 : kitB "tuple" "str" = some false := by decide
theorem kit14 : kitB "str" "int" = some false := by decide
theorem kit15 : kitB "NoneType" "int" = some false := by decide
theorem kit16 : kitB "bool" "int" = some true := by decide
theorem kit17 : kitB "bool" "bool" = some true := by decide
theorem kit18 : kitB "list" "int" = some false := by decide
theorem kit19 : kitB "list" "tuple" = some false := by decide
theorem kit20 : kitB "dict" "tuple" = some false := by decide
theorem same_ok : ∀ (n : Nat) (d : PyData), Plain n d → F__law_same n [.dat d, .dat d] = some (.dat (.bool true), [none, none])
  | 0, _, h => by cases h
  | n + 1, _, h => by
    cases h with
    | int _ i => simp [fnOf, fSeq, fNil, fSet, fRet, fDrop, fIf, fFgt, fgtO, fgt, fFor, fIfE, fT, fTru, truD, fAnd, fOr, fNot, fAndV, fOrV, fNotV, fOp2, fVar, fC, fB, fACons, fANil, fTup, fLst, fNeg, gRel, gInt2, gInt2C, gAdd, gMulX_int, gIx, gLen, gAbs, gInt, gEq, gIs, gIsNot, dv_dat, dv_lst, dv_al, dvs, own_dat, own_lst, own_bag, own_dcK, own_scr, flat_dat, flat_lst, Res.fin, frzs_nil, frzs_cons, frz_dat, intT_int, outs, als, argsOf, putArgs, fCall, eqv_int, shp_int, shp_none, shp_bool, noOwn, ownAt, sizeLine_eq, fIter, itemsOf, fRange1, fRange2, eqX_int, eqX_str, fEnumA, fFrz, fNever, permOk, perm, fCallK, fCallP, gMax2, gMin2, gMax3, gMin3, fPar2, fMulti, putM, fAsgG, fLc, F__law_same, fIsi, tyN, kit7, kit8, Fx.isNon]
    | str _ x h1 h2 h3 => simp [fnOf, fSeq, fNil, fSet, fRet, fDrop, fIf, fFgt, fgtO, fgt, fFor, fIfE, fT, fTru, truD, fAnd, fOr, fNot, fAndV, fOrV, fNotV, fOp2, fVar, fC, fB, fACons, fANil, fTup, fLst, fNeg, gRel, gInt2, gInt2C, gAdd, gMulX_int, gIx, gLen, gAbs, gInt, gEq, gIs, gIsNot, dv_dat, dv_lst, dv_al, dvs, own_dat, own_lst, own_bag, own_dcK, own_scr, flat_dat, flat_lst, Res.fin, frzs_nil, frzs_cons, frz_dat, intT_int, outs, als, argsOf, putArgs, fCall, eqv_int, shp_int, shp_none, shp_bool, noOwn, ownAt, sizeLine_eq, fIter, itemsOf, fRange1, fRange2, eqX_int, eqX_str, fEnumA, fFrz, fNever, permOk, perm, fCallK, fCallP, gMax2, gMin2, gMax3, gMin3, fPar2, fMulti, putM, fAsgG, fLc, F__law_same, fIsi, tyN, kit6, kit10, kit14, Fx.isNon]
    | non => simp [fnOf, fSeq, fNil, fSet, fRet, fDrop, fIf, fFgt, fgtO, fgt, fFor, fIfE, fT, fTru, truD, fAnd, fOr, fNot, fAndV, fOrV, fNotV, fOp2, fVar, fC, fB, fACons, fANil, fTup, fLst, fNeg, gRel, gInt2, gInt2C, gAdd, gMulX_int, gIx, gLen, gAbs, gInt, gEq, gIs, gIsNot, dv_dat, dv_lst, dv_al, dvs, own_dat, own_lst, own_bag, own_dcK, own_scr, flat_dat, flat_lst, Res.fin, frzs_nil, frzs_cons, frz_dat, intT_int, outs, als, argsOf, putArgs, fCall, eqv_int, shp_int, shp_none, shp_bool, noOwn, ownAt, sizeLine_eq, fIter, itemsOf, fRange1, fRange2, eqX_int, eqX_str, fEnumA, fFrz, fNever, permOk, perm, fCallK, fCallP, gMax2, gMin2, gMax3, gMin3, fPar2, fMulti, putM, fAsgG, fLc, F__law_same, Fx.isNon]
    | tup _ ds h1 h2 =>
      have e1 : loopL (gN 2) tYesF (e1__law_same (F__law_same n)) [2] ((List.range ds.length).map fun (x : Nat) => PyData.int x) [] [some (.dat (.tuple ds)), some (.dat (.tuple ds)), none] = some ([] ++ (List.range ds.length).map (fun _ => PyData.bool true), [some (.dat (.tuple ds)), some (.dat (.tuple ds)), none]) :=
        loopL_map (by simpa using h1) fun x hx => by
          have hx' : x < ds.length := by simpa using hx
          have ex : ds[x]? = some ds[x] := List.getElem?_eq_getElem hx'
          have := same_ok n ds[x] (h2 _ (List.getElem_mem hx'))
          simp [fnOf, fSeq, fNil, fSet, fRet, fDrop, fIf, fFgt, fgtO, fgt, fFor, fIfE, fT, fTru, truD, fAnd, fOr, fNot, fAndV, fOrV, fNotV, fOp2, fVar, fC, fB, fACons, fANil, fTup, fLst, fNeg, gRel, gInt2, gInt2C, gAdd, gMulX_int, gIx, gLen, gAbs, gInt, gEq, gIs, gIsNot, dv_dat, dv_lst, dv_al, dvs, own_dat, own_lst, own_bag, own_dcK, own_scr, flat_dat, flat_lst, Res.fin, frzs_nil, frzs_cons, frz_dat, intT_int, outs, als, argsOf, putArgs, fCall, eqv_int, shp_int, shp_none, shp_bool, noOwn, ownAt, sizeLine_eq, fIter, itemsOf, fRange1, fRange2, eqX_int, eqX_str, fEnumA, fFrz, fNever, permOk, perm, fCallK, fCallP, gMax2, gMin2, gMax3, gMin3, fPar2, fMulti, putM, fAsgG, fLc, lcStep, lsStep, tYesF, gN, gT, gsCons, gsNil, e1__law_same, this, atI_nat ex]
      rw [List.nil_append] at e1
      have e2 : gAll [.list ((List.range ds.length).map fun _ => PyData.bool true)] = some (.val (.bool true)) := by
        exact gAll_trueA _
      have r := rg1_nat (p := ds.length) (by rw [sizeLine_eq] at h1; omega)
      simp [fnOf, fSeq, fNil, fSet, fRet, fDrop, fIf, fFgt, fgtO, fgt, fFor, fIfE, fT, fTru, truD, fAnd, fOr, fNot, fAndV, fOrV, fNotV, fOp2, fVar, fC, fB, fACons, fANil, fTup, fLst, fNeg, gRel, gInt2, gInt2C, gAdd, gMulX_int, gIx, gLen, gAbs, gInt, gEq, gIs, gIsNot, dv_dat, dv_lst, dv_al, dvs, own_dat, own_lst, own_bag, own_dcK, own_scr, flat_dat, flat_lst, Res.fin, frzs_nil, frzs_cons, frz_dat, intT_int, outs, als, argsOf, putArgs, fCall, eqv_int, shp_int, shp_none, shp_bool, noOwn, ownAt, sizeLine_eq, fIter, itemsOf, fRange1, fRange2, eqX_int, eqX_str, fEnumA, fFrz, fNever, permOk, perm, fCallK, fCallP, gMax2, gMin2, gMax3, gMin3, fPar2, fMulti, putM, fAsgG, fLc, F__law_same, fIsi, tyN, kit1, kit11, kit12, kit13, Fx.isNon, r, e1, e2]
theorem plain_up {n m : Nat} (h : n ≤ m) : ∀ {d : PyData}, Plain n d → Plain m d := by
  induction n generalizing m with
  | zero => intro d h; cases h
  | succ n ih =>
    intro d hd
    obtain ⟨m, rfl⟩ : ∃ k, m = k + 1 := ⟨m - 1, by omega⟩
    cases hd with
    | int => exact .int _ _
    | str _ x h1 h2 h3 => exact .str _ _ h1 h2 h3
    | non => exact .non _
    | tup _ ds h1 h2 => exact .tup _ _ h1 fun d hd => ih (by omega) (h2 d hd)
theorem same8 {n : Nat} {d : PyData} (h : Plain n d) (hn : n ≤ 8) : F__law_same 8 [.dat d, .dat d] = some (.dat (.bool true), [none, none]) := same_ok 8 d (plain_up hn h)
theorem same_int (i : Int) : F__law_same 8 [.dat (.int i), .dat (.int i)] = some (.dat (.bool true), [none, none]) := same8 (.int 0 i) (by decide)
theorem ints_plain (l : List Int) (h : l.length ≤ sizeLine) : Plain 2 (.tuple (l.map .int)) := .tup _ _ (by simpa using h) fun d hd => by
  obtain ⟨i, _, rfl⟩ := List.mem_map.mp hd
  exact .int _ _

/-! ### rows of bits -/
abbrev rowD (l : List Int) : PyData := .tuple (l.map .int)
def Bits (l : List Int) : Prop := ∀ x ∈ l, x = 0 ∨ x = 1
def stepP (s : Int × Int × Int) (b : Int) : Int × Int × Int :=
  let st : Int := if b = 1 then 1 else -1
  let h := if 0 < s.2.1 + st then s.2.1 + st else 0
  let l := if s.2.2 + st < 0 then s.2.2 + st else 0
  (max (max s.1 h) (-l), h, l)
def stretchP (row : List Int) : Int := (row.foldl stepP (0, 0, 0)).1
theorem stretchP_ok (row : List Int) : F_stretch_lean [.dat (rowD row)] = some (.dat (.int (stretchP row)), [none]) := by
  have e1 := loopS_fold (tg := gN 4) (b := b1_stretch_lean) (g := PyData.int) (st := fun s : Int × Int × Int => [some (.dat (rowD row)), some (.dat (.int s.1)), some (.dat (.int s.2.1)), some (.dat (.int s.2.2)), none, none]) (f := stepP) row (0, 0, 0) fun x _ s => by
    by_cases hx : x = 1
    · simp [fnOf, fSeq, fNil, fSet, fRet, fDrop, fIf, fFgt, fgtO, fgt, fFor, fIfE, fT, fTru, truD, fAnd, fOr, fNot, fAndV, fOrV, fNotV, fOp2, fVar, fC, fB, fACons, fANil, fTup, fLst, fNeg, gRel, gInt2, gInt2C, gAdd, gMulX_int, gIx, gLen, gAbs, gInt, gEq, gIs, gIsNot, dv_dat, dv_lst, dv_al, dvs, own_dat, own_lst, own_bag, own_dcK, own_scr, flat_dat, flat_lst, Res.fin, frzs_nil, frzs_cons, frz_dat, intT_int, outs, als, argsOf, putArgs, fCall, eqv_int, shp_int, shp_none, shp_bool, noOwn, ownAt, sizeLine_eq, fIter, itemsOf, fRange1, fRange2, eqX_int, eqX_str, fEnumA, fFrz, fNever, permOk, perm, fCallK, fCallP, gMax2, gMin2, gMax3, gMin3, fPar2, fMulti, putM, fAsgG, fLc, lcStep, lsStep, tYesF, gN, gT, gsCons, gsNil, b1_stretch_lean, hx, stepP]
    · simp [fnOf, fSeq, fNil, fSet, fRet, fDrop, fIf, fFgt, fgtO, fgt, fFor, fIfE, fT, fTru, truD, fAnd, fOr, fNot, fAndV, fOrV, fNotV, fOp2, fVar, fC, fB, fACons, fANil, fTup, fLst, fNeg, gRel, gInt2, gInt2C, gAdd, gMulX_int, gIx, gLen, gAbs, gInt, gEq, gIs, gIsNot, dv_dat, dv_lst, dv_al, dvs, own_dat, own_lst, own_bag, own_dcK, own_scr, flat_dat, flat_lst, Res.fin, frzs_nil, frzs_cons, frz_dat, intT_int, outs, als, argsOf, putArgs, fCall, eqv_int, shp_int, shp_none, shp_bool, noOwn, ownAt, sizeLine_eq, fIter, itemsOf, fRange1, fRange2, eqX_int, eqX_str, fEnumA, fFrz, fNever, permOk, perm, fCallK, fCallP, gMax2, gMin2, gMax3, gMin3, fPar2, fMulti, putM, fAsgG, fLc, lcStep, lsStep, tYesF, gN, gT, gsCons, gsNil, b1_stretch_lean, hx, stepP]
  simp only at e1
  simp [fnOf, fSeq, fNil, fSet, fRet, fDrop, fIf, fFgt, fgtO, fgt, fFor, fIfE, fT, fTru, truD, fAnd, fOr, fNot, fAndV, fOrV, fNotV, fOp2, fVar, fC, fB, fACons, fANil, fTup, fLst, fNeg, gRel, gInt2, gInt2C, gAdd, gMulX_int, gIx, gLen, gAbs, gInt, gEq, gIs, gIsNot, dv_dat, dv_lst, dv_al, dvs, own_dat, own_lst, own_bag, own_dcK, own_scr, flat_dat, flat_lst, Res.fin, frzs_nil, frzs_cons, frz_dat, intT_int, outs, als, argsOf, putArgs, fCall, eqv_int, shp_int, shp_none, shp_bool, noOwn, ownAt, sizeLine_eq, fIter, itemsOf, fRange1, fRange2, eqX_int, eqX_str, fEnumA, fFrz, fNever, permOk, perm, fCallK, fCallP, gMax2, gMin2, gMax3, gMin3, fPar2, fMulti, putM, fAsgG, fLc, F_stretch_lean, e1, stretchP]
def stepL (s : Int × Int × Int) (b : Int) : Int × Int × Int := (s.1 + 2 * b - 1, maxL [s.2.1, s.1 + 2 * b - 1], minL [s.2.2, s.1 + 2 * b - 1])
def stretchL (row : List Int) : Int := (row.foldl stepL (0, 0, 0)).2.1 - (row.foldl stepL (0, 0, 0)).2.2
theorem mulBit {b : Int} (h : b = 0 ∨ b = 1) : mulOk 2 b = true := mulOk_of (Nat.lt_of_lt_of_le (by decide) big64) (Nat.lt_of_lt_of_le (by omega) big64)
theorem stretchL_ok {row : List Int} (hb : Bits row) : F__law_stretch [.dat (rowD row)] = some (.dat (.int (stretchL row)), [none]) := by
  have e1 := loopS_fold (tg := gN 4) (b := b1__law_stretch) (g := PyData.int) (st := fun s : Int × Int × Int => [some (.dat (rowD row)), some (.dat (.int s.1)), some (.dat (.int s.2.1)), some (.dat (.int s.2.2)), none]) (f := stepL) row (0, 0, 0) fun x hx s => by
    have hm := mulBit (hb x hx)
    simp [fnOf, fSeq, fNil, fSet, fRet, fDrop, fIf, fFgt, fgtO, fgt, fFor, fIfE, fT, fTru, truD, fAnd, fOr, fNot, fAndV, fOrV, fNotV, fOp2, fVar, fC, fB, fACons, fANil, fTup, fLst, fNeg, gRel, gInt2, gInt2C, gAdd, gMulX_int, gIx, gLen, gAbs, gInt, gEq, gIs, gIsNot, dv_dat, dv_lst, dv_al, dvs, own_dat, own_lst, own_bag, own_dcK, own_scr, flat_dat, flat_lst, Res.fin, frzs_nil, frzs_cons, frz_dat, intT_int, outs, als, argsOf, putArgs, fCall, eqv_int, shp_int, shp_none, shp_bool, noOwn, ownAt, sizeLine_eq, fIter, itemsOf, fRange1, fRange2, eqX_int, eqX_str, fEnumA, fFrz, fNever, permOk, perm, fCallK, fCallP, gMax2, gMin2, gMax3, gMin3, fPar2, fMulti, putM, fAsgG, fLc, lcStep, lsStep, tYesF, gN, gT, gsCons, gsNil, b1__law_stretch, hm, stepL, gMaxL, gMinL, intsOf]
  simp only at e1
  simp [fnOf, fSeq, fNil, fSet, fRet, fDrop, fIf, fFgt, fgtO, fgt, fFor, fIfE, fT, fTru, truD, fAnd, fOr, fNot, fAndV, fOrV, fNotV, fOp2, fVar, fC, fB, fACons, fANil, fTup, fLst, fNeg, gRel, gInt2, gInt2C, gAdd, gMulX_int, gIx, gLen, gAbs, gInt, gEq, gIs, gIsNot, dv_dat, dv_lst, dv_al, dvs, own_dat, own_lst, own_bag, own_dcK, own_scr, flat_dat, flat_lst, Res.fin, frzs_nil, frzs_cons, frz_dat, intT_int, outs, als, argsOf, putArgs, fCall, eqv_int, shp_int, shp_none, shp_bool, noOwn, ownAt, sizeLine_eq, fIter, itemsOf, fRange1, fRange2, eqX_int, eqX_str, fEnumA, fFrz, fNever, permOk, perm, fCallK, fCallP, gMax2, gMin2, gMax3, gMin3, fPar2, fMulti, putM, fAsgG, fLc, F__law_stretch, e1, stretchL]
theorem stretch_eq {row : List Int} (hb : Bits row) : stretchP row = stretchL row := by
  have go : ∀ (l : List Int) (s t : Int × Int × Int), Bits l → s.1 = t.2.1 - t.2.2 → s.2.1 = t.1 - t.2.2 → s.2.2 = t.1 - t.2.1 → t.2.2 ≤ t.1 → t.1 ≤ t.2.1 → (l.foldl stepP s).1 = (l.foldl stepL t).2.1 - (l.foldl stepL t).2.2 := by
    intro l
    induction l with
    | nil => intro s t _ h _ _ _ _; exact h
    | cons b l ih =>
      intro s t hb h1 h2 h3 h4 h5
      have hb1 := hb b List.mem_cons_self
      refine ih (stepP s b) (stepL t b) (fun x hx => hb x (List.mem_cons_of_mem _ hx)) ?_ ?_ ?_ ?_ ?_
      all_goals
        simp only [stepP, stepL, maxL, minL]
        rcases hb1 with rfl | rfl <;> simp <;> omega
  exact go row (0, 0, 0) (0, 0, 0) hb rfl rfl rfl (Int.le_refl _) (Int.le_refl _)
end Lw

end

/-! K43b: leans, matches, words -/
noncomputable section
namespace Lw
open PySem PySem.Spec PyProof.Rows L2 Fx

theorem bits_sum {l : List Int} (h : Bits l) : 0 ≤ l.sum ∧ l.sum ≤ l.length := by
  induction l with
  | nil => exact ⟨Int.le_refl _, Int.le_refl _⟩
  | cons b l ih =>
    obtain ⟨h1, h2⟩ := ih fun x hx => h x (List.mem_cons_of_mem _ hx)
    have := h b List.mem_cons_self
    rw [List.sum_cons, List.length_cons]
    omega
theorem Bits.sub {l m : List Int} (h : Bits l) (s : ∀ x ∈ m, x ∈ l) : Bits m := fun x hx => h x (s x hx)
def sl (l : List Int) (b e : Nat) : List Int := (l.drop b).take (e - b)
theorem sl_sub {l : List Int} {b e : Nat} : ∀ x ∈ sl l b e, x ∈ l := fun x hx => List.mem_of_mem_drop (List.mem_of_mem_take hx)
theorem sl_len {l : List Int} {b e : Nat} (h1 : b ≤ e) (h2 : e ≤ l.length) : (sl l b e).length = e - b := by
  unfold sl
  rw [List.length_take, List.length_drop]
  omega
theorem cut_sl {l : List Int} {b e : Nat} (h1 : b ≤ e) (h2 : e ≤ l.length) : cutL (l.map PyData.int) (some (b : Int)) (some (e : Int)) = (sl l b e).map .int := by
  rw [cut_mid _ _ _ h1 (by simpa using h2)]
  unfold sl
  rw [List.map_take, List.map_drop]
theorem mul2 {i : Int} (h1 : -100000 ≤ i) (h2 : i ≤ 100000) : mulOk 2 i = true := mulOk_of (Nat.lt_of_lt_of_le (by decide) big64) (Nat.lt_of_lt_of_le (by omega) big64)
def leanV (l : List Int) : Int := 2 * l.sum - l.length
theorem lean_at_ok {l : List Int} (hb : Bits l) {b e : Nat} (h1 : b ≤ e) (h2 : e ≤ l.length) (h3 : l.length ≤ 1000) : F_lean_at [.dat (rowD l), .dat (.int b), .dat (.int e)] = some (.dat (.int (leanV (sl l b e))), [none, none, none]) := by
  have c := cut_sl h1 h2
  have g := gSumA_tuple (sl l b e)
  obtain ⟨s1, s2⟩ := bits_sum (hb.sub (sl_sub (b := b) (e := e)))
  rw [sl_len h1 h2] at s2
  have m := mul2 (i := (sl l b e).sum) (by omega) (by omega)
  have hl : ((sl l b e).length : Int) = e - b := by rw [sl_len h1 h2]; omega
  simp [fnOf, fSeq, fNil, fSet, fRet, fDrop, fIf, fFgt, fgtO, fgt, fFor, fIfE, fT, fTru, truD, fAnd, fOr, fNot, fAndV, fOrV, fNotV, fOp2, fVar, fC, fB, fACons, fANil, fTup, fLst, fNeg, gRel, gInt2, gInt2C, gAdd, gMulX_int, gIx, gLen, gAbs, gInt, gEq, gIs, gIsNot, dv_dat, dv_lst, dv_al, dvs, own_dat, own_lst, own_bag, own_dcK, own_scr, flat_dat, flat_lst, Res.fin, frzs_nil, frzs_cons, frz_dat, intT_int, outs, als, argsOf, putArgs, fCall, eqv_int, shp_int, shp_none, shp_bool, noOwn, ownAt, sizeLine_eq, fIter, itemsOf, fRange1, fRange2, eqX_int, eqX_str, fEnumA, fFrz, fNever, permOk, perm, fCallK, fCallP, gMax2, gMin2, gMax3, gMin3, fPar2, fMulti, putM, fAsgG, fLc, F_lean_at, fSlice, fOSo, dvS, gSl, c, g, m, leanV, hl]
theorem law_lean_ok {l : List Int} (hb : Bits l) (h3 : l.length ≤ 1000) : F__law_lean [.dat (rowD l)] = some (.dat (.int (leanV l)), [none]) := by
  have e1 : loopL (gN 1) tYesF e1__law_lean [1] (l.map .int) [] [some (.dat (rowD l)), none] = some ([] ++ l.map (fun b => PyData.int (2 * b - 1)), [some (.dat (rowD l)), none]) :=
    loopL_map (by simp [sizeLine_eq]; omega) fun x hx => by
      have hm := mulBit (hb x hx)
      simp [fnOf, fSeq, fNil, fSet, fRet, fDrop, fIf, fFgt, fgtO, fgt, fFor, fIfE, fT, fTru, truD, fAnd, fOr, fNot, fAndV, fOrV, fNotV, fOp2, fVar, fC, fB, fACons, fANil, fTup, fLst, fNeg, gRel, gInt2, gInt2C, gAdd, gMulX_int, gIx, gLen, gAbs, gInt, gEq, gIs, gIsNot, dv_dat, dv_lst, dv_al, dvs, own_dat, own_lst, own_bag, own_dcK, own_scr, flat_dat, flat_lst, Res.fin, frzs_nil, frzs_cons, frz_dat, intT_int, outs, als, argsOf, putArgs, fCall, eqv_int, shp_int, shp_none, shp_bool, noOwn, ownAt, sizeLine_eq, fIter, itemsOf, fRange1, fRange2, eqX_int, eqX_str, fEnumA, fFrz, fNever, permOk, perm, fCallK, fCallP, gMax2, gMin2, gMax3, gMin3, fPar2, fMulti, putM, fAsgG, fLc, lcStep, lsStep, tYesF, gN, gT, gsCons, gsNil, e1__law_lean, hm]
  have g := gSumA_list (l.map fun b => 2 * b - 1)
  rw [List.map_map, leans_sum] at g
  have g' : gSumA [.list (l.map fun b => PyData.int (2 * b - 1))] = some (.val (.int (leanV l))) := g
  rw [List.nil_append] at e1
  simp [fnOf, fSeq, fNil, fSet, fRet, fDrop, fIf, fFgt, fgtO, fgt, fFor, fIfE, fT, fTru, truD, fAnd, fOr, fNot, fAndV, fOrV, fNotV, fOp2, fVar, fC, fB, fACons, fANil, fTup, fLst, fNeg, gRel, gInt2, gInt2C, gAdd, gMulX_int, gIx, gLen, gAbs, gInt, gEq, gIs, gIsNot, dv_dat, dv_lst, dv_al, dvs, own_dat, own_lst, own_bag, own_dcK, own_scr, flat_dat, flat_lst, Res.fin, frzs_nil, frzs_cons, frz_dat, intT_int, outs, als, argsOf, putArgs, fCall, eqv_int, shp_int, shp_none, shp_bool, noOwn, ownAt, sizeLine_eq, fIter, itemsOf, fRange1, fRange2, eqX_int, eqX_str, fEnumA, fFrz, fNever, permOk, perm, fCallK, fCallP, gMax2, gMin2, gMax3, gMin3, fPar2, fMulti, putM, fAsgG, fLc, F__law_lean, e1, g']
/-! ### matches -/
def matchV (l : List Int) (m : Nat) : Int := 2 * agreed l m - l.length
theorem cut_rot (l : List Int) {m : Nat} (h : m ≤ l.length) : cutL (l.map PyData.int) (some (m : Int)) none ++ cutL (l.map PyData.int) none (some (m : Int)) = (rot l m).map .int := by
  rw [cut_from _ _ (by simpa using h), cut_to _ _ (by simpa using h)]
  unfold rot
  rw [List.map_append, List.map_drop, List.map_take]
theorem agreed_bd (l : List Int) (m : Nat) : 0 ≤ agreed l m ∧ agreed l m ≤ l.length := by
  have go : ∀ z : List (Int × Int), 0 ≤ (z.map eqI).sum ∧ (z.map eqI).sum ≤ z.length := by
    intro z
    induction z with
    | nil => exact ⟨Int.le_refl _, Int.le_refl _⟩
    | cons p z ih =>
      rw [List.map_cons, List.sum_cons, List.length_cons]
      unfold eqI at ih ⊢
      split <;> omega
  have := go (l.zip (rot l m))
  rw [List.length_zip, rot_len, Nat.min_self] at this
  exact this
theorem shift_mod {l : List Int} (h0 : l ≠ []) (s : Int) : ∃ m : Nat, m < l.length ∧ s % (l.length : Int) = m := by
  have hp : 0 < l.length := List.length_pos_iff.mpr h0
  have h1 := Int.emod_nonneg s (show (l.length : Int) ≠ 0 by omega)
  have h2 := Int.emod_lt_of_pos s (show (0 : Int) < l.length by omega)
  exact ⟨(s % (l.length : Int)).toNat, by omega, by omega⟩
theorem ring_match_ok {l : List Int} (hz : l.length ≤ 1000) {s : Int} {m : Nat} (hm : m < l.length) (hs : s % (l.length : Int) = m) : F_ring_match [.dat (rowD l), .dat (.int s)] = some (.dat (.int (matchV l m)), [none, none]) := by
  have c := cut_rot l (Nat.le_of_lt hm)
  have cl : (cutL (l.map PyData.int) (some (m : Int)) none).length + (cutL (l.map PyData.int) none (some (m : Int))).length ≤ 16777216 := by
    rw [← List.length_append, c, List.length_map, rot_len]
    omega
  have hp : 0 < l.length := by omega
  have e1 : loopL (gT 2 (gsCons (gN 5) (gsCons (gN 6) gsNil))) tYesF e1_ring_match [5, 6] (zipD (l.map .int) ((rot l m).map .int)) [] [some (.dat (rowD l)), some (.dat (.int s)), some (.dat (.int l.length)), some (.dat (.int m)), none, none, none] =
      some ([] ++ (l.zip (rot l m)).map (fun p => PyData.int (eqI p)), [some (.dat (rowD l)), some (.dat (.int s)), some (.dat (.int l.length)), some (.dat (.int m)), none, none, none]) := by
    rw [zipD_map]
    exact loopL_map (by simp [sizeLine_eq]; omega) fun p hx => by
      by_cases h : p.1 = p.2
      · simp [fnOf, fSeq, fNil, fSet, fRet, fDrop, fIf, fFgt, fgtO, fgt, fFor, fIfE, fT, fTru, truD, fAnd, fOr, fNot, fAndV, fOrV, fNotV, fOp2, fVar, fC, fB, fACons, fANil, fTup, fLst, fNeg, gRel, gInt2, gInt2C, gAdd, gMulX_int, gIx, gLen, gAbs, gInt, gEq, gIs, gIsNot, dv_dat, dv_lst, dv_al, dvs, own_dat, own_lst, own_bag, own_dcK, own_scr, flat_dat, flat_lst, Res.fin, frzs_nil, frzs_cons, frz_dat, intT_int, outs, als, argsOf, putArgs, fCall, eqv_int, shp_int, shp_none, shp_bool, noOwn, ownAt, sizeLine_eq, fIter, itemsOf, fRange1, fRange2, eqX_int, eqX_str, fEnumA, fFrz, fNever, permOk, perm, fCallK, fCallP, gMax2, gMin2, gMax3, gMin3, fPar2, fMulti, putM, fAsgG, fLc, lcStep, lsStep, tYesF, gN, gT, gsCons, gsNil, e1_ring_match, eqX_int, eqI, h]
      · simp [fnOf, fSeq, fNil, fSet, fRet, fDrop, fIf, fFgt, fgtO, fgt, fFor, fIfE, fT, fTru, truD, fAnd, fOr, fNot, fAndV, fOrV, fNotV, fOp2, fVar, fC, fB, fACons, fANil, fTup, fLst, fNeg, gRel, gInt2, gInt2C, gAdd, gMulX_int, gIx, gLen, gAbs, gInt, gEq, gIs, gIsNot, dv_dat, dv_lst, dv_al, dvs, own_dat, own_lst, own_bag, own_dcK, own_scr, flat_dat, flat_lst, Res.fin, frzs_nil, frzs_cons, frz_dat, intT_int, outs, als, argsOf, putArgs, fCall, eqv_int, shp_int, shp_none, shp_bool, noOwn, ownAt, sizeLine_eq, fIter, itemsOf, fRange1, fRange2, eqX_int, eqX_str, fEnumA, fFrz, fNever, permOk, perm, fCallK, fCallP, gMax2, gMin2, gMax3, gMin3, fPar2, fMulti, putM, fAsgG, fLc, lcStep, lsStep, tYesF, gN, gT, gsCons, gsNil, e1_ring_match, eqX_int, eqI, h]
  have g := gSumA_list ((l.zip (rot l m)).map eqI)
  rw [List.map_map] at g
  have g' : gSumA [.list ((l.zip (rot l m)).map fun p => PyData.int (eqI p))] = some (.val (.int (agreed l m))) := g
  obtain ⟨a1, a2⟩ := agreed_bd l m
  have m2 := mul2 (i := agreed l m) (by omega) (by omega)
  rw [List.nil_append] at e1
  simp [fnOf, fSeq, fNil, fSet, fRet, fDrop, fIf, fFgt, fgtO, fgt, fFor, fIfE, fT, fTru, truD, fAnd, fOr, fNot, fAndV, fOrV, fNotV, fOp2, fVar, fC, fB, fACons, fANil, fTup, fLst, fNeg, gRel, gInt2, gInt2C, gAdd, gMulX_int, gIx, gLen, gAbs, gInt, gEq, gIs, gIsNot, dv_dat, dv_lst, dv_al, dvs, own_dat, own_lst, own_bag, own_dcK, own_scr, flat_dat, flat_lst, Res.fin, frzs_nil, frzs_cons, frz_dat, intT_int, outs, als, argsOf, putArgs, fCall, eqv_int, shp_int, shp_none, shp_bool, noOwn, ownAt, sizeLine_eq, fIter, itemsOf, fRange1, fRange2, eqX_int, eqX_str, fEnumA, fFrz, fNever, permOk, perm, fCallK, fCallP, gMax2, gMin2, gMax3, gMin3, fPar2, fMulti, putM, fAsgG, fLc, F_ring_match, fSlice, fOSo, fONo, dvS, gSl, hp, hs, c, cl, fZip, e1, g', m2, matchV]
theorem law_match_ok {l : List Int} (hz : l.length ≤ 1000) {s : Int} {m : Nat} (hm : m < l.length) (hs : s % (l.length : Int) = m) : F__law_match [.dat (rowD l), .dat (.int s)] = some (.dat (.int (matchV l m)), [none, none]) := by
  have c := cut_rot l (Nat.le_of_lt hm)
  have cl : (cutL (l.map PyData.int) (some (m : Int)) none).length + (cutL (l.map PyData.int) none (some (m : Int))).length ≤ 16777216 := by
    rw [← List.length_append, c, List.length_map, rot_len]
    omega
  have hp : 0 < l.length := by omega
  have e1 : loopL (gT 2 (gsCons (gN 5) (gsCons (gN 6) gsNil))) tYesF e1__law_match [5, 6] (zipD (l.map .int) ((rot l m).map .int)) [] [some (.dat (rowD l)), some (.dat (.int s)), some (.dat (.int l.length)), some (.dat (.int m)), some (.dat (rowD (rot l m))), none, none] =
      some ([] ++ (l.zip (rot l m)).map (fun p => PyData.int (if p.1 = p.2 then 1 else -1)), [some (.dat (rowD l)), some (.dat (.int s)), some (.dat (.int l.length)), some (.dat (.int m)), some (.dat (rowD (rot l m))), none, none]) := by
    rw [zipD_map]
    exact loopL_map (by simp [sizeLine_eq]; omega) fun p hx => by
      by_cases h : p.1 = p.2
      · simp [fnOf, fSeq, fNil, fSet, fRet, fDrop, fIf, fFgt, fgtO, fgt, fFor, fIfE, fT, fTru, truD, fAnd, fOr, fNot, fAndV, fOrV, fNotV, fOp2, fVar, fC, fB, fACons, fANil, fTup, fLst, fNeg, gRel, gInt2, gInt2C, gAdd, gMulX_int, gIx, gLen, gAbs, gInt, gEq, gIs, gIsNot, dv_dat, dv_lst, dv_al, dvs, own_dat, own_lst, own_bag, own_dcK, own_scr, flat_dat, flat_lst, Res.fin, frzs_nil, frzs_cons, frz_dat, intT_int, outs, als, argsOf, putArgs, fCall, eqv_int, shp_int, shp_none, shp_bool, noOwn, ownAt, sizeLine_eq, fIter, itemsOf, fRange1, fRange2, eqX_int, eqX_str, fEnumA, fFrz, fNever, permOk, perm, fCallK, fCallP, gMax2, gMin2, gMax3, gMin3, fPar2, fMulti, putM, fAsgG, fLc, lcStep, lsStep, tYesF, gN, gT, gsCons, gsNil, e1__law_match, eqX_int, h]
      · simp [fnOf, fSeq, fNil, fSet, fRet, fDrop, fIf, fFgt, fgtO, fgt, fFor, fIfE, fT, fTru, truD, fAnd, fOr, fNot, fAndV, fOrV, fNotV, fOp2, fVar, fC, fB, fACons, fANil, fTup, fLst, fNeg, gRel, gInt2, gInt2C, gAdd, gMulX_int, gIx, gLen, gAbs, gInt, gEq, gIs, gIsNot, dv_dat, dv_lst, dv_al, dvs, own_dat, own_lst, own_bag, own_dcK, own_scr, flat_dat, flat_lst, Res.fin, frzs_nil, frzs_cons, frz_dat, intT_int, outs, als, argsOf, putArgs, fCall, eqv_int, shp_int, shp_none, shp_bool, noOwn, ownAt, sizeLine_eq, fIter, itemsOf, fRange1, fRange2, eqX_int, eqX_str, fEnumA, fFrz, fNever, permOk, perm, fCallK, fCallP, gMax2, gMin2, gMax3, gMin3, fPar2, fMulti, putM, fAsgG, fLc, lcStep, lsStep, tYesF, gN, gT, gsCons, gsNil, e1__law_match, eqX_int, h]
  have g := gSumA_list ((l.zip (rot l m)).map fun p => if p.1 = p.2 then (1 : Int) else -1)
  rw [List.map_map, signs_sum, List.length_zip, rot_len, Nat.min_self] at g
  have g' : gSumA [.list ((l.zip (rot l m)).map fun p => PyData.int (if p.1 = p.2 then (1 : Int) else -1))] = some (.val (.int (matchV l m))) := g
  rw [List.nil_append] at e1
  have hz2 : l.length ≤ 16777216 := by omega
  simp [fnOf, fSeq, fNil, fSet, fRet, fDrop, fIf, fFgt, fgtO, fgt, fFor, fIfE, fT, fTru, truD, fAnd, fOr, fNot, fAndV, fOrV, fNotV, fOp2, fVar, fC, fB, fACons, fANil, fTup, fLst, fNeg, gRel, gInt2, gInt2C, gAdd, gMulX_int, gIx, gLen, gAbs, gInt, gEq, gIs, gIsNot, dv_dat, dv_lst, dv_al, dvs, own_dat, own_lst, own_bag, own_dcK, own_scr, flat_dat, flat_lst, Res.fin, frzs_nil, frzs_cons, frz_dat, intT_int, outs, als, argsOf, putArgs, fCall, eqv_int, shp_int, shp_none, shp_bool, noOwn, ownAt, sizeLine_eq, fIter, itemsOf, fRange1, fRange2, eqX_int, eqX_str, fEnumA, fFrz, fNever, permOk, perm, fCallK, fCallP, gMax2, gMin2, gMax3, gMin3, fPar2, fMulti, putM, fAsgG, fLc, F__law_match, fSlice, fOSo, fONo, dvS, gSl, hp, hs, c, cl, fListZip, e1, g', rot_len]
theorem match_back (l : List Int) {m : Nat} (h : m ≤ l.length) : matchV l (l.length - m) = matchV l m := by
  unfold matchV
  rw [agreed_back l h]
theorem match_len (l : List Int) : matchV l l.length = matchV l 0 := by
  unfold matchV
  rw [agreed_mod]
end Lw

end

/-! K43c: words -/
noncomputable section
namespace Lw
open PySem PySem.Spec PyProof.Rows L2 Fx

def bitF (l : List Int) (i : Nat) : Int := (l[i % l.length]?).getD 0
theorem bitF_bit {l : List Int} (hb : Bits l) (h0 : 0 < l.length) (i : Nat) : bitF l i = 0 ∨ bitF l i = 1 := by
  unfold bitF
  have h := Nat.mod_lt i h0
  rw [List.getElem?_eq_getElem h]
  exact hb _ (List.getElem_mem h)
theorem bitF_per (l : List Int) (i : Nat) : bitF l (i + l.length) = bitF l i := by
  unfold bitF
  rw [Nat.add_mod_right]
theorem bitF_at' {l : List Int} (h0 : 0 < l.length) (i : Nat) (j : Int) (e : j = ((i % l.length : Nat) : Int)) : atI (l.map PyData.int) j = some (.int (bitF l i)) := by
  have h := Nat.mod_lt i h0
  have e2 : (l.map PyData.int)[i % l.length]? = some (.int (bitF l i)) := by
    unfold bitF
    rw [List.getElem?_map, List.getElem?_eq_getElem h]
    rfl
  rw [e]
  exact atI_nat e2
theorem bitF_at {l : List Int} (h0 : 0 < l.length) (i : Nat) : atI (l.map PyData.int) ((i % l.length : Nat) : Int) = some (.int (bitF l i)) := by
  have h := Nat.mod_lt i h0
  have e : (l.map PyData.int)[i % l.length]? = some (.int (bitF l i)) := by
    unfold bitF
    rw [List.getElem?_map, List.getElem?_eq_getElem h]
    rfl
  exact atI_nat e
def tallyI (k : Nat) (l : List Int) : List Int := (List.range (k + 1)).map fun (j : Nat) => ((l.count (j : Int) : Nat) : Int)
theorem tally_I (k : Nat) (l : List Int) : tally k l = (tallyI k l).map .int := by
  unfold tally tallyI
  rw [List.map_map]
  rfl
theorem tally_len (k : Nat) (l : List Int) : (tally k l).length = k + 1 := by simp [tally]
theorem tally_take {j k : Nat} (l : List Int) (h : j ≤ k) : (tally k l).take (j + 1) = tally j l := by
  unfold tally
  rw [← List.map_take, List.take_range, Nat.min_eq_left (by omega)]
/-- the words that are counted -/
def wordsI (l : List Int) (m : Nat) : List Int := tallyI (2 ^ m - 1) (nums (bitF l) m l.length)
theorem nums_take (f : Nat → Int) (m : Nat) {n i : Nat} (h : i < n) : (nums f m n).take (i + 1) = (nums f m n).take i ++ [num f m i] := by
  rw [List.take_add_one]
  unfold nums
  rw [List.getElem?_map, List.getElem?_range h]
  rfl
section
variable {l : List Int} (hb : Bits l) (h0 : 0 < l.length) (hz : l.length ≤ 1000) {m : Nat} (hm : 1 ≤ m) (hm2 : m ≤ 7)
include hb h0 hz hm hm2
theorem pow_bd {i : Nat} (h : i ≤ m) : (2 : Int) ^ i ≤ 128 ∧ (2 : Nat) ^ i ≤ 128 ∧ (0 : Int) < 2 ^ i ∧ (0 : Nat) < 2 ^ i := by
  have h1 : (2 : Nat) ^ i ≤ 2 ^ 7 := Nat.pow_le_pow_right (by decide) (by omega)
  have h2 : (0 : Nat) < 2 ^ i := Nat.pow_pos (by decide)
  have e : (2 : Int) ^ i = ((2 ^ i : Nat) : Int) := by simp
  rw [e]
  have h3 : (2 : Nat) ^ 7 = 128 := by decide
  omega
theorem word_nat {i : Nat} (h : i ≤ m) (b : Nat) : ∃ v : Nat, num (bitF l) i b = v ∧ v < 2 ^ i := by
  obtain ⟨h1, h2⟩ := num_bd (bitF l) (bitF_bit hb h0) i b
  have e : (2 : Int) ^ i = ((2 ^ i : Nat) : Int) := by simp
  rw [e] at h2
  exact ⟨(num (bitF l) i b).toNat, by omega, by omega⟩
theorem word_counts_ok : F_word_counts [.dat (rowD l), .dat (.int m)] = some (.dat (rowD (wordsI l m)), [none, none]) := by
  obtain ⟨p1, p2, p3, p4⟩ := pow_bd hb h0 hz hm hm2 (Nat.le_refl m)
  have hp : (0 : Int) < l.length := by omega
  obtain ⟨Γ1, e1, rfl⟩ := loopS_ok (tg := gN 5) (b := b1_word_counts) (items := (List.range m).map fun (x : Nat) => PyData.int x) (Γ := [some (.dat (rowD l)), some (.dat (.int m)), some (.lst (List.replicate (2 ^ m) (.int 0))), some (.dat (.int l.length)), some (.dat (.int 0)), none, none])
    (P := fun i Γ => Γ = [some (.dat (rowD l)), some (.dat (.int m)), some (.lst (List.replicate (2 ^ m) (.int 0))), some (.dat (.int l.length)), some (.dat (.int (num (bitF l) i 0))), none, none]) 0 rfl (by
      rintro i d Γ hd rfl
      rw [List.getElem?_map] at hd
      obtain ⟨k, hk, rfl⟩ := Option.map_eq_some_iff.mp hd
      obtain ⟨hi, rfl⟩ := List.getElem?_eq_some_iff.mp hk
      have hi' : i < m := by simpa using hi
      simp only [List.getElem_range, Nat.zero_add]
      obtain ⟨v, ev, hv⟩ := word_nat hb h0 hz hm hm2 (Nat.le_of_lt hi') 0
      have q := pow_bd hb h0 hz hm hm2 (Nat.le_of_lt hi')
      have m2 := mul2 (i := num (bitF l) i 0) (by omega) (by omega)
      have ix := bitF_at' h0 i ((i : Int) % (l.length : Int)) (by simp)
      refine ⟨_, .inl ?_, rfl⟩
      have en : num (bitF l) (i + 1) 0 = 2 * num (bitF l) i 0 + bitF l i := by
        show _ + bitF l (0 + i) = _
        rw [Nat.zero_add]
      rw [en]
      simp [fnOf, fSeq, fNil, fSet, fRet, fDrop, fIf, fFgt, fgtO, fgt, fFor, fIfE, fT, fTru, truD, fAnd, fOr, fNot, fAndV, fOrV, fNotV, fOp2, fVar, fC, fB, fACons, fANil, fTup, fLst, fNeg, gRel, gInt2, gInt2C, gAdd, gMulX_int, gIx, gLen, gAbs, gInt, gEq, gIs, gIsNot, dv_dat, dv_lst, dv_al, dvs, own_dat, own_lst, own_bag, own_dcK, own_scr, flat_dat, flat_lst, Res.fin, frzs_nil, frzs_cons, frz_dat, intT_int, outs, als, argsOf, putArgs, fCall, eqv_int, shp_int, shp_none, shp_bool, noOwn, ownAt, sizeLine_eq, fIter, itemsOf, fRange1, fRange2, eqX_int, eqX_str, fEnumA, fFrz, fNever, permOk, perm, fCallK, fCallP, gMax2, gMin2, gMax3, gMin3, fPar2, fMulti, putM, fAsgG, fLc, lcStep, lsStep, tYesF, gN, gT, gsCons, gsNil, b1_word_counts, m2, ix, h0])
  rw [List.length_map, List.length_range, Nat.zero_add] at e1
  obtain ⟨Γ2, e2, rfl⟩ := loopS_ok (tg := gN 6) (b := b2_word_counts) (items := (List.range l.length).map fun (x : Nat) => PyData.int x) (Γ := [some (.dat (rowD l)), some (.dat (.int m)), some (.lst (tally (2 ^ m - 1) [])), some (.dat (.int l.length)), some (.dat (.int (num (bitF l) m 0))), none, none])
    (P := fun i Γ => Γ = [some (.dat (rowD l)), some (.dat (.int m)), some (.lst (tally (2 ^ m - 1) ((nums (bitF l) m l.length).take i))), some (.dat (.int l.length)), some (.dat (.int (num (bitF l) m i))), none, none]) 0 rfl (by
      rintro i d Γ hd rfl
      rw [List.getElem?_map] at hd
      obtain ⟨k, hk, rfl⟩ := Option.map_eq_some_iff.mp hd
      obtain ⟨hi, rfl⟩ := List.getElem?_eq_some_iff.mp hk
      have hi' : i < l.length := by simpa using hi
      simp only [List.getElem_range, Nat.zero_add]
      obtain ⟨v, ev, hv⟩ := word_nat hb h0 hz hm hm2 (Nat.le_refl m) i
      have m2 := mul2 (i := num (bitF l) m i) (by omega) (by omega)
      have ix := bitF_at' h0 (i + m) (((i : Int) + m) % (l.length : Int)) (by simp)
      have sh : powOk 1 m = true := decide_eq_true ⟨by omega, by omega, by decide⟩
      refine ⟨_, .inl ?_, rfl⟩
      have en := num_next (bitF l) (bitF_bit hb h0) m i
      have tg := tally_get (k := 2 ^ m - 1) ((nums (bitF l) m l.length).take i) (n := v) (by omega)
      have ts := tally_set (k := 2 ^ m - 1) ((nums (bitF l) m l.length).take i) (n := v) (by omega)
      have hx := ixN_nat (j := v) (n := (tally (2 ^ m - 1) ((nums (bitF l) m l.length).take i)).length) (by rw [tally_len]; omega)
      rw [nums_take (bitF l) m hi', ev, ← ts]
      rw [ev] at en m2
      simp [fnOf, fSeq, fNil, fSet, fRet, fDrop, fIf, fFgt, fgtO, fgt, fFor, fIfE, fT, fTru, truD, fAnd, fOr, fNot, fAndV, fOrV, fNotV, fOp2, fVar, fC, fB, fACons, fANil, fTup, fLst, fNeg, gRel, gInt2, gInt2C, gAdd, gMulX_int, gIx, gLen, gAbs, gInt, gEq, gIs, gIsNot, dv_dat, dv_lst, dv_al, dvs, own_dat, own_lst, own_bag, own_dcK, own_scr, flat_dat, flat_lst, Res.fin, frzs_nil, frzs_cons, frz_dat, intT_int, outs, als, argsOf, putArgs, fCall, eqv_int, shp_int, shp_none, shp_bool, noOwn, ownAt, sizeLine_eq, fIter, itemsOf, fRange1, fRange2, eqX_int, eqX_str, fEnumA, fFrz, fNever, permOk, perm, fCallK, fCallP, gMax2, gMin2, gMax3, gMin3, fPar2, fMulti, putM, fAsgG, fLc, lcStep, lsStep, tYesF, gN, gT, gsCons, gsNil, b2_word_counts, fPutIx, lstS, ev, m2, ix, h0, sh, atI_nat tg, hx, en, p3])
  rw [List.length_map, List.length_range, Nat.zero_add] at e2
  have sh : powOk 1 m = true := decide_eq_true ⟨by omega, by omega, by decide⟩
  have g1 := gMul_rep (.int 0) (n := 2 ^ m) (by omega)
  have r1 := rg1_nat (p := m) (by omega)
  have r2 := rg1_nat (p := l.length) (by omega)
  have t0 : tally (2 ^ m - 1) [] = List.replicate (2 ^ m) (.int 0) := by rw [tally_nil, show 2 ^ m - 1 + 1 = 2 ^ m by omega]
  rw [t0] at e2
  have tk : (nums (bitF l) m l.length).take l.length = nums (bitF l) m l.length := List.take_of_length_le (by rw [nums_len]; exact Nat.le_refl _)
  rw [tk, tally_I] at e2
  have eP : (((2 ^ m : Nat) : Int)) = 2 ^ m := by simp
  rw [eP] at g1
  have hps : ((2 : Int) ^ m).toNat = 2 ^ m := by rw [← eP, Int.toNat_natCast]
  simp [fnOf, fSeq, fNil, fSet, fRet, fDrop, fIf, fFgt, fgtO, fgt, fFor, fIfE, fT, fTru, truD, fAnd, fOr, fNot, fAndV, fOrV, fNotV, fOp2, fVar, fC, fB, fACons, fANil, fTup, fLst, fNeg, gRel, gInt2, gInt2C, gAdd, gMulX_int, gIx, gLen, gAbs, gInt, gEq, gIs, gIsNot, dv_dat, dv_lst, dv_al, dvs, own_dat, own_lst, own_bag, own_dcK, own_scr, flat_dat, flat_lst, Res.fin, frzs_nil, frzs_cons, frz_dat, intT_int, outs, als, argsOf, putArgs, fCall, eqv_int, shp_int, shp_none, shp_bool, noOwn, ownAt, sizeLine_eq, fIter, itemsOf, fRange1, fRange2, eqX_int, eqX_str, fEnumA, fFrz, fNever, permOk, perm, fCallK, fCallP, gMax2, gMin2, gMax3, gMin3, fPar2, fMulti, putM, fAsgG, fLc, F_word_counts, sh, g1, r1, r2, e1, e2, gToT, wordsI]
theorem law_words_ok : F__law_words [.dat (rowD l), .dat (.int m)] = some (.dat (rowD (wordsI l m)), [none, none]) := by
  obtain ⟨p1, p2, p3, p4⟩ := pow_bd hb h0 hz hm hm2 (Nat.le_refl m)
  have hp : (0 : Int) < l.length := by omega
  obtain ⟨Γ1, e1, rfl⟩ := loopS_ok (tg := gN 5) (b := b1__law_words) (items := (List.range m).map fun (x : Nat) => PyData.int x) (Γ := [some (.dat (rowD l)), some (.dat (.int m)), some (.lst (List.replicate 128 (.int 0))), some (.dat (.int 1)), some (.dat (.int 0)), none, none])
    (P := fun i Γ => Γ = [some (.dat (rowD l)), some (.dat (.int m)), some (.lst (List.replicate 128 (.int 0))), some (.dat (.int (2 ^ i))), some (.dat (.int (num (bitF l) i 0))), none, none]) 0 rfl (by
      rintro i d Γ hd rfl
      rw [List.getElem?_map] at hd
      obtain ⟨k, hk, rfl⟩ := Option.map_eq_some_iff.mp hd
      obtain ⟨hi, rfl⟩ := List.getElem?_eq_some_iff.mp hk
      have hi' : i < m := by simpa using hi
      simp only [List.getElem_range, Nat.zero_add]
      obtain ⟨v, ev, hv⟩ := word_nat hb h0 hz hm hm2 (Nat.le_of_lt hi') 0
      have q := pow_bd hb h0 hz hm hm2 (Nat.le_of_lt hi')
      have m2 := mulOk_of (i := num (bitF l) i 0) (j := 2) (Nat.lt_of_lt_of_le (by omega) big64) (Nat.lt_of_lt_of_le (by decide) big64)
      have m3 := mulOk_of (i := 2 ^ i) (j := 2) (Nat.lt_of_lt_of_le (by omega) big64) (Nat.lt_of_lt_of_le (by decide) big64)
      have ix := bitF_at' h0 i ((i : Int) % (l.length : Int)) (by simp)
      refine ⟨_, .inl ?_, rfl⟩
      have en : num (bitF l) (i + 1) 0 = num (bitF l) i 0 * 2 + bitF l i := by
        show 2 * _ + bitF l (0 + i) = _
        rw [Nat.zero_add, Int.mul_comm]
      rw [en, Int.pow_succ]
      simp [fnOf, fSeq, fNil, fSet, fRet, fDrop, fIf, fFgt, fgtO, fgt, fFor, fIfE, fT, fTru, truD, fAnd, fOr, fNot, fAndV, fOrV, fNotV, fOp2, fVar, fC, fB, fACons, fANil, fTup, fLst, fNeg, gRel, gInt2, gInt2C, gAdd, gMulX_int, gIx, gLen, gAbs, gInt, gEq, gIs, gIsNot, dv_dat, dv_lst, dv_al, dvs, own_dat, own_lst, own_bag, own_dcK, own_scr, flat_dat, flat_lst, Res.fin, frzs_nil, frzs_cons, frz_dat, intT_int, outs, als, argsOf, putArgs, fCall, eqv_int, shp_int, shp_none, shp_bool, noOwn, ownAt, sizeLine_eq, fIter, itemsOf, fRange1, fRange2, eqX_int, eqX_str, fEnumA, fFrz, fNever, permOk, perm, fCallK, fCallP, gMax2, gMin2, gMax3, gMin3, fPar2, fMulti, putM, fAsgG, fLc, lcStep, lsStep, tYesF, gN, gT, gsCons, gsNil, b1__law_words, m2, m3, ix, h0])
  rw [List.length_map, List.length_range, Nat.zero_add] at e1
  have k127 : 2 ^ m - 1 ≤ 127 := by omega
  obtain ⟨Γ2, e2, rfl⟩ := loopS_ok (tg := gN 6) (b := b2__law_words) (items := (List.range l.length).map fun (x : Nat) => PyData.int x) (Γ := [some (.dat (rowD l)), some (.dat (.int m)), some (.lst (tally 127 [])), some (.dat (.int (2 ^ m))), some (.dat (.int (num (bitF l) m 0))), none, none])
    (P := fun i Γ => Γ = [some (.dat (rowD l)), some (.dat (.int m)), some (.lst (tally 127 ((nums (bitF l) m l.length).take i))), some (.dat (.int (2 ^ m))), some (.dat (.int (num (bitF l) m i))), none, none]) 0 rfl (by
      rintro i d Γ hd rfl
      rw [List.getElem?_map] at hd
      obtain ⟨k, hk, rfl⟩ := Option.map_eq_some_iff.mp hd
      obtain ⟨hi, rfl⟩ := List.getElem?_eq_some_iff.mp hk
      have hi' : i < l.length := by simpa using hi
      simp only [List.getElem_range, Nat.zero_add]
      obtain ⟨v, ev, hv⟩ := word_nat hb h0 hz hm hm2 (Nat.le_refl m) i
      have m2 := mulOk_of (i := num (bitF l) m i) (j := 2) (Nat.lt_of_lt_of_le (by omega) big64) (Nat.lt_of_lt_of_le (by decide) big64)
      have ix := bitF_at' h0 (i + m) (((i : Int) + m) % (l.length : Int)) (by simp)
      refine ⟨_, .inl ?_, rfl⟩
      have en := num_next2 (bitF l) (bitF_bit hb h0) m i (by omega)
      have tg := tally_get (k := 127) ((nums (bitF l) m l.length).take i) (n := v) (by omega)
      have ts := tally_set (k := 127) ((nums (bitF l) m l.length).take i) (n := v) (by omega)
      have hx := ixN_nat (j := v) (n := (tally 127 ((nums (bitF l) m l.length).take i)).length) (by rw [tally_len]; omega)
      rw [nums_take (bitF l) m hi', ev, ← ts]
      rw [ev] at en m2
      rw [Int.mul_comm] at en
      simp [fnOf, fSeq, fNil, fSet, fRet, fDrop, fIf, fFgt, fgtO, fgt, fFor, fIfE, fT, fTru, truD, fAnd, fOr, fNot, fAndV, fOrV, fNotV, fOp2, fVar, fC, fB, fACons, fANil, fTup, fLst, fNeg, gRel, gInt2, gInt2C, gAdd, gMulX_int, gIx, gLen, gAbs, gInt, gEq, gIs, gIsNot, dv_dat, dv_lst, dv_al, dvs, own_dat, own_lst, own_bag, own_dcK, own_scr, flat_dat, flat_lst, Res.fin, frzs_nil, frzs_cons, frz_dat, intT_int, outs, als, argsOf, putArgs, fCall, eqv_int, shp_int, shp_none, shp_bool, noOwn, ownAt, sizeLine_eq, fIter, itemsOf, fRange1, fRange2, eqX_int, eqX_str, fEnumA, fFrz, fNever, permOk, perm, fCallK, fCallP, gMax2, gMin2, gMax3, gMin3, fPar2, fMulti, putM, fAsgG, fLc, lcStep, lsStep, tYesF, gN, gT, gsCons, gsNil, b2__law_words, fPutIx, lstS, ev, m2, ix, h0, atI_nat tg, hx, en, p3])
  rw [List.length_map, List.length_range, Nat.zero_add] at e2
  have g1 : gMulX (.list [.int 0]) (.int 128) = some (.new (List.replicate 128 (.int 0))) := gMul_rep (.int 0) (n := 128) (by omega)
  have r1 := rg1_nat (p := m) (by omega)
  have r2 := rg1_nat (p := l.length) (by omega)
  have t0 : tally 127 [] = List.replicate 128 (.int 0) := by rw [tally_nil]
  rw [t0] at e2
  have tk : (nums (bitF l) m l.length).take l.length = nums (bitF l) m l.length := List.take_of_length_le (by rw [nums_len]; exact Nat.le_refl _)
  rw [tk] at e2
  have eP : (((2 ^ m : Nat) : Int)) = 2 ^ m := by simp
  have ct : cutL (tally 127 (nums (bitF l) m l.length)) none (some (2 ^ m : Int)) = (wordsI l m).map .int := by
    rw [← eP, cut_to _ _ (by rw [tally_len]; omega), show 2 ^ m = (2 ^ m - 1) + 1 by omega, tally_take _ k127, tally_I]
    rfl
  generalize List.replicate 128 (PyData.int 0) = R at g1 e1 e2
  simp [fnOf, fSeq, fNil, fSet, fRet, fDrop, fIf, fFgt, fgtO, fgt, fFor, fIfE, fT, fTru, truD, fAnd, fOr, fNot, fAndV, fOrV, fNotV, fOp2, fVar, fC, fB, fACons, fANil, fTup, fLst, fNeg, gRel, gInt2, gInt2C, gAdd, gMulX_int, gIx, gLen, gAbs, gInt, gEq, gIs, gIsNot, dv_dat, dv_lst, dv_al, dvs, own_dat, own_lst, own_bag, own_dcK, own_scr, flat_dat, flat_lst, Res.fin, frzs_nil, frzs_cons, frz_dat, intT_int, outs, als, argsOf, putArgs, fCall, eqv_int, shp_int, shp_none, shp_bool, noOwn, ownAt, sizeLine_eq, fIter, itemsOf, fRange1, fRange2, eqX_int, eqX_str, fEnumA, fFrz, fNever, permOk, perm, fCallK, fCallP, gMax2, gMin2, gMax3, gMin3, fPar2, fMulti, putM, fAsgG, fLc, F__law_words, powOk, g1, r1, r2, e1, e2, gToT, fSlice, fONo, fOSo, dvS, gSl, ct]
end
end Lw

end

/-! K43d: the checks of words, matches, leans -/
noncomputable section
namespace Lw
open PySem PySem.Spec PyProof.Rows L2 Fx

section
variable {l : List Int} (hb : Bits l) (h0 : 0 < l.length) (hz : l.length ≤ 1000) {m : Nat} (hm : 1 ≤ m) (hm2 : m ≤ 7)
theorem words_len (l : List Int) (m : Nat) : (wordsI l m).length = 2 ^ m := by
  have : 0 < 2 ^ m := Nat.pow_pos (by decide)
  simp [wordsI, tallyI]
  omega
theorem words_get {l : List Int} {m j : Nat} (h : j < 2 ^ m) : (wordsI l m)[j]? = some (((nums (bitF l) m l.length).count (j : Int) : Nat) : Int) := by
  unfold wordsI tallyI
  rw [List.getElem?_map, List.getElem?_range (by omega)]
  rfl
theorem words_at {l : List Int} {m j : Nat} (h : j < 2 ^ m) (i : Int) (e : i = j) : atI ((wordsI l m).map PyData.int) i = some (.int (((nums (bitF l) m l.length).count (j : Int) : Nat) : Int)) := by
  subst e
  refine atI_nat ?_
  rw [List.getElem?_map, words_get h]
  rfl
include hb h0 hz in
theorem words_sum (hm : 1 ≤ m) (hm2 : m ≤ 7) : (wordsI l m).sum = l.length := by
  have hp := (pow_bd hb h0 hz hm hm2 (Nat.le_refl m)).2.2.2
  have nd : ((List.range (2 ^ m - 1 + 1)).map fun (j : Nat) => (j : Int)).Nodup := List.pairwise_map.mpr (List.Pairwise.imp (fun {a b} (h : a ≠ b) => by omega) List.nodup_range)
  have := tally_sum (L := (List.range (2 ^ m - 1 + 1)).map fun (j : Nat) => (j : Int)) (l := nums (bitF l) m l.length) nd (by
    intro x hx
    obtain ⟨b, _, rfl⟩ := List.mem_map.mp hx
    obtain ⟨v, ev, hv⟩ := word_nat hb h0 hz hm hm2 (Nat.le_refl m) b
    rw [ev]
    exact List.mem_map.mpr ⟨v, by simp; omega, rfl⟩) (fun _ => 1)
  rw [List.map_map] at this
  have e1 : ((List.range (2 ^ m - 1 + 1)).map ((fun n => (((nums (bitF l) m l.length).count n : Nat) : Int) * 1) ∘ fun (j : Nat) => (j : Int))) = wordsI l m := by
    unfold wordsI tallyI
    refine List.map_congr_left fun j _ => ?_
    simp
  rw [e1] at this
  rw [this]
  simp [nums]
  have : ∀ n : Nat, (List.replicate n (1 : Int)).sum = n := by
    intro n
    induction n with
    | zero => rfl
    | succ n ih => rw [List.replicate_succ, List.sum_cons, ih]; omega
  have e2 : (List.map ((fun x => (1 : Int)) ∘ num (bitF l) m) (List.range l.length)) = List.replicate l.length 1 := by
    apply List.ext_getElem <;> simp
  rw [e2, this]
include hb h0 hz in
theorem words_last (hm : 1 ≤ m) (hm2 : m + 1 ≤ 7) : (List.range (2 ^ m)).map (fun (k : Nat) => (((nums (bitF l) (m + 1) l.length).count ((2 * k : Nat) : Int) : Nat) : Int) + (((nums (bitF l) (m + 1) l.length).count ((2 * k + 1 : Nat) : Int) : Nat) : Int)) = wordsI l m := by
  have hp := (pow_bd hb h0 hz hm (Nat.le_of_succ_le hm2) (Nat.le_refl m)).2.2.2
  unfold wordsI tallyI
  rw [show 2 ^ m - 1 + 1 = 2 ^ m by omega]
  refine List.map_congr_left fun k _ => ?_
  have := by_last (bitF l) (bitF_bit hb h0) m l.length (k : Int)
  rw [show ((2 * k : Nat) : Int) = 2 * (k : Int) by omega, show ((2 * k + 1 : Nat) : Int) = 2 * (k : Int) + 1 by omega]
  omega
include hb h0 hz in
theorem words_first (hm : 1 ≤ m) (hm2 : m + 1 ≤ 7) : (List.range (2 ^ m)).map (fun (k : Nat) => (((nums (bitF l) (m + 1) l.length).count (k : Int) : Nat) : Int) + (((nums (bitF l) (m + 1) l.length).count ((2 ^ m + k : Nat) : Int) : Nat) : Int)) = wordsI l m := by
  have hp := (pow_bd hb h0 hz hm (Nat.le_of_succ_le hm2) (Nat.le_refl m)).2.2.2
  unfold wordsI tallyI
  rw [show 2 ^ m - 1 + 1 = 2 ^ m by omega]
  refine List.map_congr_left fun k hk => ?_
  have hk' : k < 2 ^ m := by simpa using hk
  have eP : (2 : Int) ^ m = ((2 ^ m : Nat) : Int) := by simp
  have := by_first (bitF l) (bitF_bit hb h0) m l.length (bitF_per l) (k : Int) (by omega) (by rw [eP]; omega)
  rw [eP] at this
  rw [show ((2 ^ m + k : Nat) : Int) = ((2 ^ m : Nat) : Int) + k by omega]
  omega
include hb h0 in
theorem words_one : wordsI l 1 = [(l.length : Int) - l.sum, l.sum] := by
  have e : nums (bitF l) 1 l.length = l := by
    unfold nums
    apply List.ext_getElem
    · simp
    · intro i h1 h2
      simp only [List.getElem_map, List.getElem_range]
      show 2 * 0 + bitF l (i + 0) = _
      unfold bitF
      rw [Nat.add_zero, Nat.mod_eq_of_lt h2, List.getElem?_eq_getElem h2]
      simp
  have e2 : wordsI l 1 = [((l.count 0 : Nat) : Int), ((l.count 1 : Nat) : Int)] := by
    unfold wordsI tallyI
    rw [e]
    rfl
  have e3 : ∀ l : List Int, Bits l → ((l.count 0 : Nat) : Int) = l.length - l.sum ∧ ((l.count 1 : Nat) : Int) = l.sum := by
    intro l
    induction l with
    | nil => intro _; exact ⟨rfl, rfl⟩
    | cons b l ih =>
      intro h
      obtain ⟨h1, h2⟩ := ih fun x hx => h x (List.mem_cons_of_mem _ hx)
      rw [List.count_cons, List.count_cons, List.sum_cons, List.length_cons]
      rcases h b List.mem_cons_self with rfl | rfl
      · simp; omega
      · simp; omega
  rw [e2, (e3 l hb).1, (e3 l hb).2]
end
theorem words_same (l : List Int) {m : Nat} (hm2 : m ≤ 7) : F__law_same 8 [.dat (rowD (wordsI l m)), .dat (rowD (wordsI l m))] = some (.dat (.bool true), [none, none]) :=
  same8 (ints_plain _ (by rw [words_len, sizeLine_eq]; have : 2 ^ m ≤ 2 ^ 7 := Nat.pow_le_pow_right (by decide) hm2; omega)) (by decide)
theorem words_right1 {l : List Int} (hb : Bits l) (h0 : 0 < l.length) (hz : l.length ≤ 1000) {B B1 : MD} (hB : BagOk B) (hB1 : BagOk B1) {m : Nat} (hm : 1 ≤ m) (hm2 : m ≤ 7) (e1 : F__law_pick [B, .dat (.list [.int 1, .int 2, .int 3, .int 4, .int 4, .int 5, .int 5, .int 6, .int 6, .int 7, .int 7])] = some (.dat (.int m), [some B1, none])) (h1 : m = 1) : F__law_are_words_right [B, .dat (rowD l)] = some (.dat (.bool true), [some B1, none]) := by
  have o := hB.own
  have o1 := hB1.own
  have w1 := law_words_ok hb h0 hz hm hm2
  have w2 := word_counts_ok hb h0 hz hm hm2
  have s1 := words_same l hm2
  have g := gSumA_tuple (wordsI l m)
  rw [words_sum hb h0 hz hm hm2] at g
  subst h1
  have w3 := words_one hb h0
  have g2 := gSumA_tuple l
  rw [w3] at w1 w2 s1 g
  have w1' : F__law_words [.dat (rowD l), .dat (.int 1)] = _ := w1
  have w2' : F_word_counts [.dat (rowD l), .dat (.int 1)] = _ := w2
  have e1' : F__law_pick [B, .dat (.list [.int 1, .int 2, .int 3, .int 4, .int 4, .int 5, .int 5, .int 6, .int 6, .int 7, .int 7])] = some (.dat (.int 1), [some B1, none]) := e1
  simp only [rowD, List.map] at w1' w2' s1 g
  simp [fnOf, fSeq, fNil, fSet, fRet, fDrop, fIf, fFgt, fgtO, fgt, fFor, fIfE, fT, fTru, truD, fAnd, fOr, fNot, fAndV, fOrV, fNotV, fOp2, fVar, fC, fB, fACons, fANil, fTup, fLst, fNeg, gRel, gInt2, gInt2C, gAdd, gMulX_int, gIx, gLen, gAbs, gInt, gEq, gIs, gIsNot, dv_dat, dv_lst, dv_al, dvs, own_dat, own_lst, own_bag, own_dcK, own_scr, flat_dat, flat_lst, Res.fin, frzs_nil, frzs_cons, frz_dat, intT_int, outs, als, argsOf, putArgs, fCall, eqv_int, shp_int, shp_none, shp_bool, noOwn, ownAt, sizeLine_eq, fIter, itemsOf, fRange1, fRange2, eqX_int, eqX_str, fEnumA, fFrz, fNever, permOk, perm, fCallK, fCallP, gMax2, gMin2, gMax3, gMin3, fPar2, fMulti, putM, fAsgG, fLc, F__law_are_words_right, o, o1, e1', w1', w2', s1, g, g2, eqX_int]
theorem words_core {B B1 : MD} (o : B.own = true) (o1 : B1.own = true) {l WA WB : List Int} {K k P2 : Int} {R : List PyData}
    (e1 : F__law_pick [B, .dat (.list [.int 1, .int 2, .int 3, .int 4, .int 4, .int 5, .int 5, .int 6, .int 6, .int 7, .int 7])] = some (.dat (.int K), [some B1, none]))
    (w1 : F__law_words [.dat (rowD l), .dat (.int K)] = some (.dat (rowD WA), [none, none])) (w2 : F_word_counts [.dat (rowD l), .dat (.int K)] = some (.dat (rowD WA), [none, none]))
    (s1 : F__law_same 8 [.dat (rowD WA), .dat (rowD WA)] = some (.dat (.bool true), [none, none])) (g : gSumA [.tuple (WA.map .int)] = some (.val (.int l.length))) (hk1 : K - 1 = k) (hk2 : ¬ K = 1)
    (hdv : (WA.length : Int) / 2 = P2) (d2 : divOk WA.length 2 = true) (r : rg1 P2 = some R)
    (w3 : F__law_words [.dat (rowD l), .dat (.int k)] = some (.dat (rowD WB), [none, none])) (w4 : F_word_counts [.dat (rowD l), .dat (.int k)] = some (.dat (rowD WB), [none, none]))
    (s2 : F__law_same 8 [.dat (rowD WB), .dat (rowD WB)] = some (.dat (.bool true), [none, none]))
    (c1 : loopL (gN 9) tYesF e1__law_are_words_right [9] R [] [some B1, some (.dat (rowD l)), some (.dat (.int K)), some (.dat (rowD WA)), some (.dat (rowD WA)), some (.dat (.int P2)), some (.dat (rowD WB)), none, none, none] =
      some (WB.map .int, [some B1, some (.dat (rowD l)), some (.dat (.int K)), some (.dat (rowD WA)), some (.dat (rowD WA)), some (.dat (.int P2)), some (.dat (rowD WB)), none, none, none]))
    (c2 : loopL (gN 9) tYesF e2__law_are_words_right [9] R [] [some B1, some (.dat (rowD l)), some (.dat (.int K)), some (.dat (rowD WA)), some (.dat (rowD WA)), some (.dat (.int P2)), some (.dat (rowD WB)), some (.dat (rowD WB)), none, none] =
      some (WB.map .int, [some B1, some (.dat (rowD l)), some (.dat (.int K)), some (.dat (rowD WA)), some (.dat (rowD WA)), some (.dat (.int P2)), some (.dat (rowD WB)), some (.dat (rowD WB)), none, none])) :
    F__law_are_words_right [B, .dat (rowD l)] = some (.dat (.bool true), [some B1, none]) := by
  simp [fnOf, fSeq, fNil, fSet, fRet, fDrop, fIf, fFgt, fgtO, fgt, fFor, fIfE, fT, fTru, truD, fAnd, fOr, fNot, fAndV, fOrV, fNotV, fOp2, fVar, fC, fB, fACons, fANil, fTup, fLst, fNeg, gRel, gInt2, gInt2C, gAdd, gMulX_int, gIx, gLen, gAbs, gInt, gEq, gIs, gIsNot, dv_dat, dv_lst, dv_al, dvs, own_dat, own_lst, own_bag, own_dcK, own_scr, flat_dat, flat_lst, Res.fin, frzs_nil, frzs_cons, frz_dat, intT_int, outs, als, argsOf, putArgs, fCall, eqv_int, shp_int, shp_none, shp_bool, noOwn, ownAt, sizeLine_eq, fIter, itemsOf, fRange1, fRange2, eqX_int, eqX_str, fEnumA, fFrz, fNever, permOk, perm, fCallK, fCallP, gMax2, gMin2, gMax3, gMin3, fPar2, fMulti, putM, fAsgG, fLc, F__law_are_words_right, o, o1, e1, w1, w2, s1, g, hk1, hk2, hdv, d2, r, w3, w4, s2, c1, c2, gToT, eqX_ints]
theorem words_right2 {l : List Int} (hb : Bits l) (h0 : 0 < l.length) (hz : l.length ≤ 1000) {B B1 : MD} (hB : BagOk B) (hB1 : BagOk B1) {m : Nat} (hm : 1 ≤ m) (hm2 : m ≤ 7) (e1 : F__law_pick [B, .dat (.list [.int 1, .int 2, .int 3, .int 4, .int 4, .int 5, .int 5, .int 6, .int 6, .int 7, .int 7])] = some (.dat (.int m), [some B1, none])) (h1 : ¬ m = 1) : F__law_are_words_right [B, .dat (rowD l)] = some (.dat (.bool true), [some B1, none]) := by
  have o := hB.own
  have o1 := hB1.own
  have w1 := law_words_ok hb h0 hz hm hm2
  have w2 := word_counts_ok hb h0 hz hm hm2
  have s1 := words_same l hm2
  have g := gSumA_tuple (wordsI l m)
  rw [words_sum hb h0 hz hm hm2] at g
  obtain ⟨k, rfl⟩ : ∃ k, m = k + 1 := ⟨m - 1, by omega⟩
  have hk : 1 ≤ k := by omega
  have w3 := law_words_ok hb h0 hz hk (by omega)
  have w4 := word_counts_ok hb h0 hz hk (by omega)
  have s2 := words_same l (m := k) (by omega)
  obtain ⟨p1, p2, p3, p4⟩ := pow_bd hb h0 hz hk (by omega) (Nat.le_refl k)
  have hl := words_len l (k + 1)
  have hk1 : ((k + 1 : Nat) : Int) - 1 = k := by omega
  have hk2 : ¬ ((k + 1 : Nat) : Int) = 1 := by omega
  have hdv : (((wordsI l (k + 1)).length : Nat) : Int) / 2 = ((2 ^ k : Nat) : Int) := by
    rw [hl, Nat.pow_succ]
    omega
  have d2 : divOk ((wordsI l (k + 1)).length : Nat) 2 = true := divOk_of (by decide) (Nat.lt_of_lt_of_le (by decide) big64)
  have r := rg1_nat (p := 2 ^ k) (by omega)
  have c1 : loopL (gN 9) tYesF e1__law_are_words_right [9] ((List.range (2 ^ k)).map fun (x : Nat) => PyData.int x) [] [some B1, some (.dat (rowD l)), some (.dat (.int ((k + 1 : Nat) : Int))), some (.dat (rowD (wordsI l (k + 1)))), some (.dat (rowD (wordsI l (k + 1)))), some (.dat (.int ((2 ^ k : Nat) : Int))), some (.dat (rowD (wordsI l k))), none, none, none] =
      some ([] ++ (List.range (2 ^ k)).map (fun (x : Nat) => PyData.int ((((nums (bitF l) (k + 1) l.length).count ((2 * x : Nat) : Int) : Nat) : Int) + (((nums (bitF l) (k + 1) l.length).count ((2 * x + 1 : Nat) : Int) : Nat) : Int))), [some B1, some (.dat (rowD l)), some (.dat (.int ((k + 1 : Nat) : Int))), some (.dat (rowD (wordsI l (k + 1)))), some (.dat (rowD (wordsI l (k + 1)))), some (.dat (.int ((2 ^ k : Nat) : Int))), some (.dat (rowD (wordsI l k))), none, none, none]) :=
    loopL_map (by simp [sizeLine_eq]; omega) fun x hx => by
      have hx' : x < 2 ^ k := by simpa using hx
      have m2 := mul2 (i := (x : Int)) (by omega) (by omega)
      have a1 := words_at (l := l) (m := k + 1) (j := 2 * x) (by rw [Nat.pow_succ]; omega) (2 * (x : Int)) (by omega)
      have a2 := words_at (l := l) (m := k + 1) (j := 2 * x + 1) (by rw [Nat.pow_succ]; omega) (2 * (x : Int) + 1) (by omega)
      simp [fnOf, fSeq, fNil, fSet, fRet, fDrop, fIf, fFgt, fgtO, fgt, fFor, fIfE, fT, fTru, truD, fAnd, fOr, fNot, fAndV, fOrV, fNotV, fOp2, fVar, fC, fB, fACons, fANil, fTup, fLst, fNeg, gRel, gInt2, gInt2C, gAdd, gMulX_int, gIx, gLen, gAbs, gInt, gEq, gIs, gIsNot, dv_dat, dv_lst, dv_al, dvs, own_dat, own_lst, own_bag, own_dcK, own_scr, flat_dat, flat_lst, Res.fin, frzs_nil, frzs_cons, frz_dat, intT_int, outs, als, argsOf, putArgs, fCall, eqv_int, shp_int, shp_none, shp_bool, noOwn, ownAt, sizeLine_eq, fIter, itemsOf, fRange1, fRange2, eqX_int, eqX_str, fEnumA, fFrz, fNever, permOk, perm, fCallK, fCallP, gMax2, gMin2, gMax3, gMin3, fPar2, fMulti, putM, fAsgG, fLc, lcStep, lsStep, tYesF, gN, gT, gsCons, gsNil, e1__law_are_words_right, m2, a1, a2]
  have c2 : loopL (gN 9) tYesF e2__law_are_words_right [9] ((List.range (2 ^ k)).map fun (x : Nat) => PyData.int x) [] [some B1, some (.dat (rowD l)), some (.dat (.int ((k + 1 : Nat) : Int))), some (.dat (rowD (wordsI l (k + 1)))), some (.dat (rowD (wordsI l (k + 1)))), some (.dat (.int ((2 ^ k : Nat) : Int))), some (.dat (rowD (wordsI l k))), some (.dat (rowD (wordsI l k))), none, none] =
      some ([] ++ (List.range (2 ^ k)).map (fun (x : Nat) => PyData.int ((((nums (bitF l) (k + 1) l.length).count (x : Int) : Nat) : Int) + (((nums (bitF l) (k + 1) l.length).count ((2 ^ k + x : Nat) : Int) : Nat) : Int))), [some B1, some (.dat (rowD l)), some (.dat (.int ((k + 1 : Nat) : Int))), some (.dat (rowD (wordsI l (k + 1)))), some (.dat (rowD (wordsI l (k + 1)))), some (.dat (.int ((2 ^ k : Nat) : Int))), some (.dat (rowD (wordsI l k))), some (.dat (rowD (wordsI l k))), none, none]) :=
    loopL_map (by simp [sizeLine_eq]; omega) fun x hx => by
      have hx' : x < 2 ^ k := by simpa using hx
      have a1 := words_at (l := l) (m := k + 1) (j := x) (by rw [Nat.pow_succ]; omega) (x : Int) rfl
      have a2 := words_at (l := l) (m := k + 1) (j := 2 ^ k + x) (by rw [Nat.pow_succ]; omega) (((2 ^ k : Nat) : Int) + (x : Int)) (by omega)
      simp only [Int.natCast_pow, Int.cast_ofNat_Int] at a2
      simp [fnOf, fSeq, fNil, fSet, fRet, fDrop, fIf, fFgt, fgtO, fgt, fFor, fIfE, fT, fTru, truD, fAnd, fOr, fNot, fAndV, fOrV, fNotV, fOp2, fVar, fC, fB, fACons, fANil, fTup, fLst, fNeg, gRel, gInt2, gInt2C, gAdd, gMulX_int, gIx, gLen, gAbs, gInt, gEq, gIs, gIsNot, dv_dat, dv_lst, dv_al, dvs, own_dat, own_lst, own_bag, own_dcK, own_scr, flat_dat, flat_lst, Res.fin, frzs_nil, frzs_cons, frz_dat, intT_int, outs, als, argsOf, putArgs, fCall, eqv_int, shp_int, shp_none, shp_bool, noOwn, ownAt, sizeLine_eq, fIter, itemsOf, fRange1, fRange2, eqX_int, eqX_str, fEnumA, fFrz, fNever, permOk, perm, fCallK, fCallP, gMax2, gMin2, gMax3, gMin3, fPar2, fMulti, putM, fAsgG, fLc, lcStep, lsStep, tYesF, gN, gT, gsCons, gsNil, e2__law_are_words_right, a1, a2]
  have f1 : (List.range (2 ^ k)).map (fun (x : Nat) => PyData.int ((((nums (bitF l) (k + 1) l.length).count ((2 * x : Nat) : Int) : Nat) : Int) + (((nums (bitF l) (k + 1) l.length).count ((2 * x + 1 : Nat) : Int) : Nat) : Int))) = (wordsI l k).map .int := by
    rw [← words_last hb h0 hz hk hm2, List.map_map]
    rfl
  have f2 : (List.range (2 ^ k)).map (fun (x : Nat) => PyData.int ((((nums (bitF l) (k + 1) l.length).count (x : Int) : Nat) : Int) + (((nums (bitF l) (k + 1) l.length).count ((2 ^ k + x : Nat) : Int) : Nat) : Int))) = (wordsI l k).map .int := by
    rw [← words_first hb h0 hz hk hm2, List.map_map]
    rfl
  rw [List.nil_append, f1] at c1
  rw [List.nil_append, f2] at c2
  exact words_core o o1 e1 w1 w2 s1 g hk1 hk2 hdv d2 r w3 w4 s2 c1 c2
theorem words_right {l : List Int} (hb : Bits l) (h0 : 0 < l.length) (hz : l.length ≤ 1000) {B : MD} (hB : BagOk B) : ∃ B', F__law_are_words_right [B, .dat (rowD l)] = some (.dat (.bool true), [some B', none]) ∧ BagOk B' := by
  obtain ⟨d, B1, e1, hB1, md⟩ := pick hB (ds := [.int 1, .int 2, .int 3, .int 4, .int 4, .int 5, .int 5, .int 6, .int 6, .int 7, .int 7]) (by simp) (by simp)
  obtain ⟨m, hm, hm2, rfl⟩ : ∃ m : Nat, 1 ≤ m ∧ m ≤ 7 ∧ d = .int m := by
    simp at md
    rcases md with rfl | rfl | rfl | rfl | rfl | rfl | rfl
    · exact ⟨1, by decide, by decide, rfl⟩
    · exact ⟨2, by decide, by decide, rfl⟩
    · exact ⟨3, by decide, by decide, rfl⟩
    · exact ⟨4, by decide, by decide, rfl⟩
    · exact ⟨5, by decide, by decide, rfl⟩
    · exact ⟨6, by decide, by decide, rfl⟩
    · exact ⟨7, by decide, by decide, rfl⟩
  refine ⟨B1, ?_, hB1⟩
  by_cases h1 : m = 1
  · exact words_right1 hb h0 hz hB hB1 hm hm2 e1 h1
  · exact words_right2 hb h0 hz hB hB1 hm hm2 e1 h1
end Lw

end

/-! K43e: shifts, matches, leans, rows that are drawn -/
noncomputable section
namespace Lw
open PySem PySem.Spec PyProof.Rows L2 Fx

theorem pow4 {i : Nat} (h : i ≤ 10) : (10000 : Int) ^ i ≤ 10 ^ 40 ∧ (0 : Int) < 10000 ^ i := by
  have h1 : (10000 : Nat) ^ i ≤ 10000 ^ 10 := Nat.pow_le_pow_right (by decide) h
  have h2 : (0 : Nat) < 10000 ^ i := Nat.pow_pos (by decide)
  have e : (10000 : Int) ^ i = ((10000 ^ i : Nat) : Int) := by simp
  have e2 : (10 : Int) ^ 40 = ((10000 ^ 10 : Nat) : Int) := by decide
  rw [e, e2]
  omega
theorem shift_ok {n : Nat} (hn : 0 < n) (hn2 : n ≤ 1000) {B : MD} (hB : BagOk B) : ∃ s B', F__law_shift [B, .dat (.int n)] = some (.dat (.int s), [some B', none]) ∧ BagOk B' ∧ 0 ≤ s := by
  obtain ⟨w, B1, e1, hB1, w0, w1⟩ := draw hB (n := 6) (by decide) (by decide)
  have o := hB.own
  have o1 := hB1.own
  have hw : w < 3 ∨ w = 3 ∨ w = 4 ∨ w = 5 := by omega
  rcases hw with hw | rfl | rfl | rfl
  · obtain ⟨v, B2, e2, hB2, v0, v1⟩ := draw hB1 (n := (n : Int) + 1) (by omega) (by omega)
    have o2 := hB2.own
    exact ⟨v, B2, by simp [fnOf, fSeq, fNil, fSet, fRet, fDrop, fIf, fFgt, fgtO, fgt, fFor, fIfE, fT, fTru, truD, fAnd, fOr, fNot, fAndV, fOrV, fNotV, fOp2, fVar, fC, fB, fACons, fANil, fTup, fLst, fNeg, gRel, gInt2, gInt2C, gAdd, gMulX_int, gIx, gLen, gAbs, gInt, gEq, gIs, gIsNot, dv_dat, dv_lst, dv_al, dvs, own_dat, own_lst, own_bag, own_dcK, own_scr, flat_dat, flat_lst, Res.fin, frzs_nil, frzs_cons, frz_dat, intT_int, outs, als, argsOf, putArgs, fCall, eqv_int, shp_int, shp_none, shp_bool, noOwn, ownAt, sizeLine_eq, fIter, itemsOf, fRange1, fRange2, eqX_int, eqX_str, fEnumA, fFrz, fNever, permOk, perm, fCallK, fCallP, gMax2, gMin2, gMax3, gMin3, fPar2, fMulti, putM, fAsgG, fLc, F__law_shift, o, o1, e1, hw, e2, o2], hB2, v0⟩
  · obtain ⟨v, B2, e2, hB2, v0, v1⟩ := draw hB1 (n := 9) (by decide) (by decide)
    obtain ⟨d, B3, e3, hB3, md⟩ := pick hB2 (ds := [.int 0, .int 0, .int 1, .int ((n : Int) - 1)]) (by simp) (by simp)
    have o2 := hB2.own
    have o3 := hB3.own
    obtain ⟨u, hu, rfl⟩ : ∃ u : Int, 0 ≤ u ∧ d = .int u := by
      simp at md
      rcases md with rfl | rfl | rfl
      · exact ⟨0, by decide, rfl⟩
      · exact ⟨1, by decide, rfl⟩
      · exact ⟨_, by omega, rfl⟩
    have m1 : mulOk n (1 + v) = true := mulOk_of (Nat.lt_of_lt_of_le (by omega) big64) (Nat.lt_of_lt_of_le (by omega) big64)
    have p1 : 0 ≤ (n : Int) * (1 + v) := Int.mul_nonneg (by omega) (by omega)
    exact ⟨n * (1 + v) + u, B3, by simp [fnOf, fSeq, fNil, fSet, fRet, fDrop, fIf, fFgt, fgtO, fgt, fFor, fIfE, fT, fTru, truD, fAnd, fOr, fNot, fAndV, fOrV, fNotV, fOp2, fVar, fC, fB, fACons, fANil, fTup, fLst, fNeg, gRel, gInt2, gInt2C, gAdd, gMulX_int, gIx, gLen, gAbs, gInt, gEq, gIs, gIsNot, dv_dat, dv_lst, dv_al, dvs, own_dat, own_lst, own_bag, own_dcK, own_scr, flat_dat, flat_lst, Res.fin, frzs_nil, frzs_cons, frz_dat, intT_int, outs, als, argsOf, putArgs, fCall, eqv_int, shp_int, shp_none, shp_bool, noOwn, ownAt, sizeLine_eq, fIter, itemsOf, fRange1, fRange2, eqX_int, eqX_str, fEnumA, fFrz, fNever, permOk, perm, fCallK, fCallP, gMax2, gMin2, gMax3, gMin3, fPar2, fMulti, putM, fAsgG, fLc, F__law_shift, o, o1, e1, e2, o2, e3, o3, m1], hB3, by omega⟩
  · obtain ⟨v, B2, e2, hB2, v0, v1⟩ := draw hB1 (n := 3) (by decide) (by decide)
    have o2 := hB2.own
    refine ⟨10 ^ 40 - 1 - v, B2, by simp [fnOf, fSeq, fNil, fSet, fRet, fDrop, fIf, fFgt, fgtO, fgt, fFor, fIfE, fT, fTru, truD, fAnd, fOr, fNot, fAndV, fOrV, fNotV, fOp2, fVar, fC, fB, fACons, fANil, fTup, fLst, fNeg, gRel, gInt2, gInt2C, gAdd, gMulX_int, gIx, gLen, gAbs, gInt, gEq, gIs, gIsNot, dv_dat, dv_lst, dv_al, dvs, own_dat, own_lst, own_bag, own_dcK, own_scr, flat_dat, flat_lst, Res.fin, frzs_nil, frzs_cons, frz_dat, intT_int, outs, als, argsOf, putArgs, fCall, eqv_int, shp_int, shp_none, shp_bool, noOwn, ownAt, sizeLine_eq, fIter, itemsOf, fRange1, fRange2, eqX_int, eqX_str, fEnumA, fFrz, fNever, permOk, perm, fCallK, fCallP, gMax2, gMin2, gMax3, gMin3, fPar2, fMulti, putM, fAsgG, fLc, F__law_shift, o, o1, e1, e2, o2, powOk], hB2, ?_⟩
    have : (10 : Int) ^ 40 = 10000000000000000000000000000000000000000 := by decide
    rw [this]
    omega
  · obtain ⟨v, B2, e2, hB2, v0, v1⟩ := draw hB1 (n := 10) (by decide) (by decide)
    have o2 := hB2.own
    obtain ⟨t, ht, et⟩ : ∃ t : Nat, t ≤ 10 ∧ 1 + v = t := ⟨(1 + v).toNat, by omega, by omega⟩
    obtain ⟨Γ', e3, B3, s, rfl, hB3, s0, s1⟩ := loopS_ok (tg := gN 4) (b := b1__law_shift) (items := (List.range t).map fun (x : Nat) => PyData.int x) (Γ := [some B2, some (.dat (.int n)), some (.dat (.int 5)), some (.dat (.int 0)), none])
      (P := fun i Γ => ∃ B s, Γ = [some B, some (.dat (.int n)), some (.dat (.int 5)), some (.dat (.int s)), none] ∧ BagOk B ∧ 0 ≤ s ∧ s < 10000 ^ i) 0 ⟨B2, 0, rfl, hB2, Int.le_refl _, by decide⟩ (by
        rintro i d Γ hd ⟨B, s, rfl, hB, s0, s1⟩
        have hi : i < t := by
          have := (List.getElem?_eq_some_iff.mp hd).1
          simpa using this
        obtain ⟨u, B', e4, hB', u0, u1⟩ := draw hB (n := 10000) (by decide) (by decide)
        have o := hB.own
        have o' := hB'.own
        obtain ⟨p1, p2⟩ := pow4 (i := i) (by omega)
        rw [Nat.zero_add] at s1
        have m1 : mulOk s 10000 = true := mulOk_of (by
          have : (10 : Int) ^ 40 = 10000000000000000000000000000000000000000 := by decide
          rw [this] at p1
          have e : s.natAbs < 10000000000000000000000000000000000000000 := by omega
          have k : (10000000000000000000000000000000000000000 : Nat) < 2 ^ 1000 := by decide
          omega) (Nat.lt_of_lt_of_le (by decide) big64)
        have e5 : (10000 : Int) = 10 ^ 4 := by decide
        refine ⟨_, .inl ?_, B', s * 10000 + u, rfl, hB', by omega, ?_⟩
        · rw [List.getElem?_map] at hd
          obtain ⟨y, _, rfl⟩ := Option.map_eq_some_iff.mp hd
          simp [fnOf, fSeq, fNil, fSet, fRet, fDrop, fIf, fFgt, fgtO, fgt, fFor, fIfE, fT, fTru, truD, fAnd, fOr, fNot, fAndV, fOrV, fNotV, fOp2, fVar, fC, fB, fACons, fANil, fTup, fLst, fNeg, gRel, gInt2, gInt2C, gAdd, gMulX_int, gIx, gLen, gAbs, gInt, gEq, gIs, gIsNot, dv_dat, dv_lst, dv_al, dvs, own_dat, own_lst, own_bag, own_dcK, own_scr, flat_dat, flat_lst, Res.fin, frzs_nil, frzs_cons, frz_dat, intT_int, outs, als, argsOf, putArgs, fCall, eqv_int, shp_int, shp_none, shp_bool, noOwn, ownAt, sizeLine_eq, fIter, itemsOf, fRange1, fRange2, eqX_int, eqX_str, fEnumA, fFrz, fNever, permOk, perm, fCallK, fCallP, gMax2, gMin2, gMax3, gMin3, fPar2, fMulti, putM, fAsgG, fLc, lcStep, lsStep, tYesF, gN, gT, gsCons, gsNil, b1__law_shift, o, o', powOk, e4, m1]
        · rw [Nat.zero_add, Int.pow_succ]
          omega)
    have o3 := hB3.own
    have r := rg1_nat (p := t) (by omega)
    exact ⟨s, B3, by simp [fnOf, fSeq, fNil, fSet, fRet, fDrop, fIf, fFgt, fgtO, fgt, fFor, fIfE, fT, fTru, truD, fAnd, fOr, fNot, fAndV, fOrV, fNotV, fOp2, fVar, fC, fB, fACons, fANil, fTup, fLst, fNeg, gRel, gInt2, gInt2C, gAdd, gMulX_int, gIx, gLen, gAbs, gInt, gEq, gIs, gIsNot, dv_dat, dv_lst, dv_al, dvs, own_dat, own_lst, own_bag, own_dcK, own_scr, flat_dat, flat_lst, Res.fin, frzs_nil, frzs_cons, frz_dat, intT_int, outs, als, argsOf, putArgs, fCall, eqv_int, shp_int, shp_none, shp_bool, noOwn, ownAt, sizeLine_eq, fIter, itemsOf, fRange1, fRange2, eqX_int, eqX_str, fEnumA, fFrz, fNever, permOk, perm, fCallK, fCallP, gMax2, gMin2, gMax3, gMin3, fPar2, fMulti, putM, fAsgG, fLc, F__law_shift, o, o1, e1, e2, o2, et, r, e3, o3], hB3, s0⟩
theorem match_back' {l : List Int} (h0 : 0 < l.length) {s : Int} {m m' : Nat} (hm : m < l.length) (hm' : m' < l.length) (s0 : 0 ≤ s) (h : s ≤ l.length) (hs : s % (l.length : Int) = m) (hs' : ((l.length : Int) - s) % (l.length : Int) = m') : matchV l m' = matchV l m := by
  by_cases h1 : s = 0
  · subst h1
    rw [Int.zero_emod] at hs
    rw [Int.sub_zero, Int.emod_self] at hs'
    rw [show m = 0 by omega, show m' = 0 by omega]
  · by_cases h2 : s = l.length
    · subst h2
      rw [Int.emod_self] at hs
      rw [Int.sub_self, Int.zero_emod] at hs'
      rw [show m = 0 by omega, show m' = 0 by omega]
    · rw [Int.emod_eq_of_lt s0 (by omega)] at hs
      rw [Int.emod_eq_of_lt (by omega) (by omega)] at hs'
      rw [show m' = l.length - m by omega]
      exact match_back l (by omega)
theorem matches_step {l : List Int} (h0 : 0 < l.length) (hz : l.length ≤ 1000) {B B' : MD} (o : B.own = true) (o' : B'.own = true) {t s : Int} (s0 : 0 ≤ s)
    (es : (t > 0 ∧ F__law_shift [B, .dat (.int l.length)] = some (.dat (.int s), [some B', none])) ∨ (t = 0 ∧ s = 0 ∧ B' = B)) :
    lsStep (gN 3) b1__law_are_matches_right (.int t) [some B, some (.dat (rowD l)), some (.dat (.int l.length)), none, none, none, none] = some (.nx [some B', some (.dat (rowD l)), some (.dat (.int l.length)), none, none, none, none]) := by
  have hne : l ≠ [] := List.ne_nil_of_length_pos h0
  obtain ⟨m, hm, hs⟩ := shift_mod hne s
  obtain ⟨m', hm', hs'⟩ := shift_mod hne ((l.length : Int) - s)
  have e1 := law_match_ok hz hm hs
  have e2 := ring_match_ok hz hm hs
  have e3 := ring_match_ok hz hm' hs'
  have sm := same_int (matchV l m)
  by_cases hle : s ≤ l.length
  · have q := match_back' h0 hm hm' s0 hle hs hs'
    rw [q] at e3
    rcases es with ⟨ht, es⟩ | ⟨rfl, rfl, rfl⟩
    · by_cases h1 : t = 1
      · subst h1
        simp [fnOf, fSeq, fNil, fSet, fRet, fDrop, fIf, fFgt, fgtO, fgt, fFor, fIfE, fT, fTru, truD, fAnd, fOr, fNot, fAndV, fOrV, fNotV, fOp2, fVar, fC, fB, fACons, fANil, fTup, fLst, fNeg, gRel, gInt2, gInt2C, gAdd, gMulX_int, gIx, gLen, gAbs, gInt, gEq, gIs, gIsNot, dv_dat, dv_lst, dv_al, dvs, own_dat, own_lst, own_bag, own_dcK, own_scr, flat_dat, flat_lst, Res.fin, frzs_nil, frzs_cons, frz_dat, intT_int, outs, als, argsOf, putArgs, fCall, eqv_int, shp_int, shp_none, shp_bool, noOwn, ownAt, sizeLine_eq, fIter, itemsOf, fRange1, fRange2, eqX_int, eqX_str, fEnumA, fFrz, fNever, permOk, perm, fCallK, fCallP, gMax2, gMin2, gMax3, gMin3, fPar2, fMulti, putM, fAsgG, fLc, lcStep, lsStep, tYesF, gN, gT, gsCons, gsNil, b1__law_are_matches_right, o, o', es, e1, e2, e3, sm, hle]
      · simp [fnOf, fSeq, fNil, fSet, fRet, fDrop, fIf, fFgt, fgtO, fgt, fFor, fIfE, fT, fTru, truD, fAnd, fOr, fNot, fAndV, fOrV, fNotV, fOp2, fVar, fC, fB, fACons, fANil, fTup, fLst, fNeg, gRel, gInt2, gInt2C, gAdd, gMulX_int, gIx, gLen, gAbs, gInt, gEq, gIs, gIsNot, dv_dat, dv_lst, dv_al, dvs, own_dat, own_lst, own_bag, own_dcK, own_scr, flat_dat, flat_lst, Res.fin, frzs_nil, frzs_cons, frz_dat, intT_int, outs, als, argsOf, putArgs, fCall, eqv_int, shp_int, shp_none, shp_bool, noOwn, ownAt, sizeLine_eq, fIter, itemsOf, fRange1, fRange2, eqX_int, eqX_str, fEnumA, fFrz, fNever, permOk, perm, fCallK, fCallP, gMax2, gMin2, gMax3, gMin3, fPar2, fMulti, putM, fAsgG, fLc, lcStep, lsStep, tYesF, gN, gT, gsCons, gsNil, b1__law_are_matches_right, o, o', es, e1, e2, e3, sm, hle, ht, h1]
    · rw [Int.sub_zero] at e3
      simp [fnOf, fSeq, fNil, fSet, fRet, fDrop, fIf, fFgt, fgtO, fgt, fFor, fIfE, fT, fTru, truD, fAnd, fOr, fNot, fAndV, fOrV, fNotV, fOp2, fVar, fC, fB, fACons, fANil, fTup, fLst, fNeg, gRel, gInt2, gInt2C, gAdd, gMulX_int, gIx, gLen, gAbs, gInt, gEq, gIs, gIsNot, dv_dat, dv_lst, dv_al, dvs, own_dat, own_lst, own_bag, own_dcK, own_scr, flat_dat, flat_lst, Res.fin, frzs_nil, frzs_cons, frz_dat, intT_int, outs, als, argsOf, putArgs, fCall, eqv_int, shp_int, shp_none, shp_bool, noOwn, ownAt, sizeLine_eq, fIter, itemsOf, fRange1, fRange2, eqX_int, eqX_str, fEnumA, fFrz, fNever, permOk, perm, fCallK, fCallP, gMax2, gMin2, gMax3, gMin3, fPar2, fMulti, putM, fAsgG, fLc, lcStep, lsStep, tYesF, gN, gT, gsCons, gsNil, b1__law_are_matches_right, o, o', e1, e2, e3, sm, hle]
  · rcases es with ⟨ht, es⟩ | ⟨rfl, rfl, rfl⟩
    · by_cases h1 : t = 1
      · subst h1
        simp [fnOf, fSeq, fNil, fSet, fRet, fDrop, fIf, fFgt, fgtO, fgt, fFor, fIfE, fT, fTru, truD, fAnd, fOr, fNot, fAndV, fOrV, fNotV, fOp2, fVar, fC, fB, fACons, fANil, fTup, fLst, fNeg, gRel, gInt2, gInt2C, gAdd, gMulX_int, gIx, gLen, gAbs, gInt, gEq, gIs, gIsNot, dv_dat, dv_lst, dv_al, dvs, own_dat, own_lst, own_bag, own_dcK, own_scr, flat_dat, flat_lst, Res.fin, frzs_nil, frzs_cons, frz_dat, intT_int, outs, als, argsOf, putArgs, fCall, eqv_int, shp_int, shp_none, shp_bool, noOwn, ownAt, sizeLine_eq, fIter, itemsOf, fRange1, fRange2, eqX_int, eqX_str, fEnumA, fFrz, fNever, permOk, perm, fCallK, fCallP, gMax2, gMin2, gMax3, gMin3, fPar2, fMulti, putM, fAsgG, fLc, lcStep, lsStep, tYesF, gN, gT, gsCons, gsNil, b1__law_are_matches_right, o, o', es, e1, e2, e3, sm, hle]
      · simp [fnOf, fSeq, fNil, fSet, fRet, fDrop, fIf, fFgt, fgtO, fgt, fFor, fIfE, fT, fTru, truD, fAnd, fOr, fNot, fAndV, fOrV, fNotV, fOp2, fVar, fC, fB, fACons, fANil, fTup, fLst, fNeg, gRel, gInt2, gInt2C, gAdd, gMulX_int, gIx, gLen, gAbs, gInt, gEq, gIs, gIsNot, dv_dat, dv_lst, dv_al, dvs, own_dat, own_lst, own_bag, own_dcK, own_scr, flat_dat, flat_lst, Res.fin, frzs_nil, frzs_cons, frz_dat, intT_int, outs, als, argsOf, putArgs, fCall, eqv_int, shp_int, shp_none, shp_bool, noOwn, ownAt, sizeLine_eq, fIter, itemsOf, fRange1, fRange2, eqX_int, eqX_str, fEnumA, fFrz, fNever, permOk, perm, fCallK, fCallP, gMax2, gMin2, gMax3, gMin3, fPar2, fMulti, putM, fAsgG, fLc, lcStep, lsStep, tYesF, gN, gT, gsCons, gsNil, b1__law_are_matches_right, o, o', es, e1, e2, e3, sm, hle, ht, h1]
    · omega
theorem matches_right {l : List Int} (h0 : 0 < l.length) (hz : l.length ≤ 1000) {B : MD} (hB : BagOk B) : ∃ B', F__law_are_matches_right [B, .dat (rowD l)] = some (.dat (.bool true), [some B', none]) ∧ BagOk B' := by
  obtain ⟨Γ', e1, B1, rfl, hB1⟩ := loopS_ok (tg := gN 3) (b := b1__law_are_matches_right) (items := (List.range 5).map fun (x : Nat) => PyData.int x) (Γ := [some B, some (.dat (rowD l)), some (.dat (.int l.length)), none, none, none, none])
    (P := fun _ Γ => ∃ B, Γ = [some B, some (.dat (rowD l)), some (.dat (.int l.length)), none, none, none, none] ∧ BagOk B) 0 ⟨B, rfl, hB⟩ (by
      rintro i d Γ hd ⟨B, rfl, hB⟩
      rw [List.getElem?_map] at hd
      obtain ⟨k, hk, rfl⟩ := Option.map_eq_some_iff.mp hd
      by_cases h : k = 0
      · subst h
        exact ⟨_, .inl (matches_step h0 hz hB.own hB.own (Int.le_refl 0) (.inr ⟨rfl, rfl, rfl⟩)), B, rfl, hB⟩
      · obtain ⟨s, B', es, hB', s0⟩ := shift_ok h0 hz hB
        exact ⟨_, .inl (matches_step h0 hz hB.own hB'.own s0 (.inl ⟨by omega, es⟩)), B', rfl, hB'⟩)
  have o := hB.own
  have o1 := hB1.own
  have r : rg1 5 = some ((List.range 5).map fun (x : Nat) => PyData.int x) := rg1_nat (p := 5) (by decide)
  generalize (List.range 5).map (fun (x : Nat) => PyData.int x) = R at e1 r
  exact ⟨B1, by simp [fnOf, fSeq, fNil, fSet, fRet, fDrop, fIf, fFgt, fgtO, fgt, fFor, fIfE, fT, fTru, truD, fAnd, fOr, fNot, fAndV, fOrV, fNotV, fOp2, fVar, fC, fB, fACons, fANil, fTup, fLst, fNeg, gRel, gInt2, gInt2C, gAdd, gMulX_int, gIx, gLen, gAbs, gInt, gEq, gIs, gIsNot, dv_dat, dv_lst, dv_al, dvs, own_dat, own_lst, own_bag, own_dcK, own_scr, flat_dat, flat_lst, Res.fin, frzs_nil, frzs_cons, frz_dat, intT_int, outs, als, argsOf, putArgs, fCall, eqv_int, shp_int, shp_none, shp_bool, noOwn, ownAt, sizeLine_eq, fIter, itemsOf, fRange1, fRange2, eqX_int, eqX_str, fEnumA, fFrz, fNever, permOk, perm, fCallK, fCallP, gMax2, gMin2, gMax3, gMin3, fPar2, fMulti, putM, fAsgG, fLc, F__law_are_matches_right, o, r, e1, o1], hB1⟩
/-! ### leans -/
theorem stretchL_sub {l : List Int} (hb : Bits l) {b e : Nat} (h1 : b ≤ e) (h2 : e ≤ l.length) : stretchL (sl l b e) ≤ stretchL l := by
  -- the sums ahead: highest, lowest
  have key : ∀ (m : List Int) (s : Int × Int × Int), s.2.1 ≤ (m.foldl stepL s).2.1 ∧ (m.foldl stepL s).2.2 ≤ s.2.2 := by
    intro m
    induction m with
    | nil => intro s; exact ⟨Int.le_refl _, Int.le_refl _⟩
    | cons x m ih =>
      intro s
      obtain ⟨k1, k2⟩ := ih (stepL s x)
      have a : s.2.1 ≤ (stepL s x).2.1 ∧ (stepL s x).2.2 ≤ s.2.2 := by
        simp only [stepL, maxL, minL]
        constructor <;> omega
      exact ⟨Int.le_trans a.1 k1, Int.le_trans k2 a.2⟩
  have shift : ∀ (m : List Int) (s t : Int × Int × Int), t.2.1 - t.1 ≤ s.2.1 - s.1 → s.2.2 - s.1 ≤ t.2.2 - t.1 → (m.foldl stepL t).2.1 - (m.foldl stepL t).1 ≤ (m.foldl stepL s).2.1 - (m.foldl stepL s).1 ∧ (m.foldl stepL s).2.2 - (m.foldl stepL s).1 ≤ (m.foldl stepL t).2.2 - (m.foldl stepL t).1 := by
    intro m
    induction m with
    | nil => intro s t a b; exact ⟨a, b⟩
    | cons x m ih =>
      intro s t a b
      refine ih (stepL s x) (stepL t x) ?_ ?_
      · simp only [stepL, maxL]
        omega
      · simp only [stepL, minL]
        omega
  have inv : ∀ (m : List Int) (s : Int × Int × Int), s.2.2 ≤ s.1 → s.1 ≤ s.2.1 → (m.foldl stepL s).2.2 ≤ (m.foldl stepL s).1 ∧ (m.foldl stepL s).1 ≤ (m.foldl stepL s).2.1 := by
    intro m
    induction m with
    | nil => intro s a b; exact ⟨a, b⟩
    | cons x m ih =>
      intro s a b
      refine ih (stepL s x) ?_ ?_
      · simp only [stepL, minL]
        omega
      · simp only [stepL, maxL]
        omega
  have e1 : l = l.take b ++ (sl l b e ++ l.drop e) := by
    unfold sl
    have : l.drop e = (l.drop b).drop (e - b) := by rw [List.drop_drop, show b + (e - b) = e by omega]
    rw [this, List.take_append_drop, List.take_append_drop]
  obtain ⟨i1, i2⟩ := inv (l.take b) (0, 0, 0) (Int.le_refl _) (Int.le_refl _)
  have sh := shift (sl l b e) ((l.take b).foldl stepL (0, 0, 0)) (0, 0, 0) (by show (0 : Int) - 0 ≤ _; omega) (by show _ ≤ (0 : Int) - 0; omega)
  have k := key (l.drop e) ((sl l b e).foldl stepL ((l.take b).foldl stepL (0, 0, 0)))
  have e2 : l.foldl stepL (0, 0, 0) = (l.drop e).foldl stepL ((sl l b e).foldl stepL ((l.take b).foldl stepL (0, 0, 0))) := by
    conv => lhs; rw [e1]
    rw [List.foldl_append, List.foldl_append]
  unfold stretchL
  rw [e2]
  omega
theorem sl_app (l : List Int) (b : Nat) (h : b ≤ l.length) : leanV (sl l 0 b) + leanV (sl l b l.length) = leanV l := by
  have e : l = sl l 0 b ++ sl l b l.length := by
    unfold sl
    rw [List.drop_zero, Nat.sub_zero, List.take_of_length_le (i := l.length - b) (by rw [List.length_drop]; exact Nat.le_refl _), List.take_append_drop]
  have h2 : leanV l = leanV (sl l 0 b ++ sl l b l.length) := by rw [← e]
  rw [h2]
  unfold leanV
  rw [List.sum_append, List.length_append]
  omega
theorem leans_right {l : List Int} (hb : Bits l) (hz : l.length ≤ 1000) {B : MD} (hB : BagOk B) : ∃ B', F__law_are_leans_right [B, .dat (rowD l)] = some (.dat (.bool true), [some B', none]) ∧ BagOk B' := by
  obtain ⟨b', B1, e1, hB1, b0, b1⟩ := draw hB (n := (l.length : Int) + 1) (by omega) (by omega)
  obtain ⟨b, hb1, rfl⟩ : ∃ b : Nat, b ≤ l.length ∧ b' = b := ⟨b'.toNat, by omega, by omega⟩
  obtain ⟨c, B2, e2, hB2, c0, c1⟩ := draw hB1 (n := (l.length : Int) - b + 1) (by omega) (by omega)
  obtain ⟨e, he1, he2, ee⟩ : ∃ e : Nat, b ≤ e ∧ e ≤ l.length ∧ (b : Int) + c = e := ⟨(b + c).toNat, by omega, by omega, by omega⟩
  have o := hB.own
  have o1 := hB1.own
  have o2 := hB2.own
  have sub : ∀ x y, Bits (sl l x y) := fun x y => hb.sub sl_sub
  have sz : ∀ x y, x ≤ y → y ≤ l.length → (sl l x y).length ≤ 1000 := fun x y h1 h2 => by rw [sl_len h1 h2]; omega
  have s1 := stretchL_ok hb
  have s2 := stretchL_ok (sub b e)
  have s3 := stretchP_ok l
  have s4 := stretchP_ok (sl l b e)
  rw [stretch_eq hb] at s3
  rw [stretch_eq (sub b e)] at s4
  have c1 := cut_sl he1 he2
  have q1 := same_int (stretchL l)
  have q2 := same_int (stretchL (sl l b e))
  have turn : ∀ x y : Nat, x ≤ y → y ≤ l.length → lsStep (gT 2 (gsCons (gN 7) (gsCons (gN 8) gsNil))) b1__law_are_leans_right (.tuple [.int x, .int y]) [some B2, some (.dat (rowD l)), some (.dat (.int l.length)), some (.dat (.int b)), some (.dat (.int e)), some (.dat (.int (stretchL l))), some (.dat (.int (stretchL (sl l b e)))), none, none, none, none, none] =
      some (.nx [some B2, some (.dat (rowD l)), some (.dat (.int l.length)), some (.dat (.int b)), some (.dat (.int e)), some (.dat (.int (stretchL l))), some (.dat (.int (stretchL (sl l b e)))), none, none, none, none, none]) := fun x y h1 h2 => by
    have k1 := lean_at_ok hb h1 h2 hz
    have k2 := law_lean_ok (sub x y) (sz x y h1 h2)
    have k3 := cut_sl (l := l) h1 h2
    have k4 := same_int (leanV (sl l x y))
    simp [fnOf, fSeq, fNil, fSet, fRet, fDrop, fIf, fFgt, fgtO, fgt, fFor, fIfE, fT, fTru, truD, fAnd, fOr, fNot, fAndV, fOrV, fNotV, fOp2, fVar, fC, fB, fACons, fANil, fTup, fLst, fNeg, gRel, gInt2, gInt2C, gAdd, gMulX_int, gIx, gLen, gAbs, gInt, gEq, gIs, gIsNot, dv_dat, dv_lst, dv_al, dvs, own_dat, own_lst, own_bag, own_dcK, own_scr, flat_dat, flat_lst, Res.fin, frzs_nil, frzs_cons, frz_dat, intT_int, outs, als, argsOf, putArgs, fCall, eqv_int, shp_int, shp_none, shp_bool, noOwn, ownAt, sizeLine_eq, fIter, itemsOf, fRange1, fRange2, eqX_int, eqX_str, fEnumA, fFrz, fNever, permOk, perm, fCallK, fCallP, gMax2, gMin2, gMax3, gMin3, fPar2, fMulti, putM, fAsgG, fLc, lcStep, lsStep, tYesF, gN, gT, gsCons, gsNil, b1__law_are_leans_right, fSlice, fOSo, dvS, gSl, k1, k2, k3, k4]
  have lp := loopS_all (tg := gT 2 (gsCons (gN 7) (gsCons (gN 8) gsNil))) (b := b1__law_are_leans_right) (g := fun p : Nat × Nat => .tuple [.int p.1, .int p.2]) (Γ := [some B2, some (.dat (rowD l)), some (.dat (.int l.length)), some (.dat (.int b)), some (.dat (.int e)), some (.dat (.int (stretchL l))), some (.dat (.int (stretchL (sl l b e)))), none, none, none, none, none])
    [(0, l.length), (0, 0), (l.length, l.length), (b, e), (b, b), (0, e), (b, l.length)] (by
      intro p hp
      simp at hp
      rcases hp with rfl | rfl | rfl | rfl | rfl | rfl | rfl <;> exact turn _ _ (by omega) (by omega))
  have a1 := lean_at_ok hb (b := 0) (e := b) (by omega) hb1 hz
  have a2 := lean_at_ok hb (b := b) (e := l.length) hb1 (Nat.le_refl _) hz
  have a3 := law_lean_ok (sub 0 b) (sz 0 b (by omega) hb1)
  have a4 := law_lean_ok (sub b l.length) (sz b l.length hb1 (Nat.le_refl _))
  have a5 := law_lean_ok hb hz
  have k0 : cutL (l.map PyData.int) none (some (b : Int)) = (sl l 0 b).map .int := by
    rw [cut_to _ _ (by simpa using hb1)]
    unfold sl
    simp
  have k1 : cutL (l.map PyData.int) (some (b : Int)) none = (sl l b l.length).map .int := by
    rw [cut_from _ _ (by simpa using hb1)]
    unfold sl
    rw [List.take_of_length_le (by rw [List.length_drop]; exact Nat.le_refl _), List.map_drop]
  have q3 : F__law_same 8 [.dat (.tuple [.int (leanV (sl l 0 b)), .int (leanV (sl l b l.length))]), .dat (.tuple [.int (leanV (sl l 0 b)), .int (leanV (sl l b l.length))])] = some (.dat (.bool true), [none, none]) :=
    same8 (ints_plain [leanV (sl l 0 b), leanV (sl l b l.length)] (by simp [sizeLine_eq])) (by decide)
  have q4 := sl_app l b hb1
  have q5 := stretchP_ok []
  have q6 := lean_at_ok (l := []) (b := 0) (e := 0) (fun _ h => nomatch h) (Nat.le_refl _) (Nat.le_refl _) (by decide)
  have q7 := same_int 0
  have q8 : stretchP [] = 0 := rfl
  have q9 : leanV (sl [] 0 0) = 0 := rfl
  rw [q8] at q5
  rw [q9] at q6
  have q10 := stretchL_sub hb he1 he2
  simp only [List.map, Int.natCast_zero, Int.cast_ofNat_Int, rowD] at q5 q6 lp a1
  refine ⟨B2, ?_, hB2⟩
  simp [fnOf, fSeq, fNil, fSet, fRet, fDrop, fIf, fFgt, fgtO, fgt, fFor, fIfE, fT, fTru, truD, fAnd, fOr, fNot, fAndV, fOrV, fNotV, fOp2, fVar, fC, fB, fACons, fANil, fTup, fLst, fNeg, gRel, gInt2, gInt2C, gAdd, gMulX_int, gIx, gLen, gAbs, gInt, gEq, gIs, gIsNot, dv_dat, dv_lst, dv_al, dvs, own_dat, own_lst, own_bag, own_dcK, own_scr, flat_dat, flat_lst, Res.fin, frzs_nil, frzs_cons, frz_dat, intT_int, outs, als, argsOf, putArgs, fCall, eqv_int, shp_int, shp_none, shp_bool, noOwn, ownAt, sizeLine_eq, fIter, itemsOf, fRange1, fRange2, eqX_int, eqX_str, fEnumA, fFrz, fNever, permOk, perm, fCallK, fCallP, gMax2, gMin2, gMax3, gMin3, fPar2, fMulti, putM, fAsgG, fLc, F__law_are_leans_right, fSlice, fOSo, fONo, dvS, gSl, o, o1, o2, e1, e2, ee, s1, s2, s3, s4, c1, q1, q2, lp, a1, a2, a3, a4, a5, k0, k1, q3, q4, q5, q6, q7, q10, gToT]
end Lw

end

/-! K43f: the errors of rows -/
noncomputable section
namespace Lw
open PySem PySem.Spec PyProof.Rows L2 Fx

def isBit : PyData → Bool
  | .int i => decide (i = 0 ∨ i = 1)
  | _ => false
theorem kit21 : kitB "dict" "int" = some false := by decide
def bitE (i : Int) : PyData := .tuple [.str "bit", .int i]
theorem re_step (V d : PyData) (i : Int) : lsStep (gT 2 (gsCons (gN 1) (gsCons (gN 2) gsNil))) b1_rows_error (.tuple [.int i, d]) [some (.dat V), none, none] =
    some (match (if isBit d = true then none else some (MD.dat (bitE i), [some (.dat V), some (.dat (.int i)), some (.dat d)]) : Option (MD × Gm)) with | none => .nx [some (.dat V), none, none] | some (m, Γ) => .rt m Γ) := by
  cases d with
  | int j =>
    by_cases h0 : j = 0
    · subst h0
      simp [fnOf, fSeq, fNil, fSet, fRet, fDrop, fIf, fFgt, fgtO, fgt, fFor, fIfE, fT, fTru, truD, fAnd, fOr, fNot, fAndV, fOrV, fNotV, fOp2, fVar, fC, fB, fACons, fANil, fTup, fLst, fNeg, gRel, gInt2, gInt2C, gAdd, gMulX_int, gIx, gLen, gAbs, gInt, gEq, gIs, gIsNot, dv_dat, dv_lst, dv_al, dvs, own_dat, own_lst, own_bag, own_dcK, own_scr, flat_dat, flat_lst, Res.fin, frzs_nil, frzs_cons, frz_dat, intT_int, outs, als, argsOf, putArgs, fCall, eqv_int, shp_int, shp_none, shp_bool, noOwn, ownAt, sizeLine_eq, fIter, itemsOf, fRange1, fRange2, eqX_int, eqX_str, fEnumA, fFrz, fNever, permOk, perm, fCallK, fCallP, gMax2, gMin2, gMax3, gMin3, fPar2, fMulti, putM, fAsgG, fLc, lcStep, lsStep, tYesF, gN, gT, gsCons, gsNil, b1_rows_error, fIsi, tyN, kit7, kit8, gIn, flatD, eqF, isBit]
    · by_cases h1 : j = 1
      · subst h1
        simp [fnOf, fSeq, fNil, fSet, fRet, fDrop, fIf, fFgt, fgtO, fgt, fFor, fIfE, fT, fTru, truD, fAnd, fOr, fNot, fAndV, fOrV, fNotV, fOp2, fVar, fC, fB, fACons, fANil, fTup, fLst, fNeg, gRel, gInt2, gInt2C, gAdd, gMulX_int, gIx, gLen, gAbs, gInt, gEq, gIs, gIsNot, dv_dat, dv_lst, dv_al, dvs, own_dat, own_lst, own_bag, own_dcK, own_scr, flat_dat, flat_lst, Res.fin, frzs_nil, frzs_cons, frz_dat, intT_int, outs, als, argsOf, putArgs, fCall, eqv_int, shp_int, shp_none, shp_bool, noOwn, ownAt, sizeLine_eq, fIter, itemsOf, fRange1, fRange2, eqX_int, eqX_str, fEnumA, fFrz, fNever, permOk, perm, fCallK, fCallP, gMax2, gMin2, gMax3, gMin3, fPar2, fMulti, putM, fAsgG, fLc, lcStep, lsStep, tYesF, gN, gT, gsCons, gsNil, b1_rows_error, fIsi, tyN, kit7, kit8, gIn, flatD, eqF, isBit]
      · have h0' : ¬ 0 = j := fun z => h0 z.symm
        have h1' : ¬ 1 = j := fun z => h1 z.symm
        simp [fnOf, fSeq, fNil, fSet, fRet, fDrop, fIf, fFgt, fgtO, fgt, fFor, fIfE, fT, fTru, truD, fAnd, fOr, fNot, fAndV, fOrV, fNotV, fOp2, fVar, fC, fB, fACons, fANil, fTup, fLst, fNeg, gRel, gInt2, gInt2C, gAdd, gMulX_int, gIx, gLen, gAbs, gInt, gEq, gIs, gIsNot, dv_dat, dv_lst, dv_al, dvs, own_dat, own_lst, own_bag, own_dcK, own_scr, flat_dat, flat_lst, Res.fin, frzs_nil, frzs_cons, frz_dat, intT_int, outs, als, argsOf, putArgs, fCall, eqv_int, shp_int, shp_none, shp_bool, noOwn, ownAt, sizeLine_eq, fIter, itemsOf, fRange1, fRange2, eqX_int, eqX_str, fEnumA, fFrz, fNever, permOk, perm, fCallK, fCallP, gMax2, gMin2, gMax3, gMin3, fPar2, fMulti, putM, fAsgG, fLc, lcStep, lsStep, tYesF, gN, gT, gsCons, gsNil, b1_rows_error, fIsi, tyN, kit7, kit8, gIn, flatD, eqF, isBit, h0, h1, h0', h1', bitE]
  | bool b => simp [fnOf, fSeq, fNil, fSet, fRet, fDrop, fIf, fFgt, fgtO, fgt, fFor, fIfE, fT, fTru, truD, fAnd, fOr, fNot, fAndV, fOrV, fNotV, fOp2, fVar, fC, fB, fACons, fANil, fTup, fLst, fNeg, gRel, gInt2, gInt2C, gAdd, gMulX_int, gIx, gLen, gAbs, gInt, gEq, gIs, gIsNot, dv_dat, dv_lst, dv_al, dvs, own_dat, own_lst, own_bag, own_dcK, own_scr, flat_dat, flat_lst, Res.fin, frzs_nil, frzs_cons, frz_dat, intT_int, outs, als, argsOf, putArgs, fCall, eqv_int, shp_int, shp_none, shp_bool, noOwn, ownAt, sizeLine_eq, fIter, itemsOf, fRange1, fRange2, eqX_int, eqX_str, fEnumA, fFrz, fNever, permOk, perm, fCallK, fCallP, gMax2, gMin2, gMax3, gMin3, fPar2, fMulti, putM, fAsgG, fLc, lcStep, lsStep, tYesF, gN, gT, gsCons, gsNil, b1_rows_error, fIsi, tyN, kit16, kit17, isBit, bitE]
  | none => simp [fnOf, fSeq, fNil, fSet, fRet, fDrop, fIf, fFgt, fgtO, fgt, fFor, fIfE, fT, fTru, truD, fAnd, fOr, fNot, fAndV, fOrV, fNotV, fOp2, fVar, fC, fB, fACons, fANil, fTup, fLst, fNeg, gRel, gInt2, gInt2C, gAdd, gMulX_int, gIx, gLen, gAbs, gInt, gEq, gIs, gIsNot, dv_dat, dv_lst, dv_al, dvs, own_dat, own_lst, own_bag, own_dcK, own_scr, flat_dat, flat_lst, Res.fin, frzs_nil, frzs_cons, frz_dat, intT_int, outs, als, argsOf, putArgs, fCall, eqv_int, shp_int, shp_none, shp_bool, noOwn, ownAt, sizeLine_eq, fIter, itemsOf, fRange1, fRange2, eqX_int, eqX_str, fEnumA, fFrz, fNever, permOk, perm, fCallK, fCallP, gMax2, gMin2, gMax3, gMin3, fPar2, fMulti, putM, fAsgG, fLc, lcStep, lsStep, tYesF, gN, gT, gsCons, gsNil, b1_rows_error, fIsi, tyN, kit15, isBit, bitE]
  | str x => simp [fnOf, fSeq, fNil, fSet, fRet, fDrop, fIf, fFgt, fgtO, fgt, fFor, fIfE, fT, fTru, truD, fAnd, fOr, fNot, fAndV, fOrV, fNotV, fOp2, fVar, fC, fB, fACons, fANil, fTup, fLst, fNeg, gRel, gInt2, gInt2C, gAdd, gMulX_int, gIx, gLen, gAbs, gInt, gEq, gIs, gIsNot, dv_dat, dv_lst, dv_al, dvs, own_dat, own_lst, own_bag, own_dcK, own_scr, flat_dat, flat_lst, Res.fin, frzs_nil, frzs_cons, frz_dat, intT_int, outs, als, argsOf, putArgs, fCall, eqv_int, shp_int, shp_none, shp_bool, noOwn, ownAt, sizeLine_eq, fIter, itemsOf, fRange1, fRange2, eqX_int, eqX_str, fEnumA, fFrz, fNever, permOk, perm, fCallK, fCallP, gMax2, gMin2, gMax3, gMin3, fPar2, fMulti, putM, fAsgG, fLc, lcStep, lsStep, tYesF, gN, gT, gsCons, gsNil, b1_rows_error, fIsi, tyN, kit14, isBit, bitE]
  | list ds => simp [fnOf, fSeq, fNil, fSet, fRet, fDrop, fIf, fFgt, fgtO, fgt, fFor, fIfE, fT, fTru, truD, fAnd, fOr, fNot, fAndV, fOrV, fNotV, fOp2, fVar, fC, fB, fACons, fANil, fTup, fLst, fNeg, gRel, gInt2, gInt2C, gAdd, gMulX_int, gIx, gLen, gAbs, gInt, gEq, gIs, gIsNot, dv_dat, dv_lst, dv_al, dvs, own_dat, own_lst, own_bag, own_dcK, own_scr, flat_dat, flat_lst, Res.fin, frzs_nil, frzs_cons, frz_dat, intT_int, outs, als, argsOf, putArgs, fCall, eqv_int, shp_int, shp_none, shp_bool, noOwn, ownAt, sizeLine_eq, fIter, itemsOf, fRange1, fRange2, eqX_int, eqX_str, fEnumA, fFrz, fNever, permOk, perm, fCallK, fCallP, gMax2, gMin2, gMax3, gMin3, fPar2, fMulti, putM, fAsgG, fLc, lcStep, lsStep, tYesF, gN, gT, gsCons, gsNil, b1_rows_error, fIsi, tyN, kit18, isBit, bitE]
  | tuple ds => simp [fnOf, fSeq, fNil, fSet, fRet, fDrop, fIf, fFgt, fgtO, fgt, fFor, fIfE, fT, fTru, truD, fAnd, fOr, fNot, fAndV, fOrV, fNotV, fOp2, fVar, fC, fB, fACons, fANil, fTup, fLst, fNeg, gRel, gInt2, gInt2C, gAdd, gMulX_int, gIx, gLen, gAbs, gInt, gEq, gIs, gIsNot, dv_dat, dv_lst, dv_al, dvs, own_dat, own_lst, own_bag, own_dcK, own_scr, flat_dat, flat_lst, Res.fin, frzs_nil, frzs_cons, frz_dat, intT_int, outs, als, argsOf, putArgs, fCall, eqv_int, shp_int, shp_none, shp_bool, noOwn, ownAt, sizeLine_eq, fIter, itemsOf, fRange1, fRange2, eqX_int, eqX_str, fEnumA, fFrz, fNever, permOk, perm, fCallK, fCallP, gMax2, gMin2, gMax3, gMin3, fPar2, fMulti, putM, fAsgG, fLc, lcStep, lsStep, tYesF, gN, gT, gsCons, gsNil, b1_rows_error, fIsi, tyN, kit12, isBit, bitE]
  | dict ds => simp [fnOf, fSeq, fNil, fSet, fRet, fDrop, fIf, fFgt, fgtO, fgt, fFor, fIfE, fT, fTru, truD, fAnd, fOr, fNot, fAndV, fOrV, fNotV, fOp2, fVar, fC, fB, fACons, fANil, fTup, fLst, fNeg, gRel, gInt2, gInt2C, gAdd, gMulX_int, gIx, gLen, gAbs, gInt, gEq, gIs, gIsNot, dv_dat, dv_lst, dv_al, dvs, own_dat, own_lst, own_bag, own_dcK, own_scr, flat_dat, flat_lst, Res.fin, frzs_nil, frzs_cons, frz_dat, intT_int, outs, als, argsOf, putArgs, fCall, eqv_int, shp_int, shp_none, shp_bool, noOwn, ownAt, sizeLine_eq, fIter, itemsOf, fRange1, fRange2, eqX_int, eqX_str, fEnumA, fFrz, fNever, permOk, perm, fCallK, fCallP, gMax2, gMin2, gMax3, gMin3, fPar2, fMulti, putM, fAsgG, fLc, lcStep, lsStep, tYesF, gN, gT, gsCons, gsNil, b1_rows_error, fIsi, tyN, kit21, isBit, bitE]
def badP (V : PyData) (q : PyData × Nat) : Option (MD × Gm) := if isBit q.1 = true then none else some (MD.dat (bitE q.2), [some (.dat V), some (.dat (.int q.2)), some (.dat q.1)])
theorem re_loop (ds : List PyData) (V : PyData) : loopS (gT 2 (gsCons (gN 1) (gsCons (gN 2) gsNil))) b1_rows_error (enumD ds) [some (.dat V), none, none] = some (match ds.zipIdx.findSome? (badP V) with | none => .nx [some (.dat V), none, none] | some (m, Γ) => .rt m Γ) :=
  loopS_find (g := fun p : PyData × Nat => .tuple [.int (p.2 : Nat), p.1]) ds.zipIdx fun p _ => re_step V p.1 (p.2 : Nat)
theorem re_bits {ds : List PyData} (h : ∀ d ∈ ds, isBit d = true) (hl : ds.length ≤ 256) : F_rows_error [.dat (.tuple ds)] = some (.dat .none, [none]) := by
  have e := re_loop ds (.tuple ds)
  have e2 : ds.zipIdx.findSome? (badP (.tuple ds)) = none := by
    rw [List.findSome?_eq_none_iff]
    rintro ⟨d, i⟩ hd
    have := h d (List.fst_mem_of_mem_zipIdx hd)
    simp [badP, this]
  rw [e2] at e
  have hl' : ¬ (256 : Int) < ds.length := by omega
  simp [fnOf, fSeq, fNil, fSet, fRet, fDrop, fIf, fFgt, fgtO, fgt, fFor, fIfE, fT, fTru, truD, fAnd, fOr, fNot, fAndV, fOrV, fNotV, fOp2, fVar, fC, fB, fACons, fANil, fTup, fLst, fNeg, gRel, gInt2, gInt2C, gAdd, gMulX_int, gIx, gLen, gAbs, gInt, gEq, gIs, gIsNot, dv_dat, dv_lst, dv_al, dvs, own_dat, own_lst, own_bag, own_dcK, own_scr, flat_dat, flat_lst, Res.fin, frzs_nil, frzs_cons, frz_dat, intT_int, outs, als, argsOf, putArgs, fCall, eqv_int, shp_int, shp_none, shp_bool, noOwn, ownAt, sizeLine_eq, fIter, itemsOf, fRange1, fRange2, eqX_int, eqX_str, fEnumA, fFrz, fNever, permOk, perm, fCallK, fCallP, gMax2, gMin2, gMax3, gMin3, fPar2, fMulti, putM, fAsgG, fLc, F_rows_error, fIsi, tyN, kit1, hl', e]
theorem re_bad {pre post : List PyData} {x : PyData} (h : ∀ d ∈ pre, isBit d = true) (hx : isBit x = false) (hl : (pre ++ x :: post).length ≤ 256) : F_rows_error [.dat (.tuple (pre ++ x :: post))] = some (.dat (bitE pre.length), [none]) := by
  have e := re_loop (pre ++ x :: post) (.tuple (pre ++ x :: post))
  have e2 : (pre ++ x :: post).zipIdx.findSome? (badP (.tuple (pre ++ x :: post))) = some (MD.dat (bitE pre.length), [some (.dat (.tuple (pre ++ x :: post))), some (.dat (.int pre.length)), some (.dat x)]) := by
    rw [List.zipIdx_append, List.findSome?_append]
    have e3 : pre.zipIdx.findSome? (badP (.tuple (pre ++ x :: post))) = none := by
      rw [List.findSome?_eq_none_iff]
      rintro ⟨d, i⟩ hd
      have := h d (List.fst_mem_of_mem_zipIdx hd)
      simp [badP, this]
    rw [e3, List.zipIdx_cons, List.findSome?_cons]
    simp [badP, hx]
  rw [e2] at e
  have hl' : ¬ (256 : Int) < (pre ++ x :: post).length := by omega
  generalize hW : pre ++ x :: post = W at e hl' hl
  simp [fnOf, fSeq, fNil, fSet, fRet, fDrop, fIf, fFgt, fgtO, fgt, fFor, fIfE, fT, fTru, truD, fAnd, fOr, fNot, fAndV, fOrV, fNotV, fOp2, fVar, fC, fB, fACons, fANil, fTup, fLst, fNeg, gRel, gInt2, gInt2C, gAdd, gMulX_int, gIx, gLen, gAbs, gInt, gEq, gIs, gIsNot, dv_dat, dv_lst, dv_al, dvs, own_dat, own_lst, own_bag, own_dcK, own_scr, flat_dat, flat_lst, Res.fin, frzs_nil, frzs_cons, frz_dat, intT_int, outs, als, argsOf, putArgs, fCall, eqv_int, shp_int, shp_none, shp_bool, noOwn, ownAt, sizeLine_eq, fIter, itemsOf, fRange1, fRange2, eqX_int, eqX_str, fEnumA, fFrz, fNever, permOk, perm, fCallK, fCallP, gMax2, gMin2, gMax3, gMin3, fPar2, fMulti, putM, fAsgG, fLc, F_rows_error, fIsi, tyN, kit1, hl', e]
theorem re_many {ds : List PyData} (hl : 256 < ds.length) : F_rows_error [.dat (.tuple ds)] = some (.dat (.str "many"), [none]) := by
  have hl' : (256 : Int) < ds.length := by omega
  simp [fnOf, fSeq, fNil, fSet, fRet, fDrop, fIf, fFgt, fgtO, fgt, fFor, fIfE, fT, fTru, truD, fAnd, fOr, fNot, fAndV, fOrV, fNotV, fOp2, fVar, fC, fB, fACons, fANil, fTup, fLst, fNeg, gRel, gInt2, gInt2C, gAdd, gMulX_int, gIx, gLen, gAbs, gInt, gEq, gIs, gIsNot, dv_dat, dv_lst, dv_al, dvs, own_dat, own_lst, own_bag, own_dcK, own_scr, flat_dat, flat_lst, Res.fin, frzs_nil, frzs_cons, frz_dat, intT_int, outs, als, argsOf, putArgs, fCall, eqv_int, shp_int, shp_none, shp_bool, noOwn, ownAt, sizeLine_eq, fIter, itemsOf, fRange1, fRange2, eqX_int, eqX_str, fEnumA, fFrz, fNever, permOk, perm, fCallK, fCallP, gMax2, gMin2, gMax3, gMin3, fPar2, fMulti, putM, fAsgG, fLc, F_rows_error, fIsi, tyN, kit1, hl']
theorem re_list (ds : List PyData) : F_rows_error [.dat (.list ds)] = some (.dat (.str "form"), [none]) := by simp [fnOf, fSeq, fNil, fSet, fRet, fDrop, fIf, fFgt, fgtO, fgt, fFor, fIfE, fT, fTru, truD, fAnd, fOr, fNot, fAndV, fOrV, fNotV, fOp2, fVar, fC, fB, fACons, fANil, fTup, fLst, fNeg, gRel, gInt2, gInt2C, gAdd, gMulX_int, gIx, gLen, gAbs, gInt, gEq, gIs, gIsNot, dv_dat, dv_lst, dv_al, dvs, own_dat, own_lst, own_bag, own_dcK, own_scr, flat_dat, flat_lst, Res.fin, frzs_nil, frzs_cons, frz_dat, intT_int, outs, als, argsOf, putArgs, fCall, eqv_int, shp_int, shp_none, shp_bool, noOwn, ownAt, sizeLine_eq, fIter, itemsOf, fRange1, fRange2, eqX_int, eqX_str, fEnumA, fFrz, fNever, permOk, perm, fCallK, fCallP, gMax2, gMin2, gMax3, gMin3, fPar2, fMulti, putM, fAsgG, fLc, F_rows_error, fIsi, tyN, kit19]
theorem re_none : F_rows_error [.dat .none] = some (.dat (.str "form"), [none]) := by simp [fnOf, fSeq, fNil, fSet, fRet, fDrop, fIf, fFgt, fgtO, fgt, fFor, fIfE, fT, fTru, truD, fAnd, fOr, fNot, fAndV, fOrV, fNotV, fOp2, fVar, fC, fB, fACons, fANil, fTup, fLst, fNeg, gRel, gInt2, gInt2C, gAdd, gMulX_int, gIx, gLen, gAbs, gInt, gEq, gIs, gIsNot, dv_dat, dv_lst, dv_al, dvs, own_dat, own_lst, own_bag, own_dcK, own_scr, flat_dat, flat_lst, Res.fin, frzs_nil, frzs_cons, frz_dat, intT_int, outs, als, argsOf, putArgs, fCall, eqv_int, shp_int, shp_none, shp_bool, noOwn, ownAt, sizeLine_eq, fIter, itemsOf, fRange1, fRange2, eqX_int, eqX_str, fEnumA, fFrz, fNever, permOk, perm, fCallK, fCallP, gMax2, gMin2, gMax3, gMin3, fPar2, fMulti, putM, fAsgG, fLc, F_rows_error, fIsi, tyN, kit4]
theorem re_int (i : Int) : F_rows_error [.dat (.int i)] = some (.dat (.str "form"), [none]) := by simp [fnOf, fSeq, fNil, fSet, fRet, fDrop, fIf, fFgt, fgtO, fgt, fFor, fIfE, fT, fTru, truD, fAnd, fOr, fNot, fAndV, fOrV, fNotV, fOp2, fVar, fC, fB, fACons, fANil, fTup, fLst, fNeg, gRel, gInt2, gInt2C, gAdd, gMulX_int, gIx, gLen, gAbs, gInt, gEq, gIs, gIsNot, dv_dat, dv_lst, dv_al, dvs, own_dat, own_lst, own_bag, own_dcK, own_scr, flat_dat, flat_lst, Res.fin, frzs_nil, frzs_cons, frz_dat, intT_int, outs, als, argsOf, putArgs, fCall, eqv_int, shp_int, shp_none, shp_bool, noOwn, ownAt, sizeLine_eq, fIter, itemsOf, fRange1, fRange2, eqX_int, eqX_str, fEnumA, fFrz, fNever, permOk, perm, fCallK, fCallP, gMax2, gMin2, gMax3, gMin3, fPar2, fMulti, putM, fAsgG, fLc, F_rows_error, fIsi, tyN, kit2]
theorem re_str (x : Str) : F_rows_error [.dat (.str x)] = some (.dat (.str "form"), [none]) := by simp [fnOf, fSeq, fNil, fSet, fRet, fDrop, fIf, fFgt, fgtO, fgt, fFor, fIfE, fT, fTru, truD, fAnd, fOr, fNot, fAndV, fOrV, fNotV, fOp2, fVar, fC, fB, fACons, fANil, fTup, fLst, fNeg, gRel, gInt2, gInt2C, gAdd, gMulX_int, gIx, gLen, gAbs, gInt, gEq, gIs, gIsNot, dv_dat, dv_lst, dv_al, dvs, own_dat, own_lst, own_bag, own_dcK, own_scr, flat_dat, flat_lst, Res.fin, frzs_nil, frzs_cons, frz_dat, intT_int, outs, als, argsOf, putArgs, fCall, eqv_int, shp_int, shp_none, shp_bool, noOwn, ownAt, sizeLine_eq, fIter, itemsOf, fRange1, fRange2, eqX_int, eqX_str, fEnumA, fFrz, fNever, permOk, perm, fCallK, fCallP, gMax2, gMin2, gMax3, gMin3, fPar2, fMulti, putM, fAsgG, fLc, F_rows_error, fIsi, tyN, kit3]
theorem re_dict : F_rows_error [.dat (.dict [])] = some (.dat (.str "form"), [none]) := by simp [fnOf, fSeq, fNil, fSet, fRet, fDrop, fIf, fFgt, fgtO, fgt, fFor, fIfE, fT, fTru, truD, fAnd, fOr, fNot, fAndV, fOrV, fNotV, fOp2, fVar, fC, fB, fACons, fANil, fTup, fLst, fNeg, gRel, gInt2, gInt2C, gAdd, gMulX_int, gIx, gLen, gAbs, gInt, gEq, gIs, gIsNot, dv_dat, dv_lst, dv_al, dvs, own_dat, own_lst, own_bag, own_dcK, own_scr, flat_dat, flat_lst, Res.fin, frzs_nil, frzs_cons, frz_dat, intT_int, outs, als, argsOf, putArgs, fCall, eqv_int, shp_int, shp_none, shp_bool, noOwn, ownAt, sizeLine_eq, fIter, itemsOf, fRange1, fRange2, eqX_int, eqX_str, fEnumA, fFrz, fNever, permOk, perm, fCallK, fCallP, gMax2, gMin2, gMax3, gMin3, fPar2, fMulti, putM, fAsgG, fLc, F_rows_error, fIsi, tyN, kit20]

/-- a value, what is told of it; repr tells of it -/
def ErrOk (d : PyData) : Prop := ∃ v due s, d = .tuple [v, due] ∧ F_rows_error [.dat v] = some (.dat due, [none]) ∧ gReprX [v] = some (.val (.str s)) ∧ Plain 2 due
theorem plS (x : Str) (h1 : x.length ≤ sizeLine := by decide +kernel) (h2 : shp (.str x) = true := by decide +kernel) (h3 : PyData.eqv (.str x) (.str x) = true := by decide +kernel) : Plain 1 (.str x) := .str _ _ h1 h2 h3
theorem plForm : Plain 2 (.str "form") := plain_up (by decide) (plS "form")
theorem plMany : Plain 2 (.str "many") := plain_up (by decide) (plS "many")
theorem plBit (i : Int) : Plain 2 (bitE i) := .tup _ _ (by simp [sizeLine_eq]) fun d hd => by
  simp at hd
  rcases hd with rfl | rfl
  · exact plS "bit"
  · exact .int _ _
theorem bit_rp {b : Int} (h : b = 0 ∨ b = 1) : Rp 0 1 (.int b) := .small (Nat.lt_of_lt_of_le (by omega) big64)
theorem bits_rp {l : List Int} (h : Bits l) : ∀ d ∈ l.map PyData.int, Rp 0 1 d := fun d hd => by
  obtain ⟨b, hb, rfl⟩ := List.mem_map.mp hd
  exact bit_rp (h b hb)
theorem bits_is {l : List Int} (h : Bits l) : ∀ d ∈ l.map PyData.int, isBit d = true := fun d hd => by
  obtain ⟨b, hb, rfl⟩ := List.mem_map.mp hd
  have := h b hb
  simpa [isBit] using this
theorem put_ok (ds : List PyData) {a : Nat} (h : a < ds.length) (hz : ds.length ≤ 1000) (x : PyData) : F__law_put [.dat (.tuple ds), .dat (.int a), .dat x] = some (.dat (.tuple (ds.take a ++ x :: ds.drop (a + 1))), [none, none, none]) := by
  have c1 := cut_to ds a (by omega)
  have c2 := cut_from ds (a + 1) (by omega)
  have c2' : cutL ds (some ((a : Int) + 1)) none = ds.drop (a + 1) := c2
  have l1 : (ds.take a).length ≤ 1000 := by rw [List.length_take]; omega
  have l2 : (ds.drop (a + 1)).length ≤ 1000 := by rw [List.length_drop]; omega
  generalize ds.take a = T at *
  generalize ds.drop (a + 1) = D at *
  have k1 : T.length ≤ 16777215 := by omega
  have k3 : T.length + 1 + D.length ≤ 16777216 := by omega
  simp [fnOf, fSeq, fNil, fSet, fRet, fDrop, fIf, fFgt, fgtO, fgt, fFor, fIfE, fT, fTru, truD, fAnd, fOr, fNot, fAndV, fOrV, fNotV, fOp2, fVar, fC, fB, fACons, fANil, fTup, fLst, fNeg, gRel, gInt2, gInt2C, gAdd, gMulX_int, gIx, gLen, gAbs, gInt, gEq, gIs, gIsNot, dv_dat, dv_lst, dv_al, dvs, own_dat, own_lst, own_bag, own_dcK, own_scr, flat_dat, flat_lst, Res.fin, frzs_nil, frzs_cons, frz_dat, intT_int, outs, als, argsOf, putArgs, fCall, eqv_int, shp_int, shp_none, shp_bool, noOwn, ownAt, sizeLine_eq, fIter, itemsOf, fRange1, fRange2, eqX_int, eqX_str, fEnumA, fFrz, fNever, permOk, perm, fCallK, fCallP, gMax2, gMin2, gMax3, gMin3, fPar2, fMulti, putM, fAsgG, fLc, F__law_put, fSlice, fONo, fOSo, dvS, gSl, c1, c2', k1, k3]
end Lw

end

/-! K43g: the errors judged, rows that are drawn, the law -/
noncomputable section
namespace Lw
open PySem PySem.Spec PyProof.Rows L2 Fx

def Er0 : FS := (fSet 2 2 (fCall F__law_draw (fACons (fVar 0) (fACons (fC (.int 2)) fANil))))
def Er1 : FS := (fSet 2 3 (fSlice false (fOp2 gAdd false (fOp2 gMulX false (fVar 1) (fC (.int 256))) (fOp2 gMulX false (fTup (fACons (fVar 2) fANil)) (fC (.int 256)))) fONo (fOSo (fC (.int 256)))))
def Er2 : FS := (fSet 2 4 (fLst true (fACons (fTup (fACons (fVar 1) (fACons (fC .none) fANil))) (fACons (fTup (fACons (fTup fANil) (fACons (fC .none) fANil))) (fACons (fTup (fACons (fVar 3) (fACons (fC .none) fANil))) (fACons (fTup (fACons (fB gToL false (fACons (fVar 1) fANil)) (fACons (fC (.str "form")) fANil))) (fACons (fTup (fACons (fC .none) (fACons (fC (.str "form")) fANil))) (fACons (fTup (fACons (fVar 2) (fACons (fC (.str "form")) fANil))) (fACons (fTup (fACons (fC (.str "01")) (fACons (fC (.str "form")) fANil))) fANil)))))))))
def Er3 : FS := (fDrop (fExtend 4 (fLst false (fACons (fTup (fACons (fOp2 gAdd false (fVar 3) (fTup (fACons (fVar 2) fANil))) (fACons (fC (.str "many")) fANil))) (fACons (fTup (fACons (fOp2 gAdd false (fSlice false (fVar 3) fONo (fOSo (fC (.int 255)))) (fTup (fACons (fC (.int 2)) (fACons (fVar 2) fANil)))) (fACons (fC (.str "many")) fANil))) (fACons (fTup (fACons (fOp2 gAdd false (fB gToL false (fACons (fVar 3) fANil)) (fLst false (fACons (fVar 2) fANil))) (fACons (fC (.str "form")) fANil))) fANil))))))
def Er4 : FS := (fDrop (fAppend 4 (fTup (fACons (fFrzE fDNewK) (fACons (fC (.str "form")) fANil)))))
def Er5 : FS := (fDrop (fExtend 4 (fLst false (fACons (fTup (fACons (fOp2 gAdd false (fSlice false (fVar 3) fONo (fOSo (fC (.int 255)))) (fTup (fACons (fC (.int 2)) fANil))) (fACons (fTup (fACons (fC (.str "bit")) (fACons (fC (.int 255)) fANil))) fANil))) (fACons (fTup (fACons (fOp2 gMulX false (fTup (fACons (fC .none) fANil)) (fC (.int 257))) (fACons (fC (.str "many")) fANil))) (fACons (fTup (fACons (fTup (fACons (fVar 3) (fACons (fVar 3) fANil))) (fACons (fTup (fACons (fC (.str "bit")) (fACons (fC (.int 0)) fANil))) fANil))) fANil))))))
def Er6 : FS := (fIf (fT (fOp2 (gEqX true) false (fVar 1) (fTup fANil))) (fSeq (fPar2 2 5 6 (fOp2 gSub false (fB gLen false (fACons (fVar 1) fANil)) (fC (.int 1))) (fCall F__law_draw (fACons (fVar 0) (fACons (fB gLen false (fACons (fVar 1) fANil)) fANil)))) (fSeq (fFor (fIter (fLst false (fACons (fC (.int 2)) (fACons (fNeg (fC (.int 1))) (fACons (fC (.bool true)) (fACons (fC (.bool false)) (fACons (fC .none) (fACons (fC (.str "0")) (fACons (fC (.str "1")) (fACons (fTup fANil) (fACons (fTup (fACons (fC (.int 0)) fANil)) (fACons (fLst false (fACons (fC (.int 1)) fANil)) (fACons (fOp2 gAdd false (fC (.int 2)) (fCall F__law_draw (fACons (fVar 0) (fACons (fC (.int 998)) fANil)))) (fACons (fOp2 gPow false (fC (.int 10)) (fC (.int 30))) (fACons (fFrzE fDNewK) fANil))))))))))))))) (gN 7) b1__law_are_errors_right) (fIf (fT (fOp2 gLt false (fVar 5) (fC (.int 255)))) (fDrop (fAppend 4 (fTup (fACons (fOp2 gAdd false (fVar 1) (fTup (fACons (fC (.int 2)) fANil))) (fACons (fTup (fACons (fC (.str "bit")) (fACons (fOp2 gAdd false (fVar 5) (fC (.int 1))) fANil))) fANil))))) fNil))) fNil)
def Er7 : FS := (fFrz 4 (fSeq (fFor (fEnumA (fVar 4)) (gT 2 (gsCons (gN 8) (gsCons (gT 2 (gsCons (gN 9) (gsCons (gN 10) gsNil))) gsNil))) b2__law_are_errors_right) (fRet 2 true (fC (.bool true)))))
theorem Er_is : F__law_are_errors_right = fnOf 2 13 (fSeq Er0 (fSeq Er1 (fSeq Er2 (fSeq Er3 (fSeq Er4 (fSeq Er5 (fSeq Er6 Er7))))))) := rfl
theorem seq_nx {a b : FS} {Γ Γ1 : Gm} (h : a Γ = some (.nx Γ1)) : fSeq a b Γ = b Γ1 := by simp [fSeq, h]
theorem rep_len {α : Type} (n : Nat) (l : List α) : (List.replicate n l).flatten.length = n * l.length := by
  induction n with
  | zero => simp
  | succ n ih => rw [List.replicate_succ, List.flatten_cons, List.length_append, ih, Nat.add_mul]; omega
theorem fullN {l : List Int} (hb : Bits l) {c : Int} (hc : c = 0 ∨ c = 1) (n : Nat) : Bits ((List.replicate n l).flatten ++ (List.replicate n [c]).flatten) ∧ ((List.replicate n l).flatten ++ (List.replicate n [c]).flatten).length = n * l.length + n ∧
    (List.replicate n (l.map PyData.int)).flatten ++ (List.replicate n [PyData.int c]).flatten = ((List.replicate n l).flatten ++ (List.replicate n [c]).flatten).map .int := by
  refine ⟨?_, ?_, ?_⟩
  · intro x hx
    rcases List.mem_append.mp hx with h | h
    · obtain ⟨m, hm, hx⟩ := List.mem_flatten.mp h
      rw [List.eq_of_mem_replicate hm] at hx
      exact hb x hx
    · obtain ⟨m, hm, hx⟩ := List.mem_flatten.mp h
      rw [List.eq_of_mem_replicate hm] at hx
      rw [List.mem_singleton.mp hx]
      exact hc
  · rw [List.length_append, rep_len, rep_len, List.length_singleton, Nat.mul_one]
  · rw [List.map_append, List.map_flatten, List.map_flatten, List.map_replicate, List.map_replicate]
    rfl
theorem fullL {l : List Int} (hb : Bits l) (hz : l.length ≤ 256) {c : Int} (hc : c = 0 ∨ c = 1) : ∃ L : List Int, Bits L ∧ 256 ≤ L.length ∧ L.length ≤ 100000 ∧
    (List.replicate 256 (l.map PyData.int)).flatten ++ (List.replicate 256 [PyData.int c]).flatten = L.map .int := by
  obtain ⟨h1, h2, h3⟩ := fullN hb hc 256
  exact ⟨_, h1, by omega, by omega, h3⟩
theorem Er1_ok {l : List Int} (hb : Bits l) (hz : l.length ≤ 256) {B : MD} {c : Int} (hc : c = 0 ∨ c = 1) : ∃ f : List Int, Bits f ∧ f.length = 256 ∧
    Er1 [some B, some (.dat (rowD l)), some (.dat (.int c)), none, none, none, none, none, none, none, none, none, none] = some (.nx [some B, some (.dat (rowD l)), some (.dat (.int c)), some (.dat (rowD f)), none, none, none, none, none, none, none, none, none]) := by
  obtain ⟨L, h1, h2, h3, h4⟩ := fullL hb hz hc
  have m1 : gMulX (.tuple (l.map .int)) (.int 256) = some (.val (.tuple (List.replicate 256 (l.map PyData.int)).flatten)) := gMulX_tup (l.map .int) (k := 256) (by simp; omega) (by decide)
  have m2 : gMulX (.tuple [.int c]) (.int 256) = some (.val (.tuple (List.replicate 256 [PyData.int c]).flatten)) := gMulX_tup [.int c] (k := 256) (by simp) (by decide)
  refine ⟨L.take 256, fun x hx => h1 x (List.mem_of_mem_take hx), by rw [List.length_take]; omega, ?_⟩
  have hlen := congrArg List.length h4
  rw [List.length_append, List.length_map] at hlen
  have cut : cutL (L.map PyData.int) none (some 256) = (L.take 256).map .int := by
    have := cut_to (L.map PyData.int) 256 (by simp; omega)
    rw [List.map_take]
    exact this
  generalize (List.replicate 256 (l.map PyData.int)).flatten = A at *
  generalize (List.replicate 256 [PyData.int c]).flatten = C at *
  have hs : A.length + C.length ≤ 16777216 := by omega
  simp [fnOf, fSeq, fNil, fSet, fRet, fDrop, fIf, fFgt, fgtO, fgt, fFor, fIfE, fT, fTru, truD, fAnd, fOr, fNot, fAndV, fOrV, fNotV, fOp2, fVar, fC, fB, fACons, fANil, fTup, fLst, fNeg, gRel, gInt2, gInt2C, gAdd, gMulX_int, gIx, gLen, gAbs, gInt, gEq, gIs, gIsNot, dv_dat, dv_lst, dv_al, dvs, own_dat, own_lst, own_bag, own_dcK, own_scr, flat_dat, flat_lst, Res.fin, frzs_nil, frzs_cons, frz_dat, intT_int, outs, als, argsOf, putArgs, fCall, eqv_int, shp_int, shp_none, shp_bool, noOwn, ownAt, sizeLine_eq, fIter, itemsOf, fRange1, fRange2, eqX_int, eqX_str, fEnumA, fFrz, fNever, permOk, perm, fCallK, fCallP, gMax2, gMin2, gMax3, gMin3, fPar2, fMulti, putM, fAsgG, fLc, Er1, m1, m2, hs, h4, fSlice, fONo, fOSo, dvS, gSl, cut]
theorem ErrOk.of {v due : PyData} {n c : Nat} (h1 : F_rows_error [.dat v] = some (.dat due, [none])) (h2 : Rp n c v) (hn : n ≤ 64) (hc : c ≤ 8000) (h3 : Plain 2 due) : ErrOk (.tuple [v, due]) := ⟨v, due, _, rfl, h1, gReprX_ok h2 hn hc, h3⟩
theorem row_rp {l : List Int} (h : Bits l) (hz : l.length ≤ 300) : Rp 1 301 (rowD l) := (Rp.tuple (k := 300) (bits_rp h) (by simpa using hz)).mono (by decide) (by decide)
theorem row_none {l : List Int} (h : Bits l) (hz : l.length ≤ 256) : ErrOk (.tuple [rowD l, .none]) := .of (re_bits (bits_is h) (by simpa using hz)) (row_rp h (by omega)) (by decide) (by decide) (.non 1)
/-- the first values -/
def baseL (l f : List Int) (c : Int) : List PyData := [.tuple [rowD l, .none], .tuple [.tuple [], .none], .tuple [rowD f, .none], .tuple [.list (l.map .int), .str "form"], .tuple [.none, .str "form"], .tuple [.int c, .str "form"], .tuple [.str "01", .str "form"],
  .tuple [.tuple (f.map .int ++ [.int c]), .str "many"], .tuple [.tuple ((f.take 255).map .int ++ [.int 2, .int c]), .str "many"], .tuple [.list (f.map .int ++ [.int c]), .str "form"], .tuple [.dict [], .str "form"],
  .tuple [.tuple ((f.take 255).map .int ++ [.int 2]), bitE 255], .tuple [.tuple (List.replicate 257 .none), .str "many"], .tuple [.tuple [rowD f, rowD f], bitE 0]]
theorem base_ok {l f : List Int} (hb : Bits l) (hz : l.length ≤ 256) (hf : Bits f) (hfz : f.length = 256) {c : Int} (hc : c = 0 ∨ c = 1) : ∀ d ∈ baseL l f c, ErrOk d := by
  have ht : Bits (f.take 255) := fun x hx => hf x (List.mem_of_mem_take hx)
  have htl : (f.take 255).length = 255 := by rw [List.length_take]; omega
  have two : Rp 0 1 (.int 2) := .small (Nat.lt_of_lt_of_le (by decide) big64)
  have rpA : ∀ (m : List Int) (t : List PyData), Bits m → (∀ d ∈ t, Rp 0 1 d) → ∀ d ∈ m.map PyData.int ++ t, Rp 0 1 d := fun m t h1 h2 d hd => (List.mem_append.mp hd).elim (bits_rp h1 d) (h2 d)
  intro d hd
  simp only [baseL, List.mem_cons, List.not_mem_nil, or_false] at hd
  rcases hd with rfl | rfl | rfl | rfl | rfl | rfl | rfl | rfl | rfl | rfl | rfl | rfl | rfl | rfl
  · exact row_none hb hz
  · exact row_none (l := []) (fun _ h => nomatch h) (by decide)
  · exact row_none hf (by omega)
  · exact .of (re_list _) (Rp.list (k := 300) (bits_rp hb) (by simp; omega)) (by decide) (by decide) plForm
  · exact .of re_none .non (by decide) (by decide) plForm
  · exact .of (re_int c) (bit_rp hc) (by decide) (by decide) plForm
  · exact .of (re_str _) (Rp.str (by decide +kernel) (by decide +kernel)) (by decide) (by decide) plForm
  · exact .of (re_many (by simp; omega)) (Rp.tuple (k := 300) (rpA f _ hf (by simpa using bit_rp hc)) (by simp; omega)) (by decide) (by decide) plMany
  · exact .of (re_many (by simp; omega)) (Rp.tuple (k := 300) (rpA _ _ ht (by intro d hd; simp at hd; rcases hd with rfl | rfl; exact two; exact bit_rp hc)) (by simp; omega)) (by decide) (by decide) plMany
  · exact .of (re_list _) (Rp.list (k := 300) (rpA f _ hf (by simpa using bit_rp hc)) (by simp; omega)) (by decide) (by decide) plForm
  · exact ⟨_, _, _, rfl, re_dict, gReprX_dict0, plForm⟩
  · have := re_bad (pre := (f.take 255).map PyData.int) (post := []) (x := .int 2) (bits_is ht) rfl (by simp; omega)
    rw [List.length_map, htl] at this
    exact .of this (Rp.tuple (k := 300) (rpA _ _ ht (by simpa using two)) (by simp; omega)) (by decide) (by decide) (plBit _)
  · exact .of (re_many (by rw [List.length_replicate]; decide)) (Rp.tuple (k := 300) (fun d hd => by rw [List.eq_of_mem_replicate hd]; exact .non) (by rw [List.length_replicate]; decide)) (by decide) (by decide) plMany
  · exact .of (re_bad (pre := []) (post := [rowD f]) (x := rowD f) (fun _ h => nomatch h) rfl (by show 2 ≤ 256; decide)) (Rp.tuple (k := 2) (fun d hd => by simp at hd; rw [hd]; exact row_rp hf (by omega)) (by simp)) (by decide) (by decide) (plBit _)
abbrev Gr (B : MD) (l f : List Int) (c : Int) (M : List PyData) : Gm := [some B, some (.dat (rowD l)), some (.dat (.int c)), some (.dat (rowD f)), some (.lst M), none, none, none, none, none, none, none, none]
theorem Er25_ok {l f : List Int} (hz : l.length ≤ 256) (hfz : f.length = 256) {B : MD} (o : B.own = true) {c : Int} {k : FS} : fSeq Er2 (fSeq Er3 (fSeq Er4 (fSeq Er5 k))) [some B, some (.dat (rowD l)), some (.dat (.int c)), some (.dat (rowD f)), none, none, none, none, none, none, none, none, none] = k (Gr B l f c (baseL l f c)) := by
  have c255 : cutL (f.map PyData.int) none (some 255) = (f.take 255).map .int := by
    have := cut_to (f.map PyData.int) 255 (by simp; omega)
    rw [List.map_take]
    exact this
  have htl : (f.take 255).length ≤ 300 := by rw [List.length_take]; omega
  have m2 : gMulX (.tuple [.none]) (.int 257) = some (.val (.tuple (List.replicate 257 .none))) := by
    have := gMulX_tup [.none] (k := 257) (by simp) (by decide)
    rw [show (List.replicate 257 [PyData.none]).flatten = List.replicate 257 .none from by simp [List.flatten_replicate_singleton]] at this
    exact this
  unfold baseL
  generalize List.replicate 257 PyData.none = N at *
  generalize f.take 255 = ft at *
  have k1 : f.length ≤ 16777215 := by omega
  have k2 : ft.length ≤ 16777215 := by omega
  have k3 : ft.length ≤ 16777214 := by omega
  have e2 : Er2 [some B, some (.dat (rowD l)), some (.dat (.int c)), some (.dat (rowD f)), none, none, none, none, none, none, none, none, none] = some (.nx (Gr B l f c [.tuple [rowD l, .none], .tuple [.tuple [], .none], .tuple [rowD f, .none], .tuple [.list (l.map .int), .str "form"], .tuple [.none, .str "form"], .tuple [.int c, .str "form"], .tuple [.str "01", .str "form"]])) := by
    simp [fnOf, fSeq, fNil, fSet, fRet, fDrop, fIf, fFgt, fgtO, fgt, fFor, fIfE, fT, fTru, truD, fAnd, fOr, fNot, fAndV, fOrV, fNotV, fOp2, fVar, fC, fB, fACons, fANil, fTup, fLst, fNeg, gRel, gInt2, gInt2C, gAdd, gMulX_int, gIx, gLen, gAbs, gInt, gEq, gIs, gIsNot, dv_dat, dv_lst, dv_al, dvs, own_dat, own_lst, own_bag, own_dcK, own_scr, flat_dat, flat_lst, Res.fin, frzs_nil, frzs_cons, frz_dat, intT_int, outs, als, argsOf, putArgs, fCall, eqv_int, shp_int, shp_none, shp_bool, noOwn, ownAt, sizeLine_eq, fIter, itemsOf, fRange1, fRange2, eqX_int, eqX_str, fEnumA, fFrz, fNever, permOk, perm, fCallK, fCallP, gMax2, gMin2, gMax3, gMin3, fPar2, fMulti, putM, fAsgG, fLc, Er2, o, gToL]
  rw [seq_nx e2]
  have e3 : ∀ M : List PyData, M.length ≤ 100 → Er3 (Gr B l f c M) = some (.nx (Gr B l f c (M ++ [.tuple [.tuple (f.map .int ++ [.int c]), .str "many"], .tuple [.tuple (ft.map .int ++ [.int 2, .int c]), .str "many"], .tuple [.list (f.map .int ++ [.int c]), .str "form"]]))) := by
    intro M hM
    have hM' : M.length ≤ 16777213 := by omega
    simp [fnOf, fSeq, fNil, fSet, fRet, fDrop, fIf, fFgt, fgtO, fgt, fFor, fIfE, fT, fTru, truD, fAnd, fOr, fNot, fAndV, fOrV, fNotV, fOp2, fVar, fC, fB, fACons, fANil, fTup, fLst, fNeg, gRel, gInt2, gInt2C, gAdd, gMulX_int, gIx, gLen, gAbs, gInt, gEq, gIs, gIsNot, dv_dat, dv_lst, dv_al, dvs, own_dat, own_lst, own_bag, own_dcK, own_scr, flat_dat, flat_lst, Res.fin, frzs_nil, frzs_cons, frz_dat, intT_int, outs, als, argsOf, putArgs, fCall, eqv_int, shp_int, shp_none, shp_bool, noOwn, ownAt, sizeLine_eq, fIter, itemsOf, fRange1, fRange2, eqX_int, eqX_str, fEnumA, fFrz, fNever, permOk, perm, fCallK, fCallP, gMax2, gMin2, gMax3, gMin3, fPar2, fMulti, putM, fAsgG, fLc, Er3, o, gToL, fExtend, lstS, k1, k2, k3, c255, fSlice, fONo, fOSo, dvS, gSl, hM']
  rw [seq_nx (e3 _ (by simp))]
  have e4 : ∀ M : List PyData, M.length ≤ 100 → Er4 (Gr B l f c M) = some (.nx (Gr B l f c (M ++ [.tuple [.dict [], .str "form"]]))) := by
    intro M hM
    have hM' : M.length < 16777216 := by omega
    simp [fnOf, fSeq, fNil, fSet, fRet, fDrop, fIf, fFgt, fgtO, fgt, fFor, fIfE, fT, fTru, truD, fAnd, fOr, fNot, fAndV, fOrV, fNotV, fOp2, fVar, fC, fB, fACons, fANil, fTup, fLst, fNeg, gRel, gInt2, gInt2C, gAdd, gMulX_int, gIx, gLen, gAbs, gInt, gEq, gIs, gIsNot, dv_dat, dv_lst, dv_al, dvs, own_dat, own_lst, own_bag, own_dcK, own_scr, flat_dat, flat_lst, Res.fin, frzs_nil, frzs_cons, frz_dat, intT_int, outs, als, argsOf, putArgs, fCall, eqv_int, shp_int, shp_none, shp_bool, noOwn, ownAt, sizeLine_eq, fIter, itemsOf, fRange1, fRange2, eqX_int, eqX_str, fEnumA, fFrz, fNever, permOk, perm, fCallK, fCallP, gMax2, gMin2, gMax3, gMin3, fPar2, fMulti, putM, fAsgG, fLc, Er4, o, fAppend, lstS, fFrzE, fDNewK, pairsD, hM']
  rw [seq_nx (e4 _ (by simp))]
  have e5 : ∀ M : List PyData, M.length ≤ 100 → Er5 (Gr B l f c M) = some (.nx (Gr B l f c (M ++ [.tuple [.tuple (ft.map .int ++ [.int 2]), bitE 255], .tuple [.tuple N, .str "many"], .tuple [.tuple [rowD f, rowD f], bitE 0]]))) := by
    intro M hM
    have hM' : M.length ≤ 16777213 := by omega
    simp [fnOf, fSeq, fNil, fSet, fRet, fDrop, fIf, fFgt, fgtO, fgt, fFor, fIfE, fT, fTru, truD, fAnd, fOr, fNot, fAndV, fOrV, fNotV, fOp2, fVar, fC, fB, fACons, fANil, fTup, fLst, fNeg, gRel, gInt2, gInt2C, gAdd, gMulX_int, gIx, gLen, gAbs, gInt, gEq, gIs, gIsNot, dv_dat, dv_lst, dv_al, dvs, own_dat, own_lst, own_bag, own_dcK, own_scr, flat_dat, flat_lst, Res.fin, frzs_nil, frzs_cons, frz_dat, intT_int, outs, als, argsOf, putArgs, fCall, eqv_int, shp_int, shp_none, shp_bool, noOwn, ownAt, sizeLine_eq, fIter, itemsOf, fRange1, fRange2, eqX_int, eqX_str, fEnumA, fFrz, fNever, permOk, perm, fCallK, fCallP, gMax2, gMin2, gMax3, gMin3, fPar2, fMulti, putM, fAsgG, fLc, Er5, o, gToL, fExtend, lstS, k1, k2, k3, c255, fSlice, fONo, fOSo, dvS, gSl, hM', m2, bitE]
  rw [seq_nx (e5 _ (by simp))]
  rfl
end Lw

end

/-! K43h: the wrong items, the law -/
noncomputable section
namespace Lw
open PySem PySem.Spec PyProof.Rows L2 Fx

/-- an item that is no bit; repr tells of a row with it -/
def BadI (x : PyData) : Prop := isBit x = false ∧ (Rp 1 5 x ∨ x = .dict [])
theorem bad_row {pre post : List PyData} {x : PyData} (h1 : ∀ d ∈ pre, isBit d = true) (h2 : BadI x) (h3 : ∀ d ∈ pre ++ post, Rp 0 1 d) (hl : (pre ++ x :: post).length ≤ 256) : ErrOk (.tuple [.tuple (pre ++ x :: post), bitE pre.length]) := by
  have e := re_bad (post := post) h1 h2.1 hl
  rcases h2.2 with h | rfl
  · refine .of e (Rp.tuple (n := 1) (c := 5) (k := 300) (fun d hd => ?_) (by omega)) (by decide) (by decide) (plBit _)
    rcases List.mem_append.mp hd with hd | hd
    · exact (h3 d (List.mem_append.mpr (.inl hd))).mono (by decide) (by decide)
    · rcases List.mem_cons.mp hd with rfl | hd
      · exact h
      · exact (h3 d (List.mem_append.mpr (.inr hd))).mono (by decide) (by decide)
  · have q : Rq 2 301 (.tuple (pre ++ .dict [] :: post)) := by
      refine (Rq.tuple (n := 1) (c := 1) (k := 300) (fun d hd => ?_) (by omega)).mono (by decide) (by decide)
      rcases List.mem_append.mp hd with hd | hd
      · exact (Rq.flat (h3 d (List.mem_append.mpr (.inl hd)))).mono (by decide) (by decide)
      · rcases List.mem_cons.mp hd with rfl | hd
        · exact .dict
        · exact (Rq.flat (h3 d (List.mem_append.mpr (.inr hd)))).mono (by decide) (by decide)
    obtain ⟨s, hs⟩ := gReprX_tuple q (by decide) (by decide)
    exact ⟨_, _, s, rfl, e, hs, plBit _⟩
section
variable {l : List Int} (hb : Bits l) (hz : l.length ≤ 256) {a z : Nat} (hz1 : l.length = z + 1) (ha : a ≤ z)
include hb hz hz1 ha
theorem put1 {x : PyData} (hx : BadI x) : ErrOk (.tuple [.tuple ((l.map PyData.int).take z ++ x :: (l.map PyData.int).drop (z + 1)), bitE z]) := by
  have e0 : ((l.map PyData.int).take z).length = z := by simp; omega
  have := bad_row (pre := (l.map PyData.int).take z) (post := (l.map PyData.int).drop (z + 1)) (x := x) (fun d hd => bits_is hb d (List.mem_of_mem_take hd)) hx (fun d hd => (List.mem_append.mp hd).elim (fun h => bits_rp hb d (List.mem_of_mem_take h)) fun h => bits_rp hb d (List.mem_of_mem_drop h)) (by simp; omega)
  rwa [e0] at this
theorem put2 {x : PyData} (hx : BadI x) (W : List PyData) (hW : W = (l.map PyData.int).take z ++ .none :: (l.map PyData.int).drop (z + 1)) : ErrOk (.tuple [.tuple (W.take a ++ x :: W.drop (a + 1)), bitE a]) := by
  have lt : ((l.map PyData.int).take z).length = z := by simp; omega
  have lW : W.length = z + 1 := by rw [hW, List.length_append, lt, List.length_cons, List.length_drop, List.length_map]; omega
  have eW : W.take a = (l.map PyData.int).take a := by
    rw [hW, List.take_append_of_le_length (by omega), List.take_take, Nat.min_eq_left ha]
  have e0 : (W.take a).length = a := by rw [List.length_take]; omega
  have mW : ∀ d ∈ W, Rp 0 1 d := fun d hd => by
    rw [hW] at hd
    rcases List.mem_append.mp hd with h | h
    · exact bits_rp hb d (List.mem_of_mem_take h)
    · rcases List.mem_cons.mp h with rfl | h
      · exact .non
      · exact bits_rp hb d (List.mem_of_mem_drop h)
  have := bad_row (pre := W.take a) (post := W.drop (a + 1)) (x := x) (fun d hd => by rw [eW] at hd; exact bits_is hb d (List.mem_of_mem_take hd)) hx (fun d hd => (List.mem_append.mp hd).elim (fun h => mW d (List.mem_of_mem_take h)) fun h => mW d (List.mem_of_mem_drop h)) (by rw [List.length_append, e0, List.length_cons, List.length_drop]; omega)
  rwa [e0] at this
theorem put_turn {B : MD} (o : B.own = true) {f : List Int} {c : Int} {M : List PyData} (hM : ∀ d ∈ M, ErrOk d) (hMl : M.length ≤ 100) {x : PyData} (hx : BadI x) : ∃ M', lsStep (gN 7) b1__law_are_errors_right x [some B, some (.dat (rowD l)), some (.dat (.int c)), some (.dat (rowD f)), some (.lst M), some (.dat (.int z)), some (.dat (.int a)), none, none, none, none, none, none] =
    some (.nx [some B, some (.dat (rowD l)), some (.dat (.int c)), some (.dat (rowD f)), some (.lst M'), some (.dat (.int z)), some (.dat (.int a)), none, none, none, none, none, none]) ∧ (∀ d ∈ M', ErrOk d) ∧ M'.length = M.length + 2 := by
  have p1 := put_ok (l.map .int) (a := z) (by simp; omega) (by simp; omega) x
  have p2 := put_ok (l.map .int) (a := z) (by simp; omega) (by simp; omega) .none
  obtain ⟨W, hW⟩ : ∃ W, W = (l.map PyData.int).take z ++ PyData.none :: (l.map PyData.int).drop (z + 1) := ⟨_, rfl⟩
  have lW : W.length = z + 1 := by rw [hW]; simp; omega
  have p3 := put_ok W (a := a) (by omega) (by omega) x
  have k1 := put1 hb hz hz1 ha hx
  have k2 := put2 hb hz hz1 ha hx W hW
  rw [← hW] at p2
  refine ⟨M ++ [.tuple [.tuple ((l.map PyData.int).take z ++ x :: (l.map PyData.int).drop (z + 1)), bitE z]] ++ [.tuple [.tuple (W.take a ++ x :: W.drop (a + 1)), bitE a]], ?_, ?_, by simp⟩
  · have q1 : M.length < 16777216 := by omega
    have q2 : M.length < 16777215 := by omega
    generalize (l.map PyData.int).take z ++ x :: (l.map PyData.int).drop (z + 1) = V1 at *
    generalize W.take a ++ x :: W.drop (a + 1) = V2 at *
    simp [fnOf, fSeq, fNil, fSet, fRet, fDrop, fIf, fFgt, fgtO, fgt, fFor, fIfE, fT, fTru, truD, fAnd, fOr, fNot, fAndV, fOrV, fNotV, fOp2, fVar, fC, fB, fACons, fANil, fTup, fLst, fNeg, gRel, gInt2, gInt2C, gAdd, gMulX_int, gIx, gLen, gAbs, gInt, gEq, gIs, gIsNot, dv_dat, dv_lst, dv_al, dvs, own_dat, own_lst, own_bag, own_dcK, own_scr, flat_dat, flat_lst, Res.fin, frzs_nil, frzs_cons, frz_dat, intT_int, outs, als, argsOf, putArgs, fCall, eqv_int, shp_int, shp_none, shp_bool, noOwn, ownAt, sizeLine_eq, fIter, itemsOf, fRange1, fRange2, eqX_int, eqX_str, fEnumA, fFrz, fNever, permOk, perm, fCallK, fCallP, gMax2, gMin2, gMax3, gMin3, fPar2, fMulti, putM, fAsgG, fLc, lcStep, lsStep, tYesF, gN, gT, gsCons, gsNil, b1__law_are_errors_right, fAppend, lstS, p1, p2, p3, q1, q2, bitE]
  · intro d hd
    rw [List.append_assoc] at hd
    rcases List.mem_append.mp hd with h | h
    · exact hM d h
    · simp at h
      rcases h with rfl | rfl
      · exact k1
      · exact k2
end
theorem bads_ok {v : Int} (h0 : 0 ≤ v) (h1 : v < 998) : ∀ x ∈ [PyData.int 2, .int (-1), .bool true, .bool false, .none, .str "0", .str "1", .tuple [], .tuple [.int 0], .list [.int 1], .int (2 + v), .int 1000000000000000000000000000000, .dict []], BadI x := by
  have sm : ∀ i : Int, i.natAbs < 2 ^ 64 → Rp 1 5 (.int i) := fun i h => (Rp.small (Nat.lt_of_lt_of_le h big64)).mono (by decide) (by decide)
  intro x hx
  simp only [List.mem_cons, List.not_mem_nil, or_false] at hx
  rcases hx with rfl | rfl | rfl | rfl | rfl | rfl | rfl | rfl | rfl | rfl | rfl | rfl | rfl
  · exact ⟨rfl, .inl (sm _ (by decide))⟩
  · exact ⟨rfl, .inl (sm _ (by decide))⟩
  · exact ⟨rfl, .inl ((Rp.bool _).mono (by decide) (by decide))⟩
  · exact ⟨rfl, .inl ((Rp.bool _).mono (by decide) (by decide))⟩
  · exact ⟨rfl, .inl (Rp.non.mono (by decide) (by decide))⟩
  · exact ⟨rfl, .inl ((Rp.str (by decide +kernel) (by decide +kernel)).mono (by decide) (by decide))⟩
  · exact ⟨rfl, .inl ((Rp.str (by decide +kernel) (by decide +kernel)).mono (by decide) (by decide))⟩
  · exact ⟨rfl, .inl ((Rp.tuple (n := 0) (c := 1) (k := 1) (by simp) (by decide)).mono (by decide) (by decide))⟩
  · exact ⟨rfl, .inl ((Rp.tuple (n := 0) (c := 1) (k := 1) (fun d h => by simp at h; rw [h]; exact .small (Nat.lt_of_lt_of_le (by decide) big64)) (by decide)).mono (by decide) (by decide))⟩
  · exact ⟨rfl, .inl ((Rp.list (n := 0) (c := 1) (k := 1) (fun d h => by simp at h; rw [h]; exact .small (Nat.lt_of_lt_of_le (by decide) big64)) (by decide)).mono (by decide) (by decide))⟩
  · exact ⟨by simp [isBit]; omega, .inl (sm _ (by omega))⟩
  · exact ⟨rfl, .inl ((Rp.int (by decide +kernel)).mono (by decide) (by decide))⟩
  · exact ⟨rfl, .inr rfl⟩
theorem Er6_ok {l f : List Int} (hb : Bits l) (hz : l.length ≤ 256) {B : MD} (hB : BagOk B) {c : Int} {M : List PyData} (hM : ∀ d ∈ M, ErrOk d) (hMl : M.length ≤ 14) :
    ∃ B' M' x y, Er6 (Gr B l f c M) = some (.nx [some B', some (.dat (rowD l)), some (.dat (.int c)), some (.dat (rowD f)), some (.lst M'), x, y, none, none, none, none, none, none]) ∧ BagOk B' ∧ (∀ d ∈ M', ErrOk d) ∧ M'.length ≤ 50 ∧ noOwn [x, y] [0, 1] = true := by
  have o := hB.own
  by_cases h0 : l = []
  · subst h0
    refine ⟨B, M, none, none, ?_, hB, hM, by omega, rfl⟩
    have q : gEqX true (rowD []) (.tuple []) = some (.val (.bool false)) := eqX_ints true [] []
    simp [fnOf, fSeq, fNil, fSet, fRet, fDrop, fIf, fFgt, fgtO, fgt, fFor, fIfE, fT, fTru, truD, fAnd, fOr, fNot, fAndV, fOrV, fNotV, fOp2, fVar, fC, fB, fACons, fANil, fTup, fLst, fNeg, gRel, gInt2, gInt2C, gAdd, gMulX_int, gIx, gLen, gAbs, gInt, gEq, gIs, gIsNot, dv_dat, dv_lst, dv_al, dvs, own_dat, own_lst, own_bag, own_dcK, own_scr, flat_dat, flat_lst, Res.fin, frzs_nil, frzs_cons, frz_dat, intT_int, outs, als, argsOf, putArgs, fCall, eqv_int, shp_int, shp_none, shp_bool, noOwn, ownAt, sizeLine_eq, fIter, itemsOf, fRange1, fRange2, eqX_int, eqX_str, fEnumA, fFrz, fNever, permOk, perm, fCallK, fCallP, gMax2, gMin2, gMax3, gMin3, fPar2, fMulti, putM, fAsgG, fLc, Er6, q]
  · obtain ⟨z, hz1⟩ : ∃ z, l.length = z + 1 := ⟨l.length - 1, by have := List.length_pos_iff.mpr h0; omega⟩
    obtain ⟨v, B1, e1, hB1, v0, v1⟩ := draw hB (n := (l.length : Nat)) (by omega) (by omega)
    obtain ⟨a, ha, rfl⟩ : ∃ a : Nat, a ≤ z ∧ v = a := ⟨v.toNat, by omega, by omega⟩
    obtain ⟨u, B2, e2, hB2, u0, u1⟩ := draw hB1 (n := 998) (by decide) (by decide)
    have o1 := hB1.own
    have o2 := hB2.own
    obtain ⟨Γ', e3, M', rfl, hM', lM'⟩ := loopS_ok (tg := gN 7) (b := b1__law_are_errors_right) (items := [PyData.int 2, .int (-1), .bool true, .bool false, .none, .str "0", .str "1", .tuple [], .tuple [.int 0], .list [.int 1], .int (2 + u), .int 1000000000000000000000000000000, .dict []])
      (Γ := [some B2, some (.dat (rowD l)), some (.dat (.int c)), some (.dat (rowD f)), some (.lst M), some (.dat (.int z)), some (.dat (.int a)), none, none, none, none, none, none])
      (P := fun i Γ => ∃ M', Γ = [some B2, some (.dat (rowD l)), some (.dat (.int c)), some (.dat (rowD f)), some (.lst M'), some (.dat (.int z)), some (.dat (.int a)), none, none, none, none, none, none] ∧ (∀ d ∈ M', ErrOk d) ∧ M'.length = M.length + 2 * i) 0 ⟨M, rfl, hM, by omega⟩ (by
        rintro i d Γ hd ⟨M1, rfl, h1, h2⟩
        have hi := (List.getElem?_eq_some_iff.mp hd).1
        simp at hi
        obtain ⟨M2, k1, k2, k3⟩ := put_turn hb hz hz1 ha o2 h1 (by omega) (bads_ok u0 u1 d (List.mem_of_getElem? hd))
        exact ⟨_, .inl k1, M2, rfl, k2, by omega⟩)
    simp only [List.length_cons, List.length_nil, Nat.zero_add] at lM'
    have q : gEqX true (rowD l) (.tuple []) = some (.val (.bool (!decide (l = [])))) := eqX_ints true l []
    have q' : decide (l = []) = false := decide_eq_false h0
    rw [q'] at q
    have hl1 : (l.length : Int) - 1 = z := by omega
    have hM1 : M'.length < 16777216 := by omega
    by_cases hlt : z < 255
    · refine ⟨B2, M' ++ [.tuple [.tuple (l.map .int ++ [.int 2]), bitE (z + 1)]], some (.dat (.int z)), some (.dat (.int a)), ?_, hB2, ?_, by simp; omega, rfl⟩
      · have hlt' : (z : Int) < 255 := by omega
        have hs : l.length ≤ 16777215 := by omega
        simp [fnOf, fSeq, fNil, fSet, fRet, fDrop, fIf, fFgt, fgtO, fgt, fFor, fIfE, fT, fTru, truD, fAnd, fOr, fNot, fAndV, fOrV, fNotV, fOp2, fVar, fC, fB, fACons, fANil, fTup, fLst, fNeg, gRel, gInt2, gInt2C, gAdd, gMulX_int, gIx, gLen, gAbs, gInt, gEq, gIs, gIsNot, dv_dat, dv_lst, dv_al, dvs, own_dat, own_lst, own_bag, own_dcK, own_scr, flat_dat, flat_lst, Res.fin, frzs_nil, frzs_cons, frz_dat, intT_int, outs, als, argsOf, putArgs, fCall, eqv_int, shp_int, shp_none, shp_bool, noOwn, ownAt, sizeLine_eq, fIter, itemsOf, fRange1, fRange2, eqX_int, eqX_str, fEnumA, fFrz, fNever, permOk, perm, fCallK, fCallP, gMax2, gMin2, gMax3, gMin3, fPar2, fMulti, putM, fAsgG, fLc, Er6, q, hl1, e1, o, o1, e2, o2, fFrzE, fDNewK, pairsD, powOk, e3, hlt, hlt', fAppend, lstS, hM1, hs, bitE]
      · intro d hd
        rcases List.mem_append.mp hd with h | h
        · exact hM' d h
        · simp at h
          subst h
          have := bad_row (pre := l.map PyData.int) (post := []) (x := .int 2) (bits_is hb) ⟨rfl, .inl ((Rp.small (Nat.lt_of_lt_of_le (by decide) big64)).mono (by decide) (by decide))⟩ (by simpa using bits_rp hb) (by simp; omega)
          rw [List.length_map, hz1] at this
          exact this
    · refine ⟨B2, M', some (.dat (.int z)), some (.dat (.int a)), ?_, hB2, hM', by omega, rfl⟩
      have hlt' : ¬ (z : Int) < 255 := by omega
      simp [fnOf, fSeq, fNil, fSet, fRet, fDrop, fIf, fFgt, fgtO, fgt, fFor, fIfE, fT, fTru, truD, fAnd, fOr, fNot, fAndV, fOrV, fNotV, fOp2, fVar, fC, fB, fACons, fANil, fTup, fLst, fNeg, gRel, gInt2, gInt2C, gAdd, gMulX_int, gIx, gLen, gAbs, gInt, gEq, gIs, gIsNot, dv_dat, dv_lst, dv_al, dvs, own_dat, own_lst, own_bag, own_dcK, own_scr, flat_dat, flat_lst, Res.fin, frzs_nil, frzs_cons, frz_dat, intT_int, outs, als, argsOf, putArgs, fCall, eqv_int, shp_int, shp_none, shp_bool, noOwn, ownAt, sizeLine_eq, fIter, itemsOf, fRange1, fRange2, eqX_int, eqX_str, fEnumA, fFrz, fNever, permOk, perm, fCallK, fCallP, gMax2, gMin2, gMax3, gMin3, fPar2, fMulti, putM, fAsgG, fLc, Er6, q, hl1, e1, o, o1, e2, o2, fFrzE, fDNewK, pairsD, powOk, e3, hlt, hlt']
theorem Er7_ok {l f : List Int} {B : MD} (o : B.own = true) {c : Int} {M : List PyData} (hM : ∀ d ∈ M, ErrOk d) (x y : Option MD) (hxy : noOwn [x, y] [0, 1] = true) :
    ∃ T, Er7 [some B, some (.dat (rowD l)), some (.dat (.int c)), some (.dat (rowD f)), some (.lst M), x, y, none, none, none, none, none, none] = some (.rt (.dat (.bool true)) (some B :: some (.dat (rowD l)) :: T)) := by
  have e := loopS_all (tg := gT 2 (gsCons (gN 8) (gsCons (gT 2 (gsCons (gN 9) (gsCons (gN 10) gsNil))) gsNil))) (b := b2__law_are_errors_right) (g := fun p : PyData × Nat => .tuple [.int (p.2 : Nat), p.1]) (Γ := [some B, some (.dat (rowD l)), some (.dat (.int c)), some (.dat (rowD f)), some (.dat (.list M)), x, y, none, none, none, none, none, none]) M.zipIdx (by
    rintro ⟨d, i⟩ hd
    obtain ⟨v, due, s, rfl, h1, h2, h3⟩ := hM d (List.fst_mem_of_mem_zipIdx hd)
    have h4 := same8 h3 (by decide)
    by_cases hi : i = 1
    · subst hi
      simp [fnOf, fSeq, fNil, fSet, fRet, fDrop, fIf, fFgt, fgtO, fgt, fFor, fIfE, fT, fTru, truD, fAnd, fOr, fNot, fAndV, fOrV, fNotV, fOp2, fVar, fC, fB, fACons, fANil, fTup, fLst, fNeg, gRel, gInt2, gInt2C, gAdd, gMulX_int, gIx, gLen, gAbs, gInt, gEq, gIs, gIsNot, dv_dat, dv_lst, dv_al, dvs, own_dat, own_lst, own_bag, own_dcK, own_scr, flat_dat, flat_lst, Res.fin, frzs_nil, frzs_cons, frz_dat, intT_int, outs, als, argsOf, putArgs, fCall, eqv_int, shp_int, shp_none, shp_bool, noOwn, ownAt, sizeLine_eq, fIter, itemsOf, fRange1, fRange2, eqX_int, eqX_str, fEnumA, fFrz, fNever, permOk, perm, fCallK, fCallP, gMax2, gMin2, gMax3, gMin3, fPar2, fMulti, putM, fAsgG, fLc, lcStep, lsStep, tYesF, gN, gT, gsCons, gsNil, b2__law_are_errors_right, h1, h2, h4]
    · have hi' : ¬ (i : Int) = 1 := by omega
      simp [fnOf, fSeq, fNil, fSet, fRet, fDrop, fIf, fFgt, fgtO, fgt, fFor, fIfE, fT, fTru, truD, fAnd, fOr, fNot, fAndV, fOrV, fNotV, fOp2, fVar, fC, fB, fACons, fANil, fTup, fLst, fNeg, gRel, gInt2, gInt2C, gAdd, gMulX_int, gIx, gLen, gAbs, gInt, gEq, gIs, gIsNot, dv_dat, dv_lst, dv_al, dvs, own_dat, own_lst, own_bag, own_dcK, own_scr, flat_dat, flat_lst, Res.fin, frzs_nil, frzs_cons, frz_dat, intT_int, outs, als, argsOf, putArgs, fCall, eqv_int, shp_int, shp_none, shp_bool, noOwn, ownAt, sizeLine_eq, fIter, itemsOf, fRange1, fRange2, eqX_int, eqX_str, fEnumA, fFrz, fNever, permOk, perm, fCallK, fCallP, gMax2, gMin2, gMax3, gMin3, fPar2, fMulti, putM, fAsgG, fLc, lcStep, lsStep, tYesF, gN, gT, gsCons, gsNil, b2__law_are_errors_right, h1, h2, h4, hi, hi'])
  have e' : loopS (gT 2 (gsCons (gN 8) (gsCons (gT 2 (gsCons (gN 9) (gsCons (gN 10) gsNil))) gsNil))) b2__law_are_errors_right (enumD M) _ = _ := e
  exact ⟨[some (.dat (.int c)), some (.dat (rowD f)), some (.dat (.list M)), x, y, none, none, none, none, none, none], by simp [fnOf, fSeq, fNil, fSet, fRet, fDrop, fIf, fFgt, fgtO, fgt, fFor, fIfE, fT, fTru, truD, fAnd, fOr, fNot, fAndV, fOrV, fNotV, fOp2, fVar, fC, fB, fACons, fANil, fTup, fLst, fNeg, gRel, gInt2, gInt2C, gAdd, gMulX_int, gIx, gLen, gAbs, gInt, gEq, gIs, gIsNot, dv_dat, dv_lst, dv_al, dvs, own_dat, own_lst, own_bag, own_dcK, own_scr, flat_dat, flat_lst, Res.fin, frzs_nil, frzs_cons, frz_dat, intT_int, outs, als, argsOf, putArgs, fCall, eqv_int, shp_int, shp_none, shp_bool, noOwn, ownAt, sizeLine_eq, fIter, itemsOf, fRange1, fRange2, eqX_int, eqX_str, fEnumA, fFrz, fNever, permOk, perm, fCallK, fCallP, gMax2, gMin2, gMax3, gMin3, fPar2, fMulti, putM, fAsgG, fLc, Er7, e', o]⟩
end Lw

end

/-! K43i: the law of rows of bits -/
noncomputable section
namespace Lw
open PySem PySem.Spec PyProof.Rows L2 Fx

def La0 : FS := (fSet 1 1 (fCall F__law_own_bag (fACons (fVar 0) fANil)))
def La1 : FS := (fSet 1 2 (fCall F__law_draw (fACons (fVar 1) (fACons (fC (.int 10)) fANil))))
def La2 : FS := (fSet 1 3 (fCall F__law_draw (fACons (fVar 1) (fACons (fC (.int 41)) fANil))))
def La3 : FS := (fIf (fT (fOp2 (gEqX false) false (fVar 2) (fC (.int 0)))) (fSet 1 3 (fCall F__law_pick (fACons (fVar 1) (fACons (fLst false (fACons (fC (.int 256)) (fACons (fC (.int 256)) (fACons (fC (.int 255)) (fACons (fOp2 gAdd false (fC (.int 200)) (fCall F__law_draw (fACons (fVar 1) (fACons (fC (.int 57)) fANil)))) fANil))))) fANil)))) (fIf (fT (fOp2 (gEqX false) false (fVar 2) (fC (.int 1)))) (fSet 1 3 (fCall F__law_draw (fACons (fVar 1) (fACons (fC (.int 4)) fANil)))) fNil))
def La4 : FS := (fSet 1 4 (fCall F__law_own_row (fACons (fVar 1) (fACons (fVar 3) fANil))))
def La5 : FS := (fIf (fOr (fNot (fTru (fCall F__law_are_errors_right (fACons (fVar 1) (fACons (fVar 4) fANil))))) (fNot (fTru (fCall F__law_are_leans_right (fACons (fVar 1) (fACons (fVar 4) fANil)))))) (fRet 1 true (fC (.bool false))) fNil)
def La6 : FS := (fSet 1 5 (fIfE (fT (fOp2 (gEqX true) false (fVar 4) (fTup fANil))) (fVar 4) (fTup (fACons (fCall F__law_draw (fACons (fVar 1) (fACons (fC (.int 2)) fANil))) fANil))))
def La7 : FS := (fSet 1 6 (fCall F__law_own_row (fACons (fVar 1) (fACons (fOp2 gAdd false (fC (.int 1)) (fCall F__law_draw (fACons (fVar 1) (fACons (fC (.int 7)) fANil)))) fANil))))
def La8 : FS := (fFor (fIter (fLst false (fACons (fVar 5) (fACons (fVar 6) fANil)))) (gN 7) b1_law)
def La9 : FS := (fRet 1 true (fAndV (fCall (F__law_same 8) (fACons (fCall F_stretch_lean (fACons (fVar 6) fANil)) (fACons (fCall F__law_stretch (fACons (fVar 6) fANil)) fANil))) (fCall (F__law_same 8) (fACons (fCall F_rows_error (fACons (fVar 6) fANil)) (fACons (fC .none) fANil)))))
theorem La_is : F_law = fnOf 1 8 (fSeq La0 (fSeq La1 (fSeq La2 (fSeq La3 (fSeq La4 (fSeq La5 (fSeq La6 (fSeq La7 (fSeq La8 La9))))))))) := rfl
theorem errors_right {l : List Int} (hb : Bits l) (hz : l.length ≤ 256) {B : MD} (hB : BagOk B) : ∃ B', F__law_are_errors_right [B, .dat (rowD l)] = some (.dat (.bool true), [some B', none]) ∧ BagOk B' := by
  obtain ⟨v, B1, e1, hB1, v0, v1⟩ := draw hB (n := 2) (by decide) (by decide)
  have o := hB.own
  have o1 := hB1.own
  have hc : v = 0 ∨ v = 1 := by omega
  obtain ⟨f, hf, hfz, k1⟩ := Er1_ok (B := B1) hb hz hc
  have k0 : Er0 [some B, some (.dat (rowD l)), none, none, none, none, none, none, none, none, none, none, none] = some (.nx [some B1, some (.dat (rowD l)), some (.dat (.int v)), none, none, none, none, none, none, none, none, none, none]) := by simp [fnOf, fSeq, fNil, fSet, fRet, fDrop, fIf, fFgt, fgtO, fgt, fFor, fIfE, fT, fTru, truD, fAnd, fOr, fNot, fAndV, fOrV, fNotV, fOp2, fVar, fC, fB, fACons, fANil, fTup, fLst, fNeg, gRel, gInt2, gInt2C, gAdd, gMulX_int, gIx, gLen, gAbs, gInt, gEq, gIs, gIsNot, dv_dat, dv_lst, dv_al, dvs, own_dat, own_lst, own_bag, own_dcK, own_scr, flat_dat, flat_lst, Res.fin, frzs_nil, frzs_cons, frz_dat, intT_int, outs, als, argsOf, putArgs, fCall, eqv_int, shp_int, shp_none, shp_bool, noOwn, ownAt, sizeLine_eq, fIter, itemsOf, fRange1, fRange2, eqX_int, eqX_str, fEnumA, fFrz, fNever, permOk, perm, fCallK, fCallP, gMax2, gMin2, gMax3, gMin3, fPar2, fMulti, putM, fAsgG, fLc, Er0, o, o1, e1]
  obtain ⟨B2, M', x, y, k6, hB2, hM', -, hxy⟩ := Er6_ok hb hz hB1 (c := v) (f := f) (M := baseL l f v) (base_ok hb hz hf hfz hc) (by simp [baseL])
  obtain ⟨T, k7⟩ := Er7_ok (l := l) (f := f) (c := v) hB2.own hM' x y hxy
  have o2 := hB2.own
  refine ⟨B2, ?_, hB2⟩
  rw [Er_is]
  show (Option.bind (fSeq Er0 _ [some B, some (.dat (rowD l)), none, none, none, none, none, none, none, none, none, none, none]) _) = _
  rw [seq_nx k0, seq_nx k1, Er25_ok hz hfz o1, seq_nx k6, k7]
  simp [outs, o2, own_dat]
set_option maxHeartbeats 4000000 in
theorem own_row_ok {n : Nat} (hn : n ≤ 256) {B : MD} (hB : BagOk B) : ∃ l B', F__law_own_row [B, .dat (.int n)] = some (.dat (rowD l), [some B', none]) ∧ BagOk B' ∧ Bits l ∧ l.length = n := by
  obtain ⟨w, B1, e1, hB1, w0, w1⟩ := draw hB (n := 6) (by decide) (by decide)
  obtain ⟨s', B2, e2, hB2, s0, s1⟩ := draw hB1 (n := 9) (by decide) (by decide)
  obtain ⟨s, hs, es⟩ : ∃ s : Nat, 1 ≤ s ∧ 1 + s' = s := ⟨(1 + s').toNat, by omega, by omega⟩
  have hs9 : s ≤ 9 := by omega
  have o := hB.own
  have o1 := hB1.own
  have o2 := hB2.own
  obtain ⟨Γ', e3, B3, l, rfl, hB3, hbl, hll⟩ := loopS_ok (tg := gN 5) (b := b1__law_own_row) (items := (List.range n).map fun (x : Nat) => PyData.int x) (Γ := [some B2, some (.dat (.int n)), some (.dat (.int w)), some (.dat (.int s)), some (.lst []), none])
    (P := fun i Γ => ∃ B l, Γ = [some B, some (.dat (.int n)), some (.dat (.int w)), some (.dat (.int s)), some (.lst ((l : List Int).map .int)), none] ∧ BagOk B ∧ Bits l ∧ l.length = i) 0 ⟨B2, [], rfl, hB2, fun _ h => (nomatch h), rfl⟩ (by
      rintro i d Γ hd ⟨B, l, rfl, hB, hbl, hll⟩
      rw [Nat.zero_add] at hll
      have hi : i < n := by
        have := (List.getElem?_eq_some_iff.mp hd).1
        simpa using this
      rw [List.getElem?_map, List.getElem?_range hi] at hd
      cases hd
      have fin : ∀ (b : Int) (B' : MD), (b = 0 ∨ b = 1) → BagOk B' → lsStep (gN 5) b1__law_own_row (.int (i : Nat)) [some B, some (.dat (.int n)), some (.dat (.int w)), some (.dat (.int s)), some (.lst (l.map .int)), none] = some (.nx [some B', some (.dat (.int n)), some (.dat (.int w)), some (.dat (.int s)), some (.lst (l.map .int ++ [.int b])), none]) →
          ∃ Γ2, (lsStep (gN 5) b1__law_own_row (.int (i : Nat)) [some B, some (.dat (.int n)), some (.dat (.int w)), some (.dat (.int s)), some (.lst (l.map .int)), none] = some (.nx Γ2) ∨ lsStep (gN 5) b1__law_own_row (.int (i : Nat)) [some B, some (.dat (.int n)), some (.dat (.int w)), some (.dat (.int s)), some (.lst (l.map .int)), none] = some (.ct Γ2)) ∧
            ∃ B l, Γ2 = [some B, some (.dat (.int n)), some (.dat (.int w)), some (.dat (.int s)), some (.lst ((l : List Int).map .int)), none] ∧ BagOk B ∧ Bits l ∧ l.length = 0 + i + 1 := by
        intro b B' hb hB' e
        refine ⟨_, .inl e, B', l ++ [b], by simp, hB', ?_, by simp; omega⟩
        intro x hx
        rcases List.mem_append.mp hx with h | h
        · exact hbl x h
        · rw [List.mem_singleton.mp h]
          exact hb
      have hz : l.length < 16777216 := by omega
      have o := hB.own
      have bitAt : ∀ j : Nat, j < l.length → ∀ q : Int, q = j → ∃ b, (b = 0 ∨ b = 1) ∧ atI (l.map PyData.int) q = some (.int b) := by
        rintro j hj q rfl
        refine ⟨l[j], hbl _ (List.getElem_mem hj), atI_nat ?_⟩
        rw [List.getElem?_map, List.getElem?_eq_getElem hj]
        rfl
      have hw : w < 2 ∨ w = 2 ∨ w = 3 ∨ w = 4 ∨ w = 5 := by omega
      rcases hw with hw | rfl | rfl | rfl | rfl
      · obtain ⟨b, B', e4, hB', b0, b1⟩ := draw hB (n := 2) (by decide) (by decide)
        have o' := hB'.own
        refine fin b B' (by omega) hB' ?_
        simp [fnOf, fSeq, fNil, fSet, fRet, fDrop, fIf, fFgt, fgtO, fgt, fFor, fIfE, fT, fTru, truD, fAnd, fOr, fNot, fAndV, fOrV, fNotV, fOp2, fVar, fC, fB, fACons, fANil, fTup, fLst, fNeg, gRel, gInt2, gInt2C, gAdd, gMulX_int, gIx, gLen, gAbs, gInt, gEq, gIs, gIsNot, dv_dat, dv_lst, dv_al, dvs, own_dat, own_lst, own_bag, own_dcK, own_scr, flat_dat, flat_lst, Res.fin, frzs_nil, frzs_cons, frz_dat, intT_int, outs, als, argsOf, putArgs, fCall, eqv_int, shp_int, shp_none, shp_bool, noOwn, ownAt, sizeLine_eq, fIter, itemsOf, fRange1, fRange2, eqX_int, eqX_str, fEnumA, fFrz, fNever, permOk, perm, fCallK, fCallP, gMax2, gMin2, gMax3, gMin3, fPar2, fMulti, putM, fAsgG, fLc, lcStep, lsStep, tYesF, gN, gT, gsCons, gsNil, b1__law_own_row, hw, o, o', e4, fAppend, lstS, hz]
      · obtain ⟨b, B', e4, hB', b0, b1⟩ := draw hB (n := 2 + (s : Int)) (by omega) (by omega)
        have o' := hB'.own
        by_cases hb : 0 < b
        · refine fin 0 B' (.inl rfl) hB' ?_
          simp [fnOf, fSeq, fNil, fSet, fRet, fDrop, fIf, fFgt, fgtO, fgt, fFor, fIfE, fT, fTru, truD, fAnd, fOr, fNot, fAndV, fOrV, fNotV, fOp2, fVar, fC, fB, fACons, fANil, fTup, fLst, fNeg, gRel, gInt2, gInt2C, gAdd, gMulX_int, gIx, gLen, gAbs, gInt, gEq, gIs, gIsNot, dv_dat, dv_lst, dv_al, dvs, own_dat, own_lst, own_bag, own_dcK, own_scr, flat_dat, flat_lst, Res.fin, frzs_nil, frzs_cons, frz_dat, intT_int, outs, als, argsOf, putArgs, fCall, eqv_int, shp_int, shp_none, shp_bool, noOwn, ownAt, sizeLine_eq, fIter, itemsOf, fRange1, fRange2, eqX_int, eqX_str, fEnumA, fFrz, fNever, permOk, perm, fCallK, fCallP, gMax2, gMin2, gMax3, gMin3, fPar2, fMulti, putM, fAsgG, fLc, lcStep, lsStep, tYesF, gN, gT, gsCons, gsNil, b1__law_own_row, o, o', e4, fAppend, lstS, hz, hb]
        · refine fin 1 B' (.inr rfl) hB' ?_
          simp [fnOf, fSeq, fNil, fSet, fRet, fDrop, fIf, fFgt, fgtO, fgt, fFor, fIfE, fT, fTru, truD, fAnd, fOr, fNot, fAndV, fOrV, fNotV, fOp2, fVar, fC, fB, fACons, fANil, fTup, fLst, fNeg, gRel, gInt2, gInt2C, gAdd, gMulX_int, gIx, gLen, gAbs, gInt, gEq, gIs, gIsNot, dv_dat, dv_lst, dv_al, dvs, own_dat, own_lst, own_bag, own_dcK, own_scr, flat_dat, flat_lst, Res.fin, frzs_nil, frzs_cons, frz_dat, intT_int, outs, als, argsOf, putArgs, fCall, eqv_int, shp_int, shp_none, shp_bool, noOwn, ownAt, sizeLine_eq, fIter, itemsOf, fRange1, fRange2, eqX_int, eqX_str, fEnumA, fFrz, fNever, permOk, perm, fCallK, fCallP, gMax2, gMin2, gMax3, gMin3, fPar2, fMulti, putM, fAsgG, fLc, lcStep, lsStep, tYesF, gN, gT, gsCons, gsNil, b1__law_own_row, o, o', e4, fAppend, lstS, hz, hb]
      · obtain ⟨b, B', e4, hB', b0, b1⟩ := draw hB (n := 2 + (s : Int)) (by omega) (by omega)
        have o' := hB'.own
        by_cases hb : 0 < b
        · refine fin 1 B' (.inr rfl) hB' ?_
          simp [fnOf, fSeq, fNil, fSet, fRet, fDrop, fIf, fFgt, fgtO, fgt, fFor, fIfE, fT, fTru, truD, fAnd, fOr, fNot, fAndV, fOrV, fNotV, fOp2, fVar, fC, fB, fACons, fANil, fTup, fLst, fNeg, gRel, gInt2, gInt2C, gAdd, gMulX_int, gIx, gLen, gAbs, gInt, gEq, gIs, gIsNot, dv_dat, dv_lst, dv_al, dvs, own_dat, own_lst, own_bag, own_dcK, own_scr, flat_dat, flat_lst, Res.fin, frzs_nil, frzs_cons, frz_dat, intT_int, outs, als, argsOf, putArgs, fCall, eqv_int, shp_int, shp_none, shp_bool, noOwn, ownAt, sizeLine_eq, fIter, itemsOf, fRange1, fRange2, eqX_int, eqX_str, fEnumA, fFrz, fNever, permOk, perm, fCallK, fCallP, gMax2, gMin2, gMax3, gMin3, fPar2, fMulti, putM, fAsgG, fLc, lcStep, lsStep, tYesF, gN, gT, gsCons, gsNil, b1__law_own_row, o, o', e4, fAppend, lstS, hz, hb]
        · refine fin 0 B' (.inl rfl) hB' ?_
          simp [fnOf, fSeq, fNil, fSet, fRet, fDrop, fIf, fFgt, fgtO, fgt, fFor, fIfE, fT, fTru, truD, fAnd, fOr, fNot, fAndV, fOrV, fNotV, fOp2, fVar, fC, fB, fACons, fANil, fTup, fLst, fNeg, gRel, gInt2, gInt2C, gAdd, gMulX_int, gIx, gLen, gAbs, gInt, gEq, gIs, gIsNot, dv_dat, dv_lst, dv_al, dvs, own_dat, own_lst, own_bag, own_dcK, own_scr, flat_dat, flat_lst, Res.fin, frzs_nil, frzs_cons, frz_dat, intT_int, outs, als, argsOf, putArgs, fCall, eqv_int, shp_int, shp_none, shp_bool, noOwn, ownAt, sizeLine_eq, fIter, itemsOf, fRange1, fRange2, eqX_int, eqX_str, fEnumA, fFrz, fNever, permOk, perm, fCallK, fCallP, gMax2, gMin2, gMax3, gMin3, fPar2, fMulti, putM, fAsgG, fLc, lcStep, lsStep, tYesF, gN, gT, gsCons, gsNil, b1__law_own_row, o, o', e4, fAppend, lstS, hz, hb]
      · by_cases h0 : i = 0
        · subst h0
          obtain ⟨b, B', e4, hB', b0, b1⟩ := draw hB (n := 2) (by decide) (by decide)
          have o' := hB'.own
          refine fin b B' (by omega) hB' ?_
          simp [fnOf, fSeq, fNil, fSet, fRet, fDrop, fIf, fFgt, fgtO, fgt, fFor, fIfE, fT, fTru, truD, fAnd, fOr, fNot, fAndV, fOrV, fNotV, fOp2, fVar, fC, fB, fACons, fANil, fTup, fLst, fNeg, gRel, gInt2, gInt2C, gAdd, gMulX_int, gIx, gLen, gAbs, gInt, gEq, gIs, gIsNot, dv_dat, dv_lst, dv_al, dvs, own_dat, own_lst, own_bag, own_dcK, own_scr, flat_dat, flat_lst, Res.fin, frzs_nil, frzs_cons, frz_dat, intT_int, outs, als, argsOf, putArgs, fCall, eqv_int, shp_int, shp_none, shp_bool, noOwn, ownAt, sizeLine_eq, fIter, itemsOf, fRange1, fRange2, eqX_int, eqX_str, fEnumA, fFrz, fNever, permOk, perm, fCallK, fCallP, gMax2, gMin2, gMax3, gMin3, fPar2, fMulti, putM, fAsgG, fLc, lcStep, lsStep, tYesF, gN, gT, gsCons, gsNil, b1__law_own_row, o, o', e4, fAppend, lstS, hz]
        · have h0' : 0 < i := by omega
          obtain ⟨b, B', e4, hB', b0, b1⟩ := draw hB (n := 2 + (s : Int)) (by omega) (by omega)
          have o' := hB'.own
          by_cases hb : 1 < b
          · obtain ⟨c, hc, ec⟩ := bitAt (i - 1) (by omega) ((i : Int) - 1) (by omega)
            refine fin c B' hc hB' ?_
            simp [fnOf, fSeq, fNil, fSet, fRet, fDrop, fIf, fFgt, fgtO, fgt, fFor, fIfE, fT, fTru, truD, fAnd, fOr, fNot, fAndV, fOrV, fNotV, fOp2, fVar, fC, fB, fACons, fANil, fTup, fLst, fNeg, gRel, gInt2, gInt2C, gAdd, gMulX_int, gIx, gLen, gAbs, gInt, gEq, gIs, gIsNot, dv_dat, dv_lst, dv_al, dvs, own_dat, own_lst, own_bag, own_dcK, own_scr, flat_dat, flat_lst, Res.fin, frzs_nil, frzs_cons, frz_dat, intT_int, outs, als, argsOf, putArgs, fCall, eqv_int, shp_int, shp_none, shp_bool, noOwn, ownAt, sizeLine_eq, fIter, itemsOf, fRange1, fRange2, eqX_int, eqX_str, fEnumA, fFrz, fNever, permOk, perm, fCallK, fCallP, gMax2, gMin2, gMax3, gMin3, fPar2, fMulti, putM, fAsgG, fLc, lcStep, lsStep, tYesF, gN, gT, gsCons, gsNil, b1__law_own_row, o, o', e4, fAppend, lstS, hz, hb, h0', ec]
          · obtain ⟨c, B2, e5, hB2, c0, c1⟩ := draw hB' (n := 2) (by decide) (by decide)
            have o2 := hB2.own
            refine fin c B2 (by omega) hB2 ?_
            simp [fnOf, fSeq, fNil, fSet, fRet, fDrop, fIf, fFgt, fgtO, fgt, fFor, fIfE, fT, fTru, truD, fAnd, fOr, fNot, fAndV, fOrV, fNotV, fOp2, fVar, fC, fB, fACons, fANil, fTup, fLst, fNeg, gRel, gInt2, gInt2C, gAdd, gMulX_int, gIx, gLen, gAbs, gInt, gEq, gIs, gIsNot, dv_dat, dv_lst, dv_al, dvs, own_dat, own_lst, own_bag, own_dcK, own_scr, flat_dat, flat_lst, Res.fin, frzs_nil, frzs_cons, frz_dat, intT_int, outs, als, argsOf, putArgs, fCall, eqv_int, shp_int, shp_none, shp_bool, noOwn, ownAt, sizeLine_eq, fIter, itemsOf, fRange1, fRange2, eqX_int, eqX_str, fEnumA, fFrz, fNever, permOk, perm, fCallK, fCallP, gMax2, gMin2, gMax3, gMin3, fPar2, fMulti, putM, fAsgG, fLc, lcStep, lsStep, tYesF, gN, gT, gsCons, gsNil, b1__law_own_row, o, o', e4, fAppend, lstS, hz, hb, h0', e5, o2]
      · by_cases hb : s ≤ i
        · obtain ⟨c, hc, ec⟩ := bitAt (i - s) (by omega) ((i : Int) - s) (by omega)
          refine fin c B hc hB ?_
          simp [fnOf, fSeq, fNil, fSet, fRet, fDrop, fIf, fFgt, fgtO, fgt, fFor, fIfE, fT, fTru, truD, fAnd, fOr, fNot, fAndV, fOrV, fNotV, fOp2, fVar, fC, fB, fACons, fANil, fTup, fLst, fNeg, gRel, gInt2, gInt2C, gAdd, gMulX_int, gIx, gLen, gAbs, gInt, gEq, gIs, gIsNot, dv_dat, dv_lst, dv_al, dvs, own_dat, own_lst, own_bag, own_dcK, own_scr, flat_dat, flat_lst, Res.fin, frzs_nil, frzs_cons, frz_dat, intT_int, outs, als, argsOf, putArgs, fCall, eqv_int, shp_int, shp_none, shp_bool, noOwn, ownAt, sizeLine_eq, fIter, itemsOf, fRange1, fRange2, eqX_int, eqX_str, fEnumA, fFrz, fNever, permOk, perm, fCallK, fCallP, gMax2, gMin2, gMax3, gMin3, fPar2, fMulti, putM, fAsgG, fLc, lcStep, lsStep, tYesF, gN, gT, gsCons, gsNil, b1__law_own_row, o, fAppend, lstS, hz, hb, ec]
        · obtain ⟨b, B', e4, hB', b0, b1⟩ := draw hB (n := 2) (by decide) (by decide)
          have o' := hB'.own
          refine fin b B' (by omega) hB' ?_
          simp [fnOf, fSeq, fNil, fSet, fRet, fDrop, fIf, fFgt, fgtO, fgt, fFor, fIfE, fT, fTru, truD, fAnd, fOr, fNot, fAndV, fOrV, fNotV, fOp2, fVar, fC, fB, fACons, fANil, fTup, fLst, fNeg, gRel, gInt2, gInt2C, gAdd, gMulX_int, gIx, gLen, gAbs, gInt, gEq, gIs, gIsNot, dv_dat, dv_lst, dv_al, dvs, own_dat, own_lst, own_bag, own_dcK, own_scr, flat_dat, flat_lst, Res.fin, frzs_nil, frzs_cons, frz_dat, intT_int, outs, als, argsOf, putArgs, fCall, eqv_int, shp_int, shp_none, shp_bool, noOwn, ownAt, sizeLine_eq, fIter, itemsOf, fRange1, fRange2, eqX_int, eqX_str, fEnumA, fFrz, fNever, permOk, perm, fCallK, fCallP, gMax2, gMin2, gMax3, gMin3, fPar2, fMulti, putM, fAsgG, fLc, lcStep, lsStep, tYesF, gN, gT, gsCons, gsNil, b1__law_own_row, o, o', e4, fAppend, lstS, hz, hb])
  have o3 := hB3.own
  have r := rg1_nat (p := n) (by omega)
  rw [List.length_map, List.length_range, Nat.zero_add] at hll
  refine ⟨l, B3, ?_, hB3, hbl, hll⟩
  simp [fnOf, fSeq, fNil, fSet, fRet, fDrop, fIf, fFgt, fgtO, fgt, fFor, fIfE, fT, fTru, truD, fAnd, fOr, fNot, fAndV, fOrV, fNotV, fOp2, fVar, fC, fB, fACons, fANil, fTup, fLst, fNeg, gRel, gInt2, gInt2C, gAdd, gMulX_int, gIx, gLen, gAbs, gInt, gEq, gIs, gIsNot, dv_dat, dv_lst, dv_al, dvs, own_dat, own_lst, own_bag, own_dcK, own_scr, flat_dat, flat_lst, Res.fin, frzs_nil, frzs_cons, frz_dat, intT_int, outs, als, argsOf, putArgs, fCall, eqv_int, shp_int, shp_none, shp_bool, noOwn, ownAt, sizeLine_eq, fIter, itemsOf, fRange1, fRange2, eqX_int, eqX_str, fEnumA, fFrz, fNever, permOk, perm, fCallK, fCallP, gMax2, gMin2, gMax3, gMin3, fPar2, fMulti, putM, fAsgG, fLc, F__law_own_row, o, o1, o2, o3, e1, e2, es, r, e3, gToT]
theorem stretch_same {l : List Int} (hb : Bits l) : F_stretch_lean [.dat (rowD l)] = some (.dat (.int (stretchL l)), [none]) := by
  rw [← stretch_eq hb]
  exact stretchP_ok l
set_option maxHeartbeats 4000000 in
theorem law_true (ns : List Int) (hl : ns.length ≤ 63) : ∃ ms', F_law [.scr ns] = some (.dat (.bool true), ms') := by
  obtain ⟨B0, e0, hB0⟩ := own_bag_ok ns hl
  obtain ⟨w, B1, e1, hB1, w0, w1⟩ := draw hB0 (n := 10) (by decide) (by decide)
  obtain ⟨m', B2, e2, hB2, m0, m1⟩ := draw hB1 (n := 41) (by decide) (by decide)
  have o0 := hB0.own
  have o1 := hB1.own
  have o2 := hB2.own
  obtain ⟨m, B3, hm, hB3, e3⟩ : ∃ (m : Nat) (B3 : MD), m ≤ 256 ∧ BagOk B3 ∧ fSeq La0 (fSeq La1 (fSeq La2 (fSeq La3 (fSeq La4 (fSeq La5 (fSeq La6 (fSeq La7 (fSeq La8 La9)))))))) [some (.scr ns), none, none, none, none, none, none, none] =
      fSeq La4 (fSeq La5 (fSeq La6 (fSeq La7 (fSeq La8 La9)))) [some (.scr ns), some B3, some (.dat (.int w)), some (.dat (.int (m : Nat))), none, none, none, none] := by
    have k0 : La0 [some (.scr ns), none, none, none, none, none, none, none] = some (.nx [some (.scr ns), some B0, none, none, none, none, none, none]) := by simp [fnOf, fSeq, fNil, fSet, fRet, fDrop, fIf, fFgt, fgtO, fgt, fFor, fIfE, fT, fTru, truD, fAnd, fOr, fNot, fAndV, fOrV, fNotV, fOp2, fVar, fC, fB, fACons, fANil, fTup, fLst, fNeg, gRel, gInt2, gInt2C, gAdd, gMulX_int, gIx, gLen, gAbs, gInt, gEq, gIs, gIsNot, dv_dat, dv_lst, dv_al, dvs, own_dat, own_lst, own_bag, own_dcK, own_scr, flat_dat, flat_lst, Res.fin, frzs_nil, frzs_cons, frz_dat, intT_int, outs, als, argsOf, putArgs, fCall, eqv_int, shp_int, shp_none, shp_bool, noOwn, ownAt, sizeLine_eq, fIter, itemsOf, fRange1, fRange2, eqX_int, eqX_str, fEnumA, fFrz, fNever, permOk, perm, fCallK, fCallP, gMax2, gMin2, gMax3, gMin3, fPar2, fMulti, putM, fAsgG, fLc, La0, e0, o0]
    have k1 : La1 [some (.scr ns), some B0, none, none, none, none, none, none] = some (.nx [some (.scr ns), some B1, some (.dat (.int w)), none, none, none, none, none]) := by simp [fnOf, fSeq, fNil, fSet, fRet, fDrop, fIf, fFgt, fgtO, fgt, fFor, fIfE, fT, fTru, truD, fAnd, fOr, fNot, fAndV, fOrV, fNotV, fOp2, fVar, fC, fB, fACons, fANil, fTup, fLst, fNeg, gRel, gInt2, gInt2C, gAdd, gMulX_int, gIx, gLen, gAbs, gInt, gEq, gIs, gIsNot, dv_dat, dv_lst, dv_al, dvs, own_dat, own_lst, own_bag, own_dcK, own_scr, flat_dat, flat_lst, Res.fin, frzs_nil, frzs_cons, frz_dat, intT_int, outs, als, argsOf, putArgs, fCall, eqv_int, shp_int, shp_none, shp_bool, noOwn, ownAt, sizeLine_eq, fIter, itemsOf, fRange1, fRange2, eqX_int, eqX_str, fEnumA, fFrz, fNever, permOk, perm, fCallK, fCallP, gMax2, gMin2, gMax3, gMin3, fPar2, fMulti, putM, fAsgG, fLc, La1, e1, o0, o1]
    have k2 : La2 [some (.scr ns), some B1, some (.dat (.int w)), none, none, none, none, none] = some (.nx [some (.scr ns), some B2, some (.dat (.int w)), some (.dat (.int m')), none, none, none, none]) := by simp [fnOf, fSeq, fNil, fSet, fRet, fDrop, fIf, fFgt, fgtO, fgt, fFor, fIfE, fT, fTru, truD, fAnd, fOr, fNot, fAndV, fOrV, fNotV, fOp2, fVar, fC, fB, fACons, fANil, fTup, fLst, fNeg, gRel, gInt2, gInt2C, gAdd, gMulX_int, gIx, gLen, gAbs, gInt, gEq, gIs, gIsNot, dv_dat, dv_lst, dv_al, dvs, own_dat, own_lst, own_bag, own_dcK, own_scr, flat_dat, flat_lst, Res.fin, frzs_nil, frzs_cons, frz_dat, intT_int, outs, als, argsOf, putArgs, fCall, eqv_int, shp_int, shp_none, shp_bool, noOwn, ownAt, sizeLine_eq, fIter, itemsOf, fRange1, fRange2, eqX_int, eqX_str, fEnumA, fFrz, fNever, permOk, perm, fCallK, fCallP, gMax2, gMin2, gMax3, gMin3, fPar2, fMulti, putM, fAsgG, fLc, La2, e2, o1, o2]
    by_cases h0 : w = 0
    · subst h0
      obtain ⟨u, B3, e3, hB3, u0, u1⟩ := draw hB2 (n := 57) (by decide) (by decide)
      obtain ⟨d, B4, e4, hB4, md⟩ := pick hB3 (ds := [.int 256, .int 256, .int 255, .int (200 + u)]) (by simp) (by simp)
      have o3 := hB3.own
      have o4 := hB4.own
      obtain ⟨m, hm, rfl⟩ : ∃ m : Nat, m ≤ 256 ∧ d = .int m := by
        simp at md
        rcases md with rfl | rfl | rfl
        · exact ⟨256, by decide, rfl⟩
        · exact ⟨255, by decide, rfl⟩
        · exact ⟨(200 + u).toNat, by omega, by rw [Int.toNat_of_nonneg (by omega)]⟩
      refine ⟨m, B4, hm, hB4, ?_⟩
      have k3 : La3 [some (.scr ns), some B2, some (.dat (.int 0)), some (.dat (.int m')), none, none, none, none] = some (.nx [some (.scr ns), some B4, some (.dat (.int 0)), some (.dat (.int m)), none, none, none, none]) := by simp [fnOf, fSeq, fNil, fSet, fRet, fDrop, fIf, fFgt, fgtO, fgt, fFor, fIfE, fT, fTru, truD, fAnd, fOr, fNot, fAndV, fOrV, fNotV, fOp2, fVar, fC, fB, fACons, fANil, fTup, fLst, fNeg, gRel, gInt2, gInt2C, gAdd, gMulX_int, gIx, gLen, gAbs, gInt, gEq, gIs, gIsNot, dv_dat, dv_lst, dv_al, dvs, own_dat, own_lst, own_bag, own_dcK, own_scr, flat_dat, flat_lst, Res.fin, frzs_nil, frzs_cons, frz_dat, intT_int, outs, als, argsOf, putArgs, fCall, eqv_int, shp_int, shp_none, shp_bool, noOwn, ownAt, sizeLine_eq, fIter, itemsOf, fRange1, fRange2, eqX_int, eqX_str, fEnumA, fFrz, fNever, permOk, perm, fCallK, fCallP, gMax2, gMin2, gMax3, gMin3, fPar2, fMulti, putM, fAsgG, fLc, La3, e3, e4, o2, o3, o4]
      rw [seq_nx k0, seq_nx k1, seq_nx k2, seq_nx k3]
    · by_cases h1 : w = 1
      · subst h1
        obtain ⟨u, B3, e3, hB3, u0, u1⟩ := draw hB2 (n := 4) (by decide) (by decide)
        have o3 := hB3.own
        refine ⟨u.toNat, B3, by omega, hB3, ?_⟩
        have eu : ((u.toNat : Nat) : Int) = u := by omega
        have k3 : La3 [some (.scr ns), some B2, some (.dat (.int 1)), some (.dat (.int m')), none, none, none, none] = some (.nx [some (.scr ns), some B3, some (.dat (.int 1)), some (.dat (.int u)), none, none, none, none]) := by simp [fnOf, fSeq, fNil, fSet, fRet, fDrop, fIf, fFgt, fgtO, fgt, fFor, fIfE, fT, fTru, truD, fAnd, fOr, fNot, fAndV, fOrV, fNotV, fOp2, fVar, fC, fB, fACons, fANil, fTup, fLst, fNeg, gRel, gInt2, gInt2C, gAdd, gMulX_int, gIx, gLen, gAbs, gInt, gEq, gIs, gIsNot, dv_dat, dv_lst, dv_al, dvs, own_dat, own_lst, own_bag, own_dcK, own_scr, flat_dat, flat_lst, Res.fin, frzs_nil, frzs_cons, frz_dat, intT_int, outs, als, argsOf, putArgs, fCall, eqv_int, shp_int, shp_none, shp_bool, noOwn, ownAt, sizeLine_eq, fIter, itemsOf, fRange1, fRange2, eqX_int, eqX_str, fEnumA, fFrz, fNever, permOk, perm, fCallK, fCallP, gMax2, gMin2, gMax3, gMin3, fPar2, fMulti, putM, fAsgG, fLc, La3, e3, o2, o3]
        rw [seq_nx k0, seq_nx k1, seq_nx k2, seq_nx k3, eu]
      · refine ⟨m'.toNat, B2, by omega, hB2, ?_⟩
        have eu : ((m'.toNat : Nat) : Int) = m' := by omega
        have k3 : La3 [some (.scr ns), some B2, some (.dat (.int w)), some (.dat (.int m')), none, none, none, none] = some (.nx [some (.scr ns), some B2, some (.dat (.int w)), some (.dat (.int m')), none, none, none, none]) := by simp [fnOf, fSeq, fNil, fSet, fRet, fDrop, fIf, fFgt, fgtO, fgt, fFor, fIfE, fT, fTru, truD, fAnd, fOr, fNot, fAndV, fOrV, fNotV, fOp2, fVar, fC, fB, fACons, fANil, fTup, fLst, fNeg, gRel, gInt2, gInt2C, gAdd, gMulX_int, gIx, gLen, gAbs, gInt, gEq, gIs, gIsNot, dv_dat, dv_lst, dv_al, dvs, own_dat, own_lst, own_bag, own_dcK, own_scr, flat_dat, flat_lst, Res.fin, frzs_nil, frzs_cons, frz_dat, intT_int, outs, als, argsOf, putArgs, fCall, eqv_int, shp_int, shp_none, shp_bool, noOwn, ownAt, sizeLine_eq, fIter, itemsOf, fRange1, fRange2, eqX_int, eqX_str, fEnumA, fFrz, fNever, permOk, perm, fCallK, fCallP, gMax2, gMin2, gMax3, gMin3, fPar2, fMulti, putM, fAsgG, fLc, La3, h0, h1]
        rw [seq_nx k0, seq_nx k1, seq_nx k2, seq_nx k3, eu]
  obtain ⟨l, B4, e4, hB4, hb, hlm⟩ := own_row_ok hm hB3
  obtain ⟨B5, e5, hB5⟩ := errors_right hb (by omega) hB4
  obtain ⟨B6, e6, hB6⟩ := leans_right hb (by omega) hB5
  have o3 := hB3.own
  have o4 := hB4.own
  have o5 := hB5.own
  have o6 := hB6.own
  have k4 : La4 [some (.scr ns), some B3, some (.dat (.int w)), some (.dat (.int m)), none, none, none, none] = some (.nx [some (.scr ns), some B4, some (.dat (.int w)), some (.dat (.int m)), some (.dat (rowD l)), none, none, none]) := by simp [fnOf, fSeq, fNil, fSet, fRet, fDrop, fIf, fFgt, fgtO, fgt, fFor, fIfE, fT, fTru, truD, fAnd, fOr, fNot, fAndV, fOrV, fNotV, fOp2, fVar, fC, fB, fACons, fANil, fTup, fLst, fNeg, gRel, gInt2, gInt2C, gAdd, gMulX_int, gIx, gLen, gAbs, gInt, gEq, gIs, gIsNot, dv_dat, dv_lst, dv_al, dvs, own_dat, own_lst, own_bag, own_dcK, own_scr, flat_dat, flat_lst, Res.fin, frzs_nil, frzs_cons, frz_dat, intT_int, outs, als, argsOf, putArgs, fCall, eqv_int, shp_int, shp_none, shp_bool, noOwn, ownAt, sizeLine_eq, fIter, itemsOf, fRange1, fRange2, eqX_int, eqX_str, fEnumA, fFrz, fNever, permOk, perm, fCallK, fCallP, gMax2, gMin2, gMax3, gMin3, fPar2, fMulti, putM, fAsgG, fLc, La4, e4, o3, o4]
  have k5 : La5 [some (.scr ns), some B4, some (.dat (.int w)), some (.dat (.int m)), some (.dat (rowD l)), none, none, none] = some (.nx [some (.scr ns), some B6, some (.dat (.int w)), some (.dat (.int m)), some (.dat (rowD l)), none, none, none]) := by simp [fnOf, fSeq, fNil, fSet, fRet, fDrop, fIf, fFgt, fgtO, fgt, fFor, fIfE, fT, fTru, truD, fAnd, fOr, fNot, fAndV, fOrV, fNotV, fOp2, fVar, fC, fB, fACons, fANil, fTup, fLst, fNeg, gRel, gInt2, gInt2C, gAdd, gMulX_int, gIx, gLen, gAbs, gInt, gEq, gIs, gIsNot, dv_dat, dv_lst, dv_al, dvs, own_dat, own_lst, own_bag, own_dcK, own_scr, flat_dat, flat_lst, Res.fin, frzs_nil, frzs_cons, frz_dat, intT_int, outs, als, argsOf, putArgs, fCall, eqv_int, shp_int, shp_none, shp_bool, noOwn, ownAt, sizeLine_eq, fIter, itemsOf, fRange1, fRange2, eqX_int, eqX_str, fEnumA, fFrz, fNever, permOk, perm, fCallK, fCallP, gMax2, gMin2, gMax3, gMin3, fPar2, fMulti, putM, fAsgG, fLc, La5, e5, e6, o4, o5, o6]
  obtain ⟨r, B7, hB7, hbr, hr0, hrz, k6⟩ : ∃ (r : List Int) (B7 : MD), BagOk B7 ∧ Bits r ∧ 0 < r.length ∧ r.length ≤ 256 ∧ La6 [some (.scr ns), some B6, some (.dat (.int w)), some (.dat (.int m)), some (.dat (rowD l)), none, none, none] = some (.nx [some (.scr ns), some B7, some (.dat (.int w)), some (.dat (.int m)), some (.dat (rowD l)), some (.dat (rowD r)), none, none]) := by
    by_cases h0 : l = []
    · subst h0
      obtain ⟨u, B7, e7, hB7, u0, u1⟩ := draw hB6 (n := 2) (by decide) (by decide)
      have o7 := hB7.own
      have q : gEqX true (rowD []) (.tuple []) = some (.val (.bool false)) := eqX_ints true [] []
      exact ⟨[u], B7, hB7, fun x hx => by rw [List.mem_singleton.mp hx]; omega, by simp, by simp, by simp [fnOf, fSeq, fNil, fSet, fRet, fDrop, fIf, fFgt, fgtO, fgt, fFor, fIfE, fT, fTru, truD, fAnd, fOr, fNot, fAndV, fOrV, fNotV, fOp2, fVar, fC, fB, fACons, fANil, fTup, fLst, fNeg, gRel, gInt2, gInt2C, gAdd, gMulX_int, gIx, gLen, gAbs, gInt, gEq, gIs, gIsNot, dv_dat, dv_lst, dv_al, dvs, own_dat, own_lst, own_bag, own_dcK, own_scr, flat_dat, flat_lst, Res.fin, frzs_nil, frzs_cons, frz_dat, intT_int, outs, als, argsOf, putArgs, fCall, eqv_int, shp_int, shp_none, shp_bool, noOwn, ownAt, sizeLine_eq, fIter, itemsOf, fRange1, fRange2, eqX_int, eqX_str, fEnumA, fFrz, fNever, permOk, perm, fCallK, fCallP, gMax2, gMin2, gMax3, gMin3, fPar2, fMulti, putM, fAsgG, fLc, La6, q, e7, o6, o7]⟩
    · have q : gEqX true (rowD l) (.tuple []) = some (.val (.bool (!decide (l = [])))) := eqX_ints true l []
      rw [decide_eq_false h0] at q
      exact ⟨l, B6, hB6, hb, List.length_pos_iff.mpr h0, by omega, by simp [fnOf, fSeq, fNil, fSet, fRet, fDrop, fIf, fFgt, fgtO, fgt, fFor, fIfE, fT, fTru, truD, fAnd, fOr, fNot, fAndV, fOrV, fNotV, fOp2, fVar, fC, fB, fACons, fANil, fTup, fLst, fNeg, gRel, gInt2, gInt2C, gAdd, gMulX_int, gIx, gLen, gAbs, gInt, gEq, gIs, gIsNot, dv_dat, dv_lst, dv_al, dvs, own_dat, own_lst, own_bag, own_dcK, own_scr, flat_dat, flat_lst, Res.fin, frzs_nil, frzs_cons, frz_dat, intT_int, outs, als, argsOf, putArgs, fCall, eqv_int, shp_int, shp_none, shp_bool, noOwn, ownAt, sizeLine_eq, fIter, itemsOf, fRange1, fRange2, eqX_int, eqX_str, fEnumA, fFrz, fNever, permOk, perm, fCallK, fCallP, gMax2, gMin2, gMax3, gMin3, fPar2, fMulti, putM, fAsgG, fLc, La6, q]⟩
  obtain ⟨u, B8, e8, hB8, u0, u1⟩ := draw hB7 (n := 7) (by decide) (by decide)
  obtain ⟨n, hn0, hn, en⟩ : ∃ n : Nat, 0 < n ∧ n ≤ 7 ∧ 1 + u = n := ⟨(1 + u).toNat, by omega, by omega, by omega⟩
  obtain ⟨t, B9, e9, hB9, hbt, htl⟩ := own_row_ok (n := n) (by omega) hB8
  have o7 := hB7.own
  have o8 := hB8.own
  have o9 := hB9.own
  have k7 : La7 [some (.scr ns), some B7, some (.dat (.int w)), some (.dat (.int m)), some (.dat (rowD l)), some (.dat (rowD r)), none, none] = some (.nx [some (.scr ns), some B9, some (.dat (.int w)), some (.dat (.int m)), some (.dat (rowD l)), some (.dat (rowD r)), some (.dat (rowD t)), none]) := by simp [fnOf, fSeq, fNil, fSet, fRet, fDrop, fIf, fFgt, fgtO, fgt, fFor, fIfE, fT, fTru, truD, fAnd, fOr, fNot, fAndV, fOrV, fNotV, fOp2, fVar, fC, fB, fACons, fANil, fTup, fLst, fNeg, gRel, gInt2, gInt2C, gAdd, gMulX_int, gIx, gLen, gAbs, gInt, gEq, gIs, gIsNot, dv_dat, dv_lst, dv_al, dvs, own_dat, own_lst, own_bag, own_dcK, own_scr, flat_dat, flat_lst, Res.fin, frzs_nil, frzs_cons, frz_dat, intT_int, outs, als, argsOf, putArgs, fCall, eqv_int, shp_int, shp_none, shp_bool, noOwn, ownAt, sizeLine_eq, fIter, itemsOf, fRange1, fRange2, eqX_int, eqX_str, fEnumA, fFrz, fNever, permOk, perm, fCallK, fCallP, gMax2, gMin2, gMax3, gMin3, fPar2, fMulti, putM, fAsgG, fLc, La7, e8, e9, en, o7, o8, o9]
  have turn : ∀ (x : List Int) (B : MD), BagOk B → Bits x → 0 < x.length → x.length ≤ 1000 → ∃ B', BagOk B' ∧ lsStep (gN 7) b1_law (rowD x) [some (.scr ns), some B, some (.dat (.int w)), some (.dat (.int m)), some (.dat (rowD l)), some (.dat (rowD r)), some (.dat (rowD t)), none] = some (.nx [some (.scr ns), some B', some (.dat (.int w)), some (.dat (.int m)), some (.dat (rowD l)), some (.dat (rowD r)), some (.dat (rowD t)), none]) := by
    intro x B hB hx h0 hz
    obtain ⟨C1, k1, hC1⟩ := matches_right h0 hz hB
    obtain ⟨C2, k2, hC2⟩ := words_right hx h0 hz hC1
    have p := hB.own
    have p1 := hC1.own
    have p2 := hC2.own
    exact ⟨C2, hC2, by simp [fnOf, fSeq, fNil, fSet, fRet, fDrop, fIf, fFgt, fgtO, fgt, fFor, fIfE, fT, fTru, truD, fAnd, fOr, fNot, fAndV, fOrV, fNotV, fOp2, fVar, fC, fB, fACons, fANil, fTup, fLst, fNeg, gRel, gInt2, gInt2C, gAdd, gMulX_int, gIx, gLen, gAbs, gInt, gEq, gIs, gIsNot, dv_dat, dv_lst, dv_al, dvs, own_dat, own_lst, own_bag, own_dcK, own_scr, flat_dat, flat_lst, Res.fin, frzs_nil, frzs_cons, frz_dat, intT_int, outs, als, argsOf, putArgs, fCall, eqv_int, shp_int, shp_none, shp_bool, noOwn, ownAt, sizeLine_eq, fIter, itemsOf, fRange1, fRange2, eqX_int, eqX_str, fEnumA, fFrz, fNever, permOk, perm, fCallK, fCallP, gMax2, gMin2, gMax3, gMin3, fPar2, fMulti, putM, fAsgG, fLc, lcStep, lsStep, tYesF, gN, gT, gsCons, gsNil, b1_law, k1, k2, p, p1, p2]⟩
  obtain ⟨C1, hC1, t1⟩ := turn r B9 hB9 hbr hr0 (by omega)
  obtain ⟨C2, hC2, t2⟩ := turn t C1 hC1 hbt (by omega) (by omega)
  have k8 : La8 [some (.scr ns), some B9, some (.dat (.int w)), some (.dat (.int m)), some (.dat (rowD l)), some (.dat (rowD r)), some (.dat (rowD t)), none] = some (.nx [some (.scr ns), some C2, some (.dat (.int w)), some (.dat (.int m)), some (.dat (rowD l)), some (.dat (rowD r)), some (.dat (rowD t)), none]) := by
    have e : loopS (gN 7) b1_law [rowD r, rowD t] [some (.scr ns), some B9, some (.dat (.int w)), some (.dat (.int m)), some (.dat (rowD l)), some (.dat (rowD r)), some (.dat (rowD t)), none] = some (.nx [some (.scr ns), some C2, some (.dat (.int w)), some (.dat (.int m)), some (.dat (rowD l)), some (.dat (rowD r)), some (.dat (rowD t)), none]) := by
      rw [loopS_cons, t1, Option.bind_some]
      dsimp only
      rw [loopS_cons, t2]
      rfl
    simp [fnOf, fSeq, fNil, fSet, fRet, fDrop, fIf, fFgt, fgtO, fgt, fFor, fIfE, fT, fTru, truD, fAnd, fOr, fNot, fAndV, fOrV, fNotV, fOp2, fVar, fC, fB, fACons, fANil, fTup, fLst, fNeg, gRel, gInt2, gInt2C, gAdd, gMulX_int, gIx, gLen, gAbs, gInt, gEq, gIs, gIsNot, dv_dat, dv_lst, dv_al, dvs, own_dat, own_lst, own_bag, own_dcK, own_scr, flat_dat, flat_lst, Res.fin, frzs_nil, frzs_cons, frz_dat, intT_int, outs, als, argsOf, putArgs, fCall, eqv_int, shp_int, shp_none, shp_bool, noOwn, ownAt, sizeLine_eq, fIter, itemsOf, fRange1, fRange2, eqX_int, eqX_str, fEnumA, fFrz, fNever, permOk, perm, fCallK, fCallP, gMax2, gMin2, gMax3, gMin3, fPar2, fMulti, putM, fAsgG, fLc, La8, e]
  have s1 := stretch_same hbt
  have s2 := stretchL_ok hbt
  have s3 := same_int (stretchL t)
  have s4 := re_bits (bits_is hbt) (by simpa using (show t.length ≤ 256 by omega))
  have s5 := same8 (.non 1) (by decide)
  have oc := hC2.own
  refine ⟨[none], ?_⟩
  rw [La_is]
  show (Option.bind (fSeq La0 _ [some (.scr ns), none, none, none, none, none, none, none]) _) = _
  rw [e3, seq_nx k4, seq_nx k5, seq_nx k6, seq_nx k7, seq_nx k8]
  simp [fnOf, fSeq, fNil, fSet, fRet, fDrop, fIf, fFgt, fgtO, fgt, fFor, fIfE, fT, fTru, truD, fAnd, fOr, fNot, fAndV, fOrV, fNotV, fOp2, fVar, fC, fB, fACons, fANil, fTup, fLst, fNeg, gRel, gInt2, gInt2C, gAdd, gMulX_int, gIx, gLen, gAbs, gInt, gEq, gIs, gIsNot, dv_dat, dv_lst, dv_al, dvs, own_dat, own_lst, own_bag, own_dcK, own_scr, flat_dat, flat_lst, Res.fin, frzs_nil, frzs_cons, frz_dat, intT_int, outs, als, argsOf, putArgs, fCall, eqv_int, shp_int, shp_none, shp_bool, noOwn, ownAt, sizeLine_eq, fIter, itemsOf, fRange1, fRange2, eqX_int, eqX_str, fEnumA, fFrz, fNever, permOk, perm, fCallK, fCallP, gMax2, gMin2, gMax3, gMin3, fPar2, fMulti, putM, fAsgG, fLc, La9, s1, s2, s3, s4, s5]
end Lw

end

open PySem PySem.W PyProof.Rows in
set_option maxRecDepth 100000 in
set_option maxHeartbeats 0 in
theorem PySem.Challenge.cw_looksdrawn_k43_whole_rows_of_bits_holds : PySem.Challenge.rw_looksdrawn_k43_whole_rows_of_bits.Holds := by
  w_on; o_law; k_head; (case hw => w_witness2)
  k_fill
  refine Fx.walk_end (l := PySem.Challenge.rw_looksdrawn_k43_whole_rows_of_bits) (k := 11) (F := Lw.F_law) rfl rfl ⟨⟨rfl, by decide, by decide⟩, rfl⟩ (fun w h Y => PySem.W.kIn_of Y) Lw.law_true ?theDefs
  case theDefs =>
    intro w mg fa h KX G hmg
    refine' Lw.all_mk KX G hmg ?B ?E0 ?E1 ?E2 ?E3 ?E4 ?E5 ?E6 ?E7 ?E8 ?E9 ?E10 ?E11 ?E12 ?E13 ?E14 ?E15 ?E16 ?E17 ?E18 ?E19 ?E20
    (case B => (refine' ⟨PySem.W.mg_none_of KX G ?z0, PySem.W.mg_none_of KX G ?z1, PySem.W.mg_none_of KX G ?z2, PySem.W.mg_none_of KX G ?z3, PySem.W.mg_none_of KX G ?z4, PySem.W.mg_none_of KX G ?z5, PySem.W.mg_none_of KX G ?z6, PySem.W.mg_none_of KX G ?z7, PySem.W.mg_none_of KX G ?z8, PySem.W.mg_none_of KX G ?z9, PySem.W.mg_none_of KX G ?z10, PySem.W.mg_none_of KX G ?z11, PySem.W.mg_none_of KX G ?z12, PySem.W.mg_none_of KX G ?z13, PySem.W.mg_none_of KX G ?z14, PySem.W.mg_none_of KX G ?z15, PySem.W.mg_none_of KX G ?z16, Fx.mg_int KX G ?y0⟩; (case z0 => k_is); (case z1 => k_is); (case z2 => k_is); (case z3 => k_is); (case z4 => k_is); (case z5 => k_is); (case z6 => k_is); (case z7 => k_is); (case z8 => k_is); (case z9 => k_is); (case z10 => k_is); (case z11 => k_is); (case z12 => k_is); (case z13 => k_is); (case z14 => k_is); (case z15 => k_is); (case z16 => k_is); (case y0 => k_is)))
    (case E0 => (refine' Fx.at_mk KX G ?a ?l ?c ?k; (case a => k_is); (case l => k_is); (case c => k_is); (case k => k_is)))
    (case E1 => (refine' Fx.at_mk KX G ?a ?l ?c ?k; (case a => k_is); (case l => k_is); (case c => k_is); (case k => k_is)))
    (case E2 => (refine' Fx.at_mk KX G ?a ?l ?c ?k; (case a => k_is); (case l => k_is); (case c => k_is); (case k => k_is)))
    (case E3 => (refine' Fx.at_mk KX G ?a ?l ?c ?k; (case a => k_is); (case l => k_is); (case c => k_is); (case k => k_is)))
    (case E4 => (refine' Fx.at_mk KX G ?a ?l ?c ?k; (case a => k_is); (case l => k_is); (case c => k_is); (case k => k_is)))
    (case E5 => (refine' Fx.at_mk KX G ?a ?l ?c ?k; (case a => k_is); (case l => k_is); (case c => k_is); (case k => k_is)))
    (case E6 => (refine' Fx.at_mk KX G ?a ?l ?c ?k; (case a => k_is); (case l => k_is); (case c => k_is); (case k => k_is)))
    (case E7 => (refine' Fx.at_mk KX G ?a ?l ?c ?k; (case a => k_is); (case l => k_is); (case c => k_is); (case k => k_is)))
    (case E8 => (refine' Fx.at_mk KX G ?a ?l ?c ?k; (case a => k_is); (case l => k_is); (case c => k_is); (case k => k_is)))
    (case E9 => (refine' Fx.at_mk KX G ?a ?l ?c ?k; (case a => k_is); (case l => k_is); (case c => k_is); (case k => k_is)))
    (case E10 => (refine' Fx.at_mk KX G ?a ?l ?c ?k; (case a => k_is); (case l => k_is); (case c => k_is); (case k => k_is)))
    (case E11 => (refine' Fx.at_mk KX G ?a ?l ?c ?k; (case a => k_is); (case l => k_is); (case c => k_is); (case k => k_is)))
    (case E12 => (refine' Fx.at_mk KX G ?a ?l ?c ?k; (case a => k_is); (case l => k_is); (case c => k_is); (case k => k_is)))
    (case E13 => (refine' Fx.at_mk KX G ?a ?l ?c ?k; (case a => k_is); (case l => k_is); (case c => k_is); (case k => k_is)))
    (case E14 => (refine' Fx.at_mk KX G ?a ?l ?c ?k; (case a => k_is); (case l => k_is); (case c => k_is); (case k => k_is)))
    (case E15 => (refine' Fx.at_mk KX G ?a ?l ?c ?k; (case a => k_is); (case l => k_is); (case c => k_is); (case k => k_is)))
    (case E16 => (refine' Fx.at_mk KX G ?a ?l ?c ?k; (case a => k_is); (case l => k_is); (case c => k_is); (case k => k_is)))
    (case E17 => (refine' Fx.at_mk KX G ?a ?l ?c ?k; (case a => k_is); (case l => k_is); (case c => k_is); (case k => k_is)))
    (case E18 => (refine' Fx.at_mk KX G ?a ?l ?c ?k; (case a => k_is); (case l => k_is); (case c => k_is); (case k => k_is)))
    (case E19 => (refine' Fx.at_mk KX G ?a ?l ?c ?k; (case a => k_is); (case l => k_is); (case c => k_is); (case k => k_is)))
    (case E20 => (refine' Fx.at_mk KX G ?a ?l ?c ?k; (case a => k_is); (case l => k_is); (case c => k_is); (case k => k_is)))

