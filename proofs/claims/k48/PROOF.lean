import PyProof.Rows.All
import Wide.All
import OpenK.AllK
import Wide.FinOn
import HandS.ForMost
import HandS.Wide
import HandS.TupAny
import HandS.TupMul
import HandS.TupLe
import HandS.Style
import HandS.IsInst
import HandS.Conv
import HandS.SortInts
import HandS.Gcd
import HandS.Zip
import HandS.Text
import HandS.Rev
import HandS.ExcValue
import KE.KDictZip
import HandS.Strs
import HandS.More
import PyProof.Rows.SetFrom
import HandS.Words
import HandS.TupSets
import HandS.SetFor
import HandS.Exc
import KE.GoesEnum
import HandS.RaiseMore
import HandS.Flt
import KE.KTupSum
import PySem.Challenge.RW_looksdrawn_k48_whole_main_sign_tables
set_option Elab.async false
set_option linter.all false
set_option maxRecDepth 100000
/-! Fx1: values with what they own, the abstract state -/
noncomputable section
namespace Fx
open PySem PySem.Spec PyProof.Rows L2

/-- a value of a slot: plain data, or an object that the slot owns -/
inductive MD where
  | dat (d : PyData)
  | lst (xs : List PyData)
  | lls (xss : List (List PyData))
  | bag (c : List Int) (b m : Int)
  | dcK (kvs : List (Key × PyData))
  | dcT (kvs : List (List Key × PyData))
  | scr (ns : List Int)
def MD.own : MD → Bool
  | .dat _ => false
  | .scr _ => false
  | _ => true

inductive Tag where
  | out | slot (i : Nat) | tmp (i : Nat)
  deriving DecidableEq
abbrev Own := Addr → Option Tag

mutual
/-- data that nobody changes -/
inductive Fz (K : PySem.W.Frag) (O : Own) (H : Hp) : PyData → V → Prop
  | non : Fz K O H .none .non
  | bl (b : Bool) : Fz K O H (.bool b) (.bl b)
  | int (i : Int) : Fz K O H (.int i) (.int i)
  | str (x : Str) : Fz K O H (.str x) (.str x)
  | lst {a : Addr} {xs : List V} {ds : List PyData} : H a = some (.lst xs) → O a = none → FzA K O H ds xs → Fz K O H (.list ds) (.ref a)
  | tup {a : Addr} {xs : List V} {ds : List PyData} : Rd H a (.tup xs) → O a = none → FzA K O H ds xs → Fz K O H (.tuple ds) (.ref a)
  | tupK {a : Addr} {xs : List V} {ds : List PyData} : SqT K (fun _ => none) a xs → FzA K O H ds xs → Fz K O H (.tuple ds) (.ref a)
  | dct {a : Addr} {od : Obj} {kvs : List (Key × V)} {ds : List (PyData × PyData)} : H a = some (.frz od (.dK kvs)) → O a = none → FzD K O H ds kvs → Fz K O H (.dict ds) (.ref a)
inductive FzA (K : PySem.W.Frag) (O : Own) (H : Hp) : List PyData → List V → Prop
  | nil : FzA K O H [] []
  | cons {v : V} {vs : List V} {d : PyData} {ds : List PyData} : Fz K O H d v → FzA K O H ds vs → FzA K O H (d :: ds) (v :: vs)
inductive FzD (K : PySem.W.Frag) (O : Own) (H : Hp) : List (PyData × PyData) → List (Key × V) → Prop
  | nil : FzD K O H [] []
  | cons {k : Key} {v : V} {vs : List (Key × V)} {e d : PyData} {ds : List (PyData × PyData)} : Fz K O H e (kV k) → Fz K O H d v → FzD K O H ds vs → FzD K O H ((e, d) :: ds) ((k, v) :: vs)
end

def Kp (O : Own) (H : Hp) (O' : Own) (H' : Hp) : Prop := ∀ b o, H b = some o → O b = none → H' b = some o ∧ O' b = none
theorem Kp.refl (O : Own) (H : Hp) : Kp O H O H := fun _ _ h n => ⟨h, n⟩
theorem Kp.trans {O O' O'' : Own} {H H' H'' : Hp} (a : Kp O H O' H') (b : Kp O' H' O'' H'') : Kp O H O'' H'' := fun c o h n =>
  b c o (a c o h n).1 (a c o h n).2

section
variable {K : PySem.W.Frag} {O O' : Own} {H H' : Hp}
theorem Kp.rd (k : Kp O H O' H') {a : Addr} {u : HO} (r : Rd H a u) (n : O a = none) : Rd H' a u ∧ O' a = none := by
  rcases r with r | ⟨o, r⟩
  · exact ⟨.inl (k _ _ r n).1, (k _ _ r n).2⟩
  · exact ⟨.inr ⟨o, (k _ _ r n).1⟩, (k _ _ r n).2⟩
mutual
theorem Fz.kp (k : Kp O H O' H') : ∀ (d : PyData) (v : V), Fz K O H d v → Fz K O' H' d v
  | .none, _, h => by cases h; exact .non
  | .bool b, _, h => by cases h; exact .bl b
  | .int i, _, h => by cases h; exact .int i
  | .str x, _, h => by cases h; exact .str x
  | .list ds, _, h => by
    cases h with
    | lst hr n ha => exact .lst (k _ _ hr n).1 (k _ _ hr n).2 (FzA.kp k ds _ ha)
  | .tuple ds, _, h => by
    cases h with
    | tup hr n ha => exact .tup (k.rd hr n).1 (k.rd hr n).2 (FzA.kp k ds _ ha)
    | tupK hr ha => exact .tupK hr (FzA.kp k ds _ ha)
  | .dict ds, _, h => by
    cases h with
    | dct hr n ha => exact .dct (k _ _ hr n).1 (k _ _ hr n).2 (FzD.kp k ds _ ha)
theorem FzA.kp (k : Kp O H O' H') : ∀ (ds : List PyData) (vs : List V), FzA K O H ds vs → FzA K O' H' ds vs
  | [], _, h => by cases h; exact .nil
  | d :: ds, _, h => by
    cases h with
    | cons h1 h2 => exact .cons (Fz.kp k d _ h1) (FzA.kp k ds _ h2)
theorem FzD.kp (k : Kp O H O' H') : ∀ (ds : List (PyData × PyData)) (vs : List (Key × V)), FzD K O H ds vs → FzD K O' H' ds vs
  | [], _, h => by cases h; exact .nil
  | (e, d) :: ds, _, h => by
    cases h with
    | cons h1 h2 h3 => exact .cons (Fz.kp k e _ h1) (Fz.kp k d _ h2) (FzD.kp k ds _ h3)
end
theorem FzA.length : ∀ {ds : List PyData} {vs : List V}, FzA K O H ds vs → ds.length = vs.length
  | [], _, h => by cases h; rfl
  | d :: ds, _, h => by
    cases h with
    | cons h1 h2 => simp [FzA.length h2]
theorem FzA.get : ∀ {ds : List PyData} {vs : List V} {i : Nat} {d : PyData}, FzA K O H ds vs → ds[i]? = some d → ∃ v, vs[i]? = some v ∧ Fz K O H d v
  | [], _, i, _, _, e => by simp at e
  | _ :: _, _, 0, _, h, e => by
    cases h with
    | cons h1 h2 =>
      simp at e
      subst e
      exact ⟨_, rfl, h1⟩
  | _ :: ds, _, i + 1, _, h, e => by
    cases h with
    | cons h1 h2 =>
      obtain ⟨v, e1, e2⟩ := FzA.get (i := i) h2 (by simpa using e)
      exact ⟨v, by simpa using e1, e2⟩
theorem FzA.append : ∀ {ds es : List PyData} {vs ws : List V}, FzA K O H ds vs → FzA K O H es ws → FzA K O H (ds ++ es) (vs ++ ws)
  | [], _, _, _, h, g => by cases h; exact g
  | _ :: _, _, _, _, h, g => by
    cases h with
    | cons h1 h2 => exact .cons h1 (FzA.append h2 g)
theorem FzA.take : ∀ {ds : List PyData} {vs : List V} (n : Nat), FzA K O H ds vs → FzA K O H (ds.take n) (vs.take n)
  | _, _, 0, _ => .nil
  | [], _, n + 1, h => by cases h; exact .nil
  | _ :: _, _, n + 1, h => by
    cases h with
    | cons h1 h2 => exact .cons h1 (FzA.take n h2)
theorem FzA.drop : ∀ {ds : List PyData} {vs : List V} (n : Nat), FzA K O H ds vs → FzA K O H (ds.drop n) (vs.drop n)
  | _, _, 0, h => h
  | [], _, n + 1, h => by cases h; exact .nil
  | _ :: _, _, n + 1, h => by
    cases h with
    | cons h1 h2 => exact FzA.drop n h2
theorem FzA.set {d : PyData} {v : V} (r : Fz K O H d v) : ∀ {ds : List PyData} {vs : List V} (i : Nat), FzA K O H ds vs → FzA K O H (ds.set i d) (vs.set i v)
  | [], _, _, h => by cases h; exact .nil
  | _ :: _, _, 0, h => by
    cases h with
    | cons h1 h2 => exact .cons r h2
  | _ :: _, _, i + 1, h => by
    cases h with
    | cons h1 h2 => exact .cons h1 (FzA.set r i h2)
theorem FzA.reverse {ds : List PyData} {vs : List V} (h : FzA K O H ds vs) : FzA K O H ds.reverse vs.reverse := by
  induction ds generalizing vs with
  | nil => cases h; exact .nil
  | cons d ds ih =>
    cases h with
    | cons h1 h2 =>
      rw [List.reverse_cons, List.reverse_cons]
      exact FzA.append (ih h2) (.cons h1 .nil)
theorem FzA.of_get : ∀ {ds : List PyData} {vs : List V}, ds.length = vs.length → (∀ (i : Nat) (d : PyData) (v : V), ds[i]? = some d → vs[i]? = some v → Fz K O H d v) → FzA K O H ds vs
  | [], [], _, _ => .nil
  | [], _ :: _, e, _ => by simp at e
  | _ :: _, [], e, _ => by simp at e
  | d :: ds, v :: vs, e, h => .cons (h 0 d v rfl rfl) (FzA.of_get (by simpa using e) fun i d v e1 e2 => h (i + 1) d v (by simpa using e1) (by simpa using e2))
theorem FzA.ints : ∀ (ns : List Int), FzA K O H (ns.map .int) (ns.map .int)
  | [] => .nil
  | n :: ns => .cons (.int n) (FzA.ints ns)
/-- a frozen list, tuple as the rules read it -/
theorem Fz.sqL {ds : List PyData} {v : V} (h : Fz K O H (.list ds) v) : ∃ a xs, v = .ref a ∧ H a = some (.lst xs) ∧ FzA K O H ds xs ∧ O a = none := by
  cases h with
  | lst hr n ha => exact ⟨_, _, rfl, hr, ha, n⟩
theorem Fz.sqT {ds : List PyData} {v : V} (h : Fz K O H (.tuple ds) v) : ∃ a xs, v = .ref a ∧ SqT K H a xs ∧ FzA K O H ds xs := by
  cases h with
  | tup hr n ha => exact ⟨_, _, rfl, .inl hr, ha⟩
  | tupK hr ha =>
    refine ⟨_, _, rfl, ?_, ha⟩
    rcases hr with hr | hr
    · rcases hr with hr | ⟨o, hr⟩ <;> cases hr
    · exact .inr hr
end

def PDict (K : PySem.W.Frag) (O : Own) (H : Hp) {κ : Type} (kvs : List (κ × PyData)) (ws : List (κ × V)) : Prop := Paired (fun p q => p.1 = q.1 ∧ Fz K O H p.2 q.2) kvs ws

/-- a value as its slot (or temporary) holds it; t: the tag of what it owns -/
def MR (K : PySem.W.Frag) (O : Own) (H : Hp) (t : Tag) : MD → V → Prop
  | .dat d, v => Fz K O H d v
  | .lst xs, v => ∃ a vs, v = .ref a ∧ O a = some t ∧ H a = some (.lst vs) ∧ FzA K O H xs vs
  | .lls xss, v => ∃ a as vss, v = .ref a ∧ O a = some t ∧ a ∉ as ∧ as.Nodup ∧ H a = some (.lst (as.map .ref)) ∧
      Paired (fun b vs => O b = some t ∧ H b = some (.lst vs)) as vss ∧ Paired (fun xs vs => FzA K O H xs vs) xss vss
  | .bag c b m, v => ∃ a e, v = .ref a ∧ a ≠ e ∧ O a = some t ∧ O e = some t ∧ H a = some (.lst [.ref e, .int b, .int m]) ∧ H e = some (.lst (c.map .int))
  | .dcK kvs, v => ∃ a ws, v = .ref a ∧ O a = some t ∧ H a = some (.dK ws) ∧ PDict K O H kvs ws
  | .dcT kvs, v => ∃ a ws, v = .ref a ∧ O a = some t ∧ H a = some (.dT ws) ∧ PDict K O H kvs ws
  | .scr ns, v => ∃ a, v = .ref a ∧ (Rd H a (.lst (ns.map .int)) ∧ O a = none ∨ SqL K (fun _ => none) a (ns.map .int))

/-- a step of the state that touches what has a tag in J alone -/
structure Ev (J : Tag → Prop) (O : Own) (H : Hp) (O' : Own) (H' : Hp) : Prop where
  kp : ∀ b o, H b = some o → (∀ t, O b = some t → ¬ J t) → H' b = some o ∧ O' b = O b
  dom : ∀ b t, O' b = some t → H' b ≠ none
  out : ∀ b, O' b = some .out → O b = some .out
abbrev J0 : Tag → Prop := fun _ => False
section
variable {K : PySem.W.Frag} {J J' : Tag → Prop} {O O' O'' : Own} {H H' H'' : Hp}
theorem Ev.refl (dom : ∀ b t, O b = some t → H b ≠ none) : Ev J O H O H := ⟨fun _ _ h _ => ⟨h, rfl⟩, dom, fun _ h => h⟩
theorem Ev.trans (a : Ev J O H O' H') (b : Ev J O' H' O'' H'') : Ev J O H O'' H'' :=
  ⟨fun c o h n => by
    obtain ⟨h1, e1⟩ := a.kp c o h n
    obtain ⟨h2, e2⟩ := b.kp c o h1 (by rw [e1]; exact n)
    exact ⟨h2, e2.trans e1⟩, b.dom, fun c h => a.out c (b.out c h)⟩
theorem Ev.mono (a : Ev J O H O' H') (h : ∀ t, J t → J' t) : Ev J' O H O' H' :=
  ⟨fun b o e n => a.kp b o e fun t q z => n t q (h t z), a.dom, a.out⟩
theorem Ev.k (a : Ev J O H O' H') : Kp O H O' H' := fun b o h n => by
  obtain ⟨h1, e1⟩ := a.kp b o h fun t q => by rw [n] at q; cases q
  exact ⟨h1, e1.trans n⟩
theorem Ev.ownd (a : Ev J O H O' H') {b : Addr} {o : HO} {t : Tag} (h : H b = some o) (q : O b = some t) (n : ¬ J t) : H' b = some o ∧ O' b = some t := by
  obtain ⟨h1, e1⟩ := a.kp b o h fun t' q' => by rw [q] at q'; cases q'; exact n
  exact ⟨h1, e1.trans q⟩
theorem PDict.kp {κ : Type} (k : Kp O H O' H') {kvs : List (κ × PyData)} {ws : List (κ × V)} (h : PDict K O H kvs ws) : PDict K O' H' kvs ws :=
  Paired.mapP h fun p q z => ⟨z.1, Fz.kp k _ _ z.2⟩
theorem MR.ev (a : Ev J O H O' H') {t : Tag} (n : ¬ J t) : ∀ {m : MD} {v : V}, MR K O H t m v → MR K O' H' t m v
  | .dat d, v, h => Fz.kp a.k _ _ h
  | .lst xs, v, h => by
    obtain ⟨b, vs, e, q, h1, h2⟩ := h
    exact ⟨b, vs, e, (a.ownd h1 q n).2, (a.ownd h1 q n).1, FzA.kp a.k _ _ h2⟩
  | .lls xss, v, h => by
    obtain ⟨b, as, vss, e, q, h0, h1, h2, h3, h4⟩ := h
    exact ⟨b, as, vss, e, (a.ownd h2 q n).2, h0, h1, (a.ownd h2 q n).1, Paired.mapP h3 fun c vs z => ⟨(a.ownd z.2 z.1 n).2, (a.ownd z.2 z.1 n).1⟩, Paired.mapP h4 fun xs vs z => FzA.kp a.k _ _ z⟩
  | .bag c b m, v, h => by
    obtain ⟨x, y, e, ne, q1, q2, h1, h2⟩ := h
    exact ⟨x, y, e, ne, (a.ownd h1 q1 n).2, (a.ownd h2 q2 n).2, (a.ownd h1 q1 n).1, (a.ownd h2 q2 n).1⟩
  | .dcK kvs, v, h => by
    obtain ⟨b, ws, e, q, h1, h2⟩ := h
    exact ⟨b, ws, e, (a.ownd h1 q n).2, (a.ownd h1 q n).1, h2.kp a.k⟩
  | .dcT kvs, v, h => by
    obtain ⟨b, ws, e, q, h1, h2⟩ := h
    exact ⟨b, ws, e, (a.ownd h1 q n).2, (a.ownd h1 q n).1, h2.kp a.k⟩
  | .scr ns, v, h => by
    obtain ⟨b, e, h1 | h1⟩ := h
    · exact ⟨b, e, .inl (a.k.rd h1.1 h1.2)⟩
    · exact ⟨b, e, .inr h1⟩

/-- a new object that nobody owns -/
theorem Ev.new {p : Addr} {o : HO} (dom : ∀ b t, O b = some t → H b ≠ none) (hp : H p = none) : Ev J0 O H O (upd H p o) :=
  ⟨fun b u h _ => ⟨by rw [upd_ne (ne_of_none h hp)]; exact h, rfl⟩, fun b t q => by
    rw [upd_ne (fun z => by subst z; exact dom _ _ q hp)]
    exact dom b t q, fun _ h => h⟩
theorem own_none {p : Addr} (dom : ∀ b t, O b = some t → H b ≠ none) (hp : H p = none) : O p = none := by
  cases q : O p with
  | none => rfl
  | some t => exact absurd hp (dom _ _ q)
/-- O with p owned by t -/
def put (O : Own) (p : Addr) (t : Tag) : Own := fun b => if b = p then some t else O b
theorem put_same {O : Own} {p : Addr} {t : Tag} : put O p t p = some t := by simp [put]
theorem put_ne {O : Own} {p b : Addr} {t : Tag} (h : b ≠ p) : put O p t b = O b := by simp [put, h]
theorem Ev.newOwn {p : Addr} {o : HO} {t : Tag} (ht : t ≠ .out) (dom : ∀ b t, O b = some t → H b ≠ none) (hp : H p = none) : Ev J0 O H (put O p t) (upd H p o) :=
  ⟨fun b u h _ => ⟨by rw [upd_ne (ne_of_none h hp)]; exact h, put_ne (ne_of_none h hp)⟩, fun b t' q => by
    by_cases e : b = p
    · subst e; rw [upd_same]; exact fun z => by cases z
    · rw [put_ne e] at q; rw [upd_ne e]; exact dom b _ q, fun b q => by
    by_cases e : b = p
    · subst e; rw [put_same] at q; exact absurd (Option.some.inj q) ht
    · rwa [put_ne e] at q⟩
/-- what had the tag t has r -/
def retag (O : Own) (t : Tag) (r : Option Tag) : Own := fun b => if O b = some t then r else O b
theorem retag_of {O : Own} {t : Tag} {r : Option Tag} {b : Addr} (h : O b = some t) : retag O t r b = r := by simp [retag, h]
theorem retag_ne {O : Own} {t : Tag} {r : Option Tag} {b : Addr} (h : O b ≠ some t) : retag O t r b = O b := by simp [retag, h]
theorem Ev.retag {t : Tag} {r : Option Tag} (hr : r ≠ some .out) (dom : ∀ b t, O b = some t → H b ≠ none) : Ev (· = t) O H (retag O t r) H :=
  ⟨fun b o h n => ⟨h, retag_ne fun q => n t q rfl⟩, fun b t' q => by
    by_cases e : O b = some t
    · exact dom b _ e
    · rw [retag_ne e] at q; exact dom b _ q, fun b q => by
    by_cases e : O b = some t
    · rw [retag_of e] at q; exact absurd q hr
    · rwa [retag_ne e] at q⟩
/-- an owned object is written -/
theorem Ev.write {p : Addr} {o : HO} {t : Tag} (dom : ∀ b t, O b = some t → H b ≠ none) (hp : O p = some t) : Ev (· = t) O H O (upd H p o) :=
  ⟨fun b u h n => by
    have e : b ≠ p := fun z => by subst z; exact n t hp rfl
    exact ⟨by rw [upd_ne e]; exact h, rfl⟩, fun b t' q => by
    by_cases e : b = p
    · subst e; rw [upd_same]; exact fun z => by cases z
    · rw [upd_ne e]; exact dom b _ q, fun _ h => h⟩
/-- what is owned is moved from the tag t to r -/
theorem MR.move {t r : Tag} (dom : ∀ b t, O b = some t → H b ≠ none) (hr : r ≠ .out) {m : MD} {v : V} (h : MR K O H t m v) : MR K (Fx.retag O t (some r)) H r m v := by
  have k : Kp O H (Fx.retag O t (some r)) H := (Ev.retag (by simpa using hr) dom).k
  cases m with
  | dat d => exact Fz.kp k _ _ h
  | lst xs =>
    obtain ⟨b, vs, e, q, h1, h2⟩ := h
    exact ⟨b, vs, e, retag_of q, h1, FzA.kp k _ _ h2⟩
  | lls xss =>
    obtain ⟨b, as, vss, e, q, h0, h1, h2, h3, h4⟩ := h
    exact ⟨b, as, vss, e, retag_of q, h0, h1, h2, Paired.mapP h3 fun c vs z => ⟨retag_of z.1, z.2⟩, Paired.mapP h4 fun xs vs z => FzA.kp k _ _ z⟩
  | bag c b m =>
    obtain ⟨x, y, e, ne, q1, q2, h1, h2⟩ := h
    exact ⟨x, y, e, ne, retag_of q1, retag_of q2, h1, h2⟩
  | dcK kvs =>
    obtain ⟨b, ws, e, q, h1, h2⟩ := h
    exact ⟨b, ws, e, retag_of q, h1, h2.kp k⟩
  | dcT kvs =>
    obtain ⟨b, ws, e, q, h1, h2⟩ := h
    exact ⟨b, ws, e, retag_of q, h1, h2.kp k⟩
  | scr ns =>
    obtain ⟨b, e, h1 | h1⟩ := h
    · exact ⟨b, e, .inl (k.rd h1.1 h1.2)⟩
    · exact ⟨b, e, .inr h1⟩
/-- as plain data -/
def MD.flat : MD → Option PyData
  | .dat d => some d
  | .lst xs => some (.list xs)
  | .lls xss => some (.list (xss.map .list))
  | _ => none
theorem lls_flat {t : Tag} {as : List Addr} {vss : List (List V)} {xss : List (List PyData)} (dom : ∀ b t, O b = some t → H b ≠ none) (h3 : Paired (fun b vs => O b = some t ∧ H b = some (.lst vs)) as vss)
    (h4 : Paired (fun xs vs => FzA K O H xs vs) xss vss) : FzA K (Fx.retag O t none) H (xss.map .list) (as.map .ref) := by
  have k : Kp O H (Fx.retag O t none) H := (Ev.retag (by simp) dom).k
  induction h3 generalizing xss with
  | nil => cases h4; exact .nil
  | cons r _ ih =>
    cases h4 with
    | cons s s' => exact .cons (.lst r.2 (retag_of r.1) (FzA.kp k _ _ s)) (ih s')
theorem MR.freeze {t : Tag} (dom : ∀ b t, O b = some t → H b ≠ none) {m : MD} {v : V} {d : PyData} (h : MR K O H t m v) (e : m.flat = some d) : Fz K (Fx.retag O t none) H d v := by
  have k : Kp O H (Fx.retag O t none) H := (Ev.retag (by simp) dom).k
  cases m with
  | dat d' =>
    cases e
    exact Fz.kp k _ _ h
  | lst xs =>
    cases e
    obtain ⟨b, vs, e, q, h1, h2⟩ := h
    subst e
    exact .lst h1 (retag_of q) (FzA.kp k _ _ h2)
  | lls xss =>
    cases e
    obtain ⟨b, as, vss, e, q, h0, h1, h2, h3, h4⟩ := h
    subst e
    exact .lst h2 (retag_of q) (lls_flat dom h3 h4)
  | _ => cases e
end
end Fx

end

/-! Fx2: the state of a body: slots and temporaries -/
noncomputable section
namespace Fx
open PySem PySem.Spec PyProof.Rows L2

abbrev Gm := List (Option MD)
/-- a temporary: a value, or the very object that a slot owns -/
inductive TV where
  | md (m : MD)
  | al (i : Nat)
def dv (Γ : Gm) : TV → Option PyData
  | .md (.dat d) => some d
  | .md (.lst xs) => some (.list xs)
  | .al i => match Γ[i]? with
    | some (some (.lst xs)) => some (.list xs)
    | _ => none
  | _ => none

def TR (K : PySem.W.Frag) (O : Own) (H : Hp) (σ : L2.St) (Γ : Gm) (t : Tag) : TV → V → Prop
  | .md m, v => MR K O H t m v
  | .al i, v => σ[i]? = some (some v) ∧ ∃ m, Γ[i]? = some (some m) ∧ m.own = true
def Tm (K : PySem.W.Frag) (O : Own) (H : Hp) (σ : L2.St) (Γ : Gm) : List V → List TV → Prop
  | [], [] => True
  | v :: vs, t :: ts => TR K O H σ Γ (.tmp ts.length) t v ∧ Tm K O H σ Γ vs ts
  | _, _ => False

/-- a def's entry -/
structure Wd where
  H : Hp
  O : Own
  σ : L2.St
structure Cf (K : PySem.W.Frag) (np : Nat) (W : Wd) (O : Own) (σ : L2.St) (H : Hp) (Γ : Gm) (vs : List V) (ts : List TV) : Prop where
  dom : ∀ b t, O b = some t → H b ≠ none
  sl : ∀ (i : Nat) (m : MD), Γ[i]? = some (some m) → ∃ v, σ[i]? = some (some v) ∧ MR K O H (.slot i) m v
  tm : Tm K O H σ Γ vs ts
  keep : ∀ b o, W.H b = some o → (∀ k, W.O b ≠ some (.slot k)) → H b = some o ∧ O b = W.O b
  out : ∀ b, O b = some .out → W.O b = some .out
  wt : ∀ b k, W.O b ≠ some (.tmp k)
  arg : ∀ (i : Nat) (m : MD), i < np → Γ[i]? = some (some m) → m.own = true → σ[i]? = W.σ[i]?
  len : Γ.length = σ.length
def Cfg (K : PySem.W.Frag) (np : Nat) (W : Wd) (σ : L2.St) (H : Hp) (Γ : Gm) (vs : List V) (ts : List TV) : Prop := ∃ O, Cf K np W O σ H Γ vs ts

section
variable {K : PySem.W.Frag} {np : Nat} {W : Wd} {O O' : Own} {σ σ' : L2.St} {H H' : Hp} {Γ Γ' : Gm} {vs : List V} {ts : List TV} {J : Tag → Prop}
theorem Tm.ev (a : Ev J O H O' H') (hJ : ∀ k, J (.tmp k) → ts.length ≤ k) (hΓ : ∀ (i : Nat) (m : MD), Γ[i]? = some (some m) → m.own = true → ∃ m' : MD, Γ'[i]? = some (some m') ∧ m'.own = true) :
    ∀ {vs : List V} {us : List TV}, us.length ≤ ts.length → Tm K O H σ Γ vs us → Tm K O' H' σ Γ' vs us
  | [], [], _, _ => True.intro
  | v :: vs, t :: us, hl, h => by
    refine ⟨?_, Tm.ev a hJ hΓ (by simp at hl; omega) h.2⟩
    have h1 := h.1
    cases t with
    | md m => exact MR.ev a (fun z => by have := hJ _ z; simp at hl; omega) h1
    | al i =>
      obtain ⟨e, m, e1, e2⟩ := h1
      exact ⟨e, hΓ i m e1 e2⟩
  | [], _ :: _, _, h => h.elim
  | _ :: _, [], _, h => h.elim
/-- a step of the objects, the slots as they are -/
theorem Cf.ev (c : Cf K np W O σ H Γ vs ts) (a : Ev J O H O' H') (ho : ¬ J .out) (hs : ∀ (i : Nat) (m : MD), Γ[i]? = some (some m) → m.own = true → ¬ J (.slot i)) (ht : ∀ k, J (.tmp k) → ts.length ≤ k) : Cf K np W O' σ H' Γ vs ts where
  dom := a.dom
  sl := fun i m e => by
    obtain ⟨v, e1, r⟩ := c.sl i m e
    refine ⟨v, e1, ?_⟩
    cases h : m.own with
    | true => exact r.ev a (hs i m e h)
    | false =>
      cases m with
      | dat d => exact Fz.kp a.k _ _ r
      | scr ns =>
        obtain ⟨b, e, h1 | h1⟩ := r
        · exact ⟨b, e, .inl (a.k.rd h1.1 h1.2)⟩
        · exact ⟨b, e, .inr h1⟩
      | _ => cases h
  tm := Tm.ev (ts := ts) a ht (fun i m e h => ⟨m, e, h⟩) (Nat.le_refl _) c.tm
  keep := fun b o h n => by
    obtain ⟨h1, e1⟩ := c.keep b o h n
    obtain ⟨h2, e2⟩ := a.kp b o h1 fun t q z => by
      rw [e1] at q
      cases t with
      | out => exact ho z
      | slot k => exact n k q
      | tmp k => exact c.wt b k q
    exact ⟨h2, e2.trans e1⟩
  out := fun b h => c.out b (a.out b h)
  wt := c.wt
  arg := c.arg
  len := c.len
theorem Cf.ev0 (c : Cf K np W O σ H Γ vs ts) (a : Ev J0 O H O' H') : Cf K np W O' σ H' Γ vs ts := c.ev a (fun z => z) (fun _ _ _ _ z => z) fun _ z => z.elim
/-- one more temporary -/
theorem Cf.push (c : Cf K np W O σ H Γ vs ts) {v : V} {t : TV} (r : TR K O H σ Γ (.tmp ts.length) t v) : Cf K np W O σ H Γ (v :: vs) (t :: ts) :=
  ⟨c.dom, c.sl, ⟨r, c.tm⟩, c.keep, c.out, c.wt, c.arg, c.len⟩
theorem Cf.pop {v : V} {t : TV} (c : Cf K np W O σ H Γ (v :: vs) (t :: ts)) : Cf K np W O σ H Γ vs ts :=
  ⟨c.dom, c.sl, c.tm.2, c.keep, c.out, c.wt, c.arg, c.len⟩
theorem Cf.top {v : V} {t : TV} (c : Cf K np W O σ H Γ (v :: vs) (t :: ts)) : TR K O H σ Γ (.tmp ts.length) t v := c.tm.1
theorem Cf.lens : ∀ {vs : List V} {ts : List TV}, Tm K O H σ Γ vs ts → vs.length = ts.length
  | [], [], _ => rfl
  | _ :: _, _ :: _, h => by simp [Cf.lens h.2]
  | [], _ :: _, h => h.elim
  | _ :: _, [], h => h.elim

/-- a value as it is read -/
def Vw (K : PySem.W.Frag) (O : Own) (H : Hp) : PyData → V → Prop
  | .list ds, v => ∃ a xs, v = .ref a ∧ H a = some (.lst xs) ∧ FzA K O H ds xs
  | d, v => Fz K O H d v
theorem Vw.of {d : PyData} {v : V} (h : Fz K O H d v) : Vw K O H d v := by
  cases d with
  | list ds =>
    obtain ⟨a, xs, e, q, r, _⟩ := h.sqL
    exact ⟨a, xs, e, q, r⟩
  | _ => exact h
theorem Vw.ofLst {t : Tag} {xs : List PyData} {v : V} (h : MR K O H t (.lst xs) v) : Vw K O H (.list xs) v := by
  obtain ⟨a, vs, e, _, h1, h2⟩ := h
  exact ⟨a, vs, e, h1, h2⟩
theorem Cf.view (c : Cf K np W O σ H Γ vs ts) {v : V} {t : TV} {g : Tag} {d : PyData} (r : TR K O H σ Γ g t v) (e : dv Γ t = some d) : Vw K O H d v := by
  cases t with
  | md m =>
    cases m with
    | dat d' => cases e; exact Vw.of r
    | lst xs => cases e; exact Vw.ofLst r
    | _ => cases e
  | al i =>
    obtain ⟨e1, m, e2, _⟩ := r
    obtain ⟨v', e3, r'⟩ := c.sl i m e2
    rw [e1] at e3
    cases e3
    simp only [dv, e2] at e
    cases m with
    | lst xs => cases e; exact Vw.ofLst r'
    | _ => cases e
/-- what an operation makes: data, or a new list -/
inductive Res where
  | val (d : PyData)
  | new (ds : List PyData)
def Res.fin (ow : Bool) : Res → TV
  | .val d => .md (.dat d)
  | .new ds => .md (if ow then .lst ds else .dat (.list ds))
def ResOk (K : PySem.W.Frag) (O : Own) (H : Hp) : Res → V → Hp → Prop
  | .val d, v, H' => Ev J0 O H O H' ∧ Fz K O H' d v
  | .new ds, v, H' => ∃ p ws, v = .ref p ∧ H p = none ∧ H' = upd H p (.lst ws) ∧ FzA K O H ds ws
theorem Cf.res (c : Cf K np W O σ H Γ vs ts) {ow : Bool} {r : Res} {v : V} (h : ResOk K O H r v H') : Cfg K np W σ H' Γ (v :: vs) (r.fin ow :: ts) := by
  cases r with
  | val d => exact ⟨O, (c.ev0 h.1).push h.2⟩
  | new ds =>
    obtain ⟨p, ws, rfl, hp, rfl, hd⟩ := h
    cases ow with
    | false =>
      have a := Ev.new (o := .lst ws) c.dom hp
      exact ⟨O, (c.ev0 a).push (.lst upd_same (own_none c.dom hp) (FzA.kp a.k _ _ hd))⟩
    | true =>
      have a := Ev.newOwn (o := .lst ws) (t := .tmp ts.length) (by simp) c.dom hp
      exact ⟨_, (c.ev0 a).push ⟨p, ws, rfl, put_same, upd_same, FzA.kp a.k _ _ hd⟩⟩
end

/-! ### the judgements -/
abbrev FE := Gm → Option (TV × Gm)
def up (K : PySem.W.Frag) (np : Nat) (f : FE) : TE := fun σ H Q => ∃ W Γ vs ts t Γ', Cfg K np W σ H Γ vs ts ∧ f Γ = some (t, Γ') ∧ ∀ v H', Cfg K np W σ H' Γ' (v :: vs) (t :: ts) → Q v H'
def FX (X : Cx) (np : Nat) (e : Expr) (f : FE) : Prop := PE X e (up X.K np f)
abbrev FT := Gm → Option (Bool × Gm)
def upT (K : PySem.W.Frag) (np : Nat) (f : FT) : TT := fun σ H Q => ∃ W Γ vs ts b Γ', Cfg K np W σ H Γ vs ts ∧ f Γ = some (b, Γ') ∧ ∀ H', Cfg K np W σ H' Γ' vs ts → Q b H'
def FTX (X : Cx) (np : Nat) (e : Expr) (f : FT) : Prop := PT X e (upT X.K np f)
abbrev FA := Gm → Option (List TV × Gm)
/-- the arguments, pushed one on the other -/
def upA (K : PySem.W.Frag) (np : Nat) (f : FA) : TA := fun σ H Q => ∃ W Γ vs ts us Γ', Cfg K np W σ H Γ vs ts ∧ f Γ = some (us, Γ') ∧ ∀ xs H', Cfg K np W σ H' Γ' (xs.reverse ++ vs) (us.reverse ++ ts) → xs.length = us.length → Q xs H'
def FAX (X : Cx) (np : Nat) (es : List Expr) (f : FA) : Prop := PA X es (upA X.K np f)
inductive Out where
  | nx (Γ : Gm) | rt (m : MD) (Γ : Gm) | bk (Γ : Gm) | ct (Γ : Gm)
abbrev FS := Gm → Option Out
def tsd (ds : List PyData) : List TV := ds.map fun d => .md (.dat d)
def EndOk (K : PySem.W.Frag) (np : Nat) (W : Wd) (vs : List V) (ds : List PyData) (D : Ends) : Out → Prop
  | .nx Γ => ∀ σ H, Cfg K np W σ H Γ vs (tsd ds) → D.nx σ H
  | .bk Γ => ∀ σ H, Cfg K np W σ H Γ vs (tsd ds) → D.bk σ H
  | .ct Γ => ∀ σ H, Cfg K np W σ H Γ vs (tsd ds) → D.ct σ H
  | .rt m Γ => ∀ v σ H, Cfg K np W σ H Γ (v :: vs) (.md m :: tsd ds) → D.rt v H
def upS (K : PySem.W.Frag) (np : Nat) (g : FS) : TS := fun D σ H => ∃ W Γ vs ds o, Cfg K np W σ H Γ vs (tsd ds) ∧ g Γ = some o ∧ EndOk K np W vs ds D o
def FSX (X : Cx) (np : Nat) (s : Stmt) (g : FS) : Prop := PS X s (upS X.K np g)
def FSsX (X : Cx) (np : Nat) (ss : List Stmt) (g : FS) : Prop := PSs X ss (upS X.K np g)

theorem PE.weak {X : Cx} {e : Expr} {t t' : TE} (h : PE X e t) (w : ∀ σ H Q, t' σ H Q → t σ H Q) : PE X e t' := ⟨fun pins s σ H Q I q => h.run pins s σ H Q I (w σ H Q q)⟩
theorem PT.weak {X : Cx} {e : Expr} {t t' : TT} (h : PT X e t) (w : ∀ σ H Q, t' σ H Q → t σ H Q) : PT X e t' := ⟨fun pins s σ H Q I q => h.run pins s σ H Q I (w σ H Q q)⟩
theorem PA.weak {X : Cx} {e : List Expr} {t t' : TA} (h : PA X e t) (w : ∀ σ H Q, t' σ H Q → t σ H Q) : PA X e t' := ⟨fun pos pins s σ H Q I q => h.run pos pins s σ H Q I (w σ H Q q)⟩
theorem PS.weak {X : Cx} {e : Stmt} {t t' : TS} (h : PS X e t) (w : ∀ D σ H, t' D σ H → t D σ H) : PS X e t' := ⟨fun pins s σ H D I q => h.run pins s σ H D I (w D σ H q)⟩
theorem PSs.weak {X : Cx} {e : List Stmt} {t t' : TS} (h : PSs X e t) (w : ∀ D σ H, t' D σ H → t D σ H) : PSs X e t' := ⟨fun pins s σ H D I q => h.run pins s σ H D I (w D σ H q)⟩
end Fx

end

/-! Fx3: names, constants, operators, comparisons, tests -/
noncomputable section
namespace Fx
open PySem PySem.Spec PyProof.Rows L2

section
variable {X : Cx} {np : Nat} {e a b : Expr} {pos : Pos} {f fa fb : FE}

def fVar (i : Nat) : FE := fun Γ => match Γ[i]? with
  | some (some m) => some (if m.own then .al i else .md m, Γ)
  | _ => none
theorem fx_var (i : Nat) {x : Str} (hN : X.N[i]? = some x := by rfl) (hv : Vis X.env.scope x := by first | exact Or.inl rfl | exact Or.inr (Or.inl rfl) | exact Or.inr (Or.inr rfl)) (hd : (x == ("__debug__" : Str)) = false := by decide)
    (hcd : (x == ("__classdict__" : Str)) = false := by decide) : FX X np (.Name x pos) (fVar i) := by
  refine PE.weak (pe_var hN hv hd hcd) fun σ H Q h => ?_
  obtain ⟨W, Γ, vs, ts, t, Γ', ⟨O, c⟩, e, q⟩ := h
  unfold fVar at e
  split at e
  · rename_i m hm
    obtain ⟨v, hv, r⟩ := c.sl i m hm
    cases e
    refine ⟨v, hv, q v H ⟨O, c.push ?_⟩⟩
    cases ho : m.own with
    | true => exact ⟨hv, m, hm, ho⟩
    | false =>
      have a := Ev.refl c.dom (J := J0)
      cases m with
      | dat d => exact r
      | scr ns => exact r
      | _ => cases ho
  · cases e

def fC (d : PyData) : FE := fun Γ => some (.md (.dat d), Γ)
theorem fx_c {v : V} {d : PyData} (h : PE X e (tC v)) (r : ∀ O H, Fz X.K O H d v) : FX X np e (fC d) := by
  refine PE.weak h fun σ H Q h => ?_
  obtain ⟨W, Γ, vs, ts, t, Γ', ⟨O, c⟩, e, q⟩ := h
  cases e
  exact q v H ⟨O, c.push (r O H)⟩
theorem fx_int {i j} : FX X np (.Constant (.int i) j pos) (fC (.int i)) := fx_c pe_int fun _ _ => .int _
theorem fx_bl {b j} : FX X np (.Constant (.bool b) j pos) (fC (.bool b)) := fx_c pe_bl fun _ _ => .bl _
theorem fx_non {j} : FX X np (.Constant .none j pos) (fC .none) := fx_c pe_non fun _ _ => .non
theorem fx_str {x j} : FX X np (.Constant (.str x) j pos) (fC (.str x)) := fx_c pe_str fun _ _ => .str _
/-- a constant of the module -/
theorem fx_glob {x : Str} {v : V} {u : Value} {d : PyData} (hg : Gl X x) (hm : X.mg x = some u) (r : RelV v u) (rd : ∀ O H, Fz X.K O H d v) (hd : (x == ("__debug__" : Str)) = false := by decide) : FX X np (.Name x pos) (fC d) := fx_c (pe_glob hg hm r hd) rd

/-! ### two operands -/
def fOp2 (g : PyData → PyData → Option Res) (ow : Bool) (fa fb : FE) : FE := fun Γ =>
  (fa Γ).bind fun p => (fb p.2).bind fun q => (dv q.2 p.1).bind fun d => (dv q.2 q.1).bind fun e => (g d e).map fun r => (r.fin ow, q.2)
def Snd2 (K : PySem.W.Frag) (r : R2) (g : PyData → PyData → Option Res) : Prop :=
  ∀ (O : Own) (H : Hp) (x y : V) (d e : PyData) (s : Res) (Q : VK), (∀ b t, O b = some t → H b ≠ none) → Vw K O H d x → Vw K O H e y → g d e = some s → (∀ v H', ResOk K O H s v H' → Q v H') → r x y H Q
theorem two {r : R2} {g : PyData → PyData → Option Res} {ow : Bool} (hg : Snd2 X.K r g) {σ : L2.St} {H : Hp} {Q : VK} (h : up X.K np (fOp2 g ow fa fb) σ H Q) : tOp r (up X.K np fa) (up X.K np fb) σ H Q := by
  obtain ⟨W, Γ, vs, ts, t, Γ', c, e, q⟩ := h
  unfold fOp2 at e
  obtain ⟨⟨t1, Γ1⟩, e1, e⟩ := Option.bind_eq_some_iff.mp e
  obtain ⟨⟨t2, Γ2⟩, e2, e⟩ := Option.bind_eq_some_iff.mp e
  obtain ⟨d1, e3, e⟩ := Option.bind_eq_some_iff.mp e
  obtain ⟨d2, e4, e⟩ := Option.bind_eq_some_iff.mp e
  obtain ⟨s, e5, e⟩ := Option.map_eq_some_iff.mp e
  cases e
  refine ⟨W, Γ, vs, ts, t1, Γ1, c, e1, fun x H1 c1 => ⟨W, Γ1, x :: vs, t1 :: ts, t2, Γ2, c1, e2, fun y H2 c2 => ?_⟩⟩
  obtain ⟨O, c2⟩ := c2
  exact hg O H2 x y d1 d2 s Q c2.dom (c2.view c2.tm.2.1 e3) (c2.view c2.tm.1 e4) e5 fun v H' ok => q v H' (c2.pop.pop.res ok)
theorem fx_op {op : Operator} {r : R2} {g : PyData → PyData → Option Res} {ow : Bool} (ho : OpR X (binaryOp op) r) (hg : Snd2 X.K r g) (ha : FX X np a fa) (hb : FX X np b fb) : FX X np (.BinOp a op b pos) (fOp2 g ow fa fb) :=
  PE.weak (pe_op ho ha hb) fun _ _ _ h => two hg h
theorem fx_cmp {op : CmpOp} {r : R2} {g : PyData → PyData → Option Res} (ho : OpR X (compareOp op) r) (hg : Snd2 X.K r g) (ha : FX X np a fa) (hb : FX X np b fb) (hm : behindInMarks op b = false) : FX X np (.Compare a [op] [b] pos) (fOp2 g false fa fb) :=
  PE.weak (pe_cmpR ho ha hb hm) fun _ _ _ h => two hg h
/-- a value as a test -/
def fT (f : FE) : FT := fun Γ => (f Γ).bind fun p => match p.1 with
  | .md (.dat (.bool b)) => some (b, p.2)
  | _ => none
theorem asTest {f : FE} {σ : L2.St} {H : Hp} {Q : Bool → Hp → Prop} (h : upT X.K np (fT f) σ H Q) : up X.K np f σ H fun x H' => ∃ k, x = .bl k ∧ Q k H' := by
  obtain ⟨W, Γ, vs, ts, b, Γ', c, e, q⟩ := h
  obtain ⟨⟨t1, Γ1⟩, e1, e⟩ := Option.bind_eq_some_iff.mp e
  refine ⟨W, Γ, vs, ts, t1, Γ1, c, e1, fun v H' c' => ?_⟩
  dsimp only at e
  split at e
  · cases e
    obtain ⟨O, c'⟩ := c'
    have r : Fz X.K O H' (.bool b) v := c'.top
    cases r
    exact ⟨b, rfl, q H' ⟨O, c'.pop⟩⟩
  · cases e
theorem ft_cmp {op : CmpOp} {r : R2} {g : PyData → PyData → Option Res} (ho : OpR X (compareOp op) r) (hg : Snd2 X.K r g) (ha : FX X np a fa) (hb : FX X np b fb) (hm : behindInMarks op b = false) : FTX X np (.Compare a [op] [b] pos) (fT (fOp2 g false fa fb)) := by
  refine PT.weak (pt_cmpR ho ha hb hm) fun σ H Q h => ?_
  exact two (np := np) (ow := false) hg (asTest h)
theorem ft_val (h : FX X np e f) (he : ∀ whole, isTrue e X.env whole = (do let v ← whole; standAt e.pos; holding [v] (truthy v)) := by intro _; rfl) : FTX X np e (fT f) :=
  PT.weak (pt_val h he) fun _ _ _ h => asTest h
/-- a value's truth -/
def truD : PyData → Option Bool
  | .none => some false
  | .bool b => some b
  | .int i => some (i != 0)
  | .str x => if x.length ≤ sizeLine then some ((x.length : Int) != 0) else none
  | .list xs => some (!xs.isEmpty)
  | .tuple xs => some (!xs.isEmpty)
  | _ => none
def fTru (f : FE) : FT := fun Γ => (f Γ).bind fun p => (dv p.2 p.1).bind fun d => (truD d).map fun b => (b, p.2)
theorem FzA.isEmpty {K : PySem.W.Frag} {O : Own} {H : Hp} {ds : List PyData} {vs : List V} (h : FzA K O H ds vs) : (!ds.isEmpty) = !vs.isEmpty := by
  cases h <;> rfl
theorem truV_of {K : PySem.W.Frag} {O : Own} {H : Hp} {d : PyData} {v : V} {k : Bool} (h : Vw K O H d v) (e : truD d = some k) : TruV K v H k := by
  cases d with
  | none => cases h; cases e; rfl
  | bool b => cases h; cases e; rfl
  | int i => cases h; cases e; rfl
  | str x =>
    cases h
    simp only [truD] at e
    by_cases hl : x.length ≤ sizeLine
    · rw [if_pos hl] at e
      cases e
      exact ⟨hl, rfl⟩
    · rw [if_neg hl] at e
      cases e
  | list ds =>
    obtain ⟨p, xs, rfl, hp, r⟩ := h
    cases e
    exact .inl ⟨xs, .of hp, r.isEmpty⟩
  | tuple ds =>
    obtain ⟨p, xs, rfl, hp, r⟩ := Fz.sqT h
    cases e
    exact .inr (.inl ⟨xs, hp, r.isEmpty⟩)
  | dict _ => cases e
theorem ft_truth (h : FX X np e f) (he : ∀ whole, isTrue e X.env whole = (do let v ← whole; standAt e.pos; holding [v] (truthy v)) := by intro _; rfl) : FTX X np e (fTru f) := by
  refine PT.weak (pt_truth h he) fun σ H Q h => ?_
  obtain ⟨W, Γ, vs, ts, b, Γ', c, e, q⟩ := h
  obtain ⟨⟨t1, Γ1⟩, e1, e⟩ := Option.bind_eq_some_iff.mp e
  obtain ⟨d, e2, e⟩ := Option.bind_eq_some_iff.mp e
  obtain ⟨k, e3, e⟩ := Option.map_eq_some_iff.mp e
  cases e
  refine ⟨W, Γ, vs, ts, t1, _, c, e1, fun v H' c' => ?_⟩
  obtain ⟨O, c'⟩ := c'
  exact ⟨_, truV_of (c'.view c'.top e2) e3, q H' ⟨O, c'.pop⟩⟩

/-! ### and, or, not, if -/
variable {ta tb : FT} {rest : List Expr}
def fAnd (ta tb : FT) : FT := fun Γ => (ta Γ).bind fun p => if p.1 = true then tb p.2 else some (false, p.2)
def fOr (ta tb : FT) : FT := fun Γ => (ta Γ).bind fun p => if p.1 = true then some (true, p.2) else tb p.2
def fNot (ta : FT) : FT := fun Γ => (ta Γ).map fun p => (!p.1, p.2)
def FWX (X : Cx) (np : Nat) (e : Expr) (f : FT) : Prop := PW X e (upT X.K np f)
theorem PW.weak {X : Cx} {e : Expr} {t t' : TT} (h : PW X e t) (w : ∀ σ H Q, t' σ H Q → t σ H Q) : PW X e t' := ⟨fun wh pins s σ H Q I q => h.run wh pins s σ H Q I (w σ H Q q)⟩
theorem FWX.ft {f : FT} (h : FWX X np e f) : FTX X np e f := PW.pt h
theorem fw_and1 (h : FTX X np a ta) : FWX X np (.BoolOp .And [a] pos) ta := pw_and1 h
theorem fw_or1 (h : FTX X np a ta) : FWX X np (.BoolOp .Or [a] pos) ta := pw_or1 h
theorem fw_and (h : FTX X np a ta) (hb : FWX X np (.BoolOp .And (b :: rest) pos) tb) : FWX X np (.BoolOp .And (a :: b :: rest) pos) (fAnd ta tb) := by
  refine PW.weak (pw_and h hb) fun σ H Q h => ?_
  obtain ⟨W, Γ, vs, ts, b, Γ', c, e, q⟩ := h
  obtain ⟨⟨b1, Γ1⟩, e1, e⟩ := Option.bind_eq_some_iff.mp e
  refine ⟨W, Γ, vs, ts, b1, Γ1, c, e1, fun H1 c1 => ?_⟩
  cases b1 with
  | true => exact iteT ⟨W, Γ1, vs, ts, b, Γ', c1, by simpa using e, q⟩
  | false =>
    have e' : (false, Γ1) = (b, Γ') := by simpa using e
    cases e'
    exact iteF (q H1 c1)
theorem fw_or (h : FTX X np a ta) (hb : FWX X np (.BoolOp .Or (b :: rest) pos) tb) : FWX X np (.BoolOp .Or (a :: b :: rest) pos) (fOr ta tb) := by
  refine PW.weak (pw_or h hb) fun σ H Q h => ?_
  obtain ⟨W, Γ, vs, ts, b, Γ', c, e, q⟩ := h
  obtain ⟨⟨b1, Γ1⟩, e1, e⟩ := Option.bind_eq_some_iff.mp e
  refine ⟨W, Γ, vs, ts, b1, Γ1, c, e1, fun H1 c1 => ?_⟩
  cases b1 with
  | false => exact iteF ⟨W, Γ1, vs, ts, b, Γ', c1, by simpa using e, q⟩
  | true =>
    have e' : (true, Γ1) = (b, Γ') := by simpa using e
    cases e'
    exact iteT (q H1 c1)
theorem ft_not (h : FTX X np a ta) : FTX X np (.UnaryOp .Not a pos) (fNot ta) := by
  refine PT.weak (pt_not h) fun σ H Q h => ?_
  obtain ⟨W, Γ, vs, ts, b, Γ', c, e, q⟩ := h
  obtain ⟨⟨b1, Γ1⟩, e1, e⟩ := Option.map_eq_some_iff.mp e
  cases e
  exact ⟨W, Γ, vs, ts, b1, Γ1, c, e1, q⟩
def fIfE (tc : FT) (fa fb : FE) : FE := fun Γ => (tc Γ).bind fun p => if p.1 = true then fa p.2 else fb p.2
theorem fx_ifE {c : Expr} {tc : FT} (hc : FTX X np c tc) (ha : FX X np a fa) (hb : FX X np b fb) : FX X np (.IfExp c a b pos) (fIfE tc fa fb) := by
  refine PE.weak (pe_ifExp hc ha hb) fun σ H Q h => ?_
  obtain ⟨W, Γ, vs, ts, t, Γ', c, e, q⟩ := h
  obtain ⟨⟨b1, Γ1⟩, e1, e⟩ := Option.bind_eq_some_iff.mp e
  refine ⟨W, Γ, vs, ts, b1, Γ1, c, e1, fun H1 c1 => ?_⟩
  cases b1 with
  | true => exact iteT ⟨W, Γ1, vs, ts, t, Γ', c1, by simpa using e, q⟩
  | false => exact iteF ⟨W, Γ1, vs, ts, t, Γ', c1, by simpa using e, q⟩
/-- and, or, not of truth values, as values -/
def asB (fa : FE) : FT := fT fa
def fAndV (fa fb : FE) : FE := fun Γ => (fT fa Γ).bind fun p => if p.1 = true then fb p.2 else some (.md (.dat (.bool false)), p.2)
def fOrV (fa fb : FE) : FE := fun Γ => (fT fa Γ).bind fun p => if p.1 = true then some (.md (.dat (.bool true)), p.2) else fb p.2
def fNotV (fa : FE) : FE := fun Γ => (fT fa Γ).map fun p => (.md (.dat (.bool (!p.1))), p.2)
theorem asBool {f : FE} {σ : L2.St} {H : Hp} {W : Wd} {Γ Γ1 : Gm} {vs : List V} {ts : List TV} {k : Bool} {R : Bool → Hp → Prop} (c : Cfg X.K np W σ H Γ vs ts) (e : fT f Γ = some (k, Γ1))
    (q : ∀ H', Cfg X.K np W σ H' Γ1 vs ts → R k H') : up X.K np f σ H fun x H' => ∃ k, x = .bl k ∧ R k H' := asTest ⟨W, Γ, vs, ts, k, Γ1, c, e, q⟩
theorem fx_one {op} (h : FX X np a fa) : FX X np (.BoolOp op [a] pos) fa := pe_one h
theorem fx_and (ha : FX X np a fa) (hb : FX X np (.BoolOp .And (b :: rest) pos) fb) : FX X np (.BoolOp .And (a :: b :: rest) pos) (fAndV fa fb) := by
  refine PE.weak (pe_and ha hb) fun σ H Q h => ?_
  obtain ⟨W, Γ, vs, ts, t, Γ', c, e, q⟩ := h
  obtain ⟨⟨k, Γ1⟩, e1, e⟩ := Option.bind_eq_some_iff.mp e
  refine asBool c e1 fun H1 c1 => ?_
  cases k with
  | true => exact iteT ⟨W, Γ1, vs, ts, t, Γ', c1, by simpa using e, q⟩
  | false =>
    have e' : (TV.md (.dat (.bool false)), Γ1) = (t, Γ') := by simpa using e
    cases e'
    obtain ⟨O, c1⟩ := c1
    exact iteF (q _ H1 ⟨O, c1.push (.bl false)⟩)
theorem fx_or (ha : FX X np a fa) (hb : FX X np (.BoolOp .Or (b :: rest) pos) fb) : FX X np (.BoolOp .Or (a :: b :: rest) pos) (fOrV fa fb) := by
  refine PE.weak (pe_or ha hb) fun σ H Q h => ?_
  obtain ⟨W, Γ, vs, ts, t, Γ', c, e, q⟩ := h
  obtain ⟨⟨k, Γ1⟩, e1, e⟩ := Option.bind_eq_some_iff.mp e
  refine asBool c e1 fun H1 c1 => ?_
  cases k with
  | false => exact iteF ⟨W, Γ1, vs, ts, t, Γ', c1, by simpa using e, q⟩
  | true =>
    have e' : (TV.md (.dat (.bool true)), Γ1) = (t, Γ') := by simpa using e
    cases e'
    obtain ⟨O, c1⟩ := c1
    exact iteT (q _ H1 ⟨O, c1.push (.bl true)⟩)
theorem fx_not (ha : FX X np a fa) : FX X np (.UnaryOp .Not a pos) (fNotV fa) := by
  refine PE.weak (pe_not ha) fun σ H Q h => ?_
  obtain ⟨W, Γ, vs, ts, t, Γ', c, e, q⟩ := h
  obtain ⟨⟨k, Γ1⟩, e1, e⟩ := Option.map_eq_some_iff.mp e
  cases e
  refine asBool c e1 fun H1 c1 => ?_
  obtain ⟨O, c1⟩ := c1
  exact q _ H1 ⟨O, c1.push (.bl _)⟩
end
end Fx

end

/-! Fx4: operators by kinds, arguments, displays, subscripts, slices, built-ins -/
noncomputable section
namespace Fx
open PySem PySem.Spec PyProof.Rows L2

section
variable {K : PySem.W.Frag} {O : Own} {H : Hp} {Q : VK}
theorem okv {d : PyData} {v : V} (dom : ∀ b t, O b = some t → H b ≠ none) (q : ∀ v H', ResOk K O H (.val d) v H' → Q v H') (h : Fz K O H d v) : Q v H := q v H ⟨Ev.refl dom, h⟩
theorem okt {ds : List PyData} {p : Addr} {ws : List V} (dom : ∀ b t, O b = some t → H b ≠ none) (q : ∀ v H', ResOk K O H (.val (.tuple ds)) v H' → Q v H') (hp : H p = none) (h : FzA K O H ds ws) : Q (.ref p) (upd H p (.tup ws)) :=
  q _ _ ⟨Ev.new dom hp, .tup (.inl upd_same) (own_none dom hp) (FzA.kp (Ev.new dom hp).k _ _ h)⟩
theorem okn {ds : List PyData} {p : Addr} {ws : List V} (q : ∀ v H', ResOk K O H (.new ds) v H' → Q v H') (hp : H p = none) (h : FzA K O H ds ws) : Q (.ref p) (upd H p (.lst ws)) := q _ _ ⟨p, ws, rfl, hp, rfl, h⟩

/-! ### arithmetic -/
def gInt2 (g : Int → Int → Int) : PyData → PyData → Option Res
  | .int i, .int j => some (.val (.int (g i j)))
  | _, _ => none
def gInt2C (C : Int → Int → Bool) (g : Int → Int → Int) : PyData → PyData → Option Res
  | .int i, .int j => if C i j = true then some (.val (.int (g i j))) else none
  | _, _ => none
def gRel (g : Int → Int → Bool) : PyData → PyData → Option Res
  | .int i, .int j => some (.val (.bool (g i j)))
  | _, _ => none
theorem snd_int2 {g : Int → Int → Int} : Snd2 K (rI0 fun i j => .int (g i j)) (gInt2 g) := by
  intro O H x y d e s Q dom hx hy hg q
  unfold gInt2 at hg
  split at hg
  · cases hg
    cases hx
    cases hy
    exact ⟨_, _, rfl, rfl, okv dom q (.int _)⟩
  · cases hg
theorem snd_rel {g : Int → Int → Bool} : Snd2 K (rI0 fun i j => .bl (g i j)) (gRel g) := by
  intro O H x y d e s Q dom hx hy hg q
  unfold gRel at hg
  split at hg
  · cases hg
    cases hx
    cases hy
    exact ⟨_, _, rfl, rfl, okv dom q (.bl _)⟩
  · cases hg
theorem snd_int2C {C : Int → Int → Bool} {C' : Int → Int → Prop} {g : Int → Int → Int} (hC : ∀ i j, C i j = true → C' i j) : Snd2 K (rI C' fun i j => .int (g i j)) (gInt2C C g) := by
  intro O H x y d e s Q dom hx hy hg q
  unfold gInt2C at hg
  split at hg
  · split at hg
    · rename_i h
      cases hg
      cases hx
      cases hy
      exact ⟨_, _, rfl, rfl, hC _ _ h, okv dom q (.int _)⟩
    · cases hg
  · cases hg
theorem Snd2.or {r r' : R2} {g g' h : PyData → PyData → Option Res} (a : Snd2 K r g) (b : Snd2 K r' g') (e : ∀ d e s, h d e = some s → g d e = some s ∨ g' d e = some s) : Snd2 K (fun x y H Q => r x y H Q ∨ r' x y H Q) h := by
  intro O H x y d d' s Q dom hx hy hg q
  rcases e d d' s hg with z | z
  · exact .inl (a O H x y d d' s Q dom hx hy z q)
  · exact .inr (b O H x y d d' s Q dom hx hy z q)

def gAddS : PyData → PyData → Option Res
  | .str x, .str y => if x.length + y.length ≤ sizeLine then some (.val (.str (x ++ y))) else none
  | _, _ => none
def gCat : PyData → PyData → Option Res
  | .list xs, .list ys => if xs.length + ys.length ≤ sizeLine then some (.new (xs ++ ys)) else none
  | _, _ => none
def gCatT : PyData → PyData → Option Res
  | .tuple xs, .tuple ys => if xs.length + ys.length ≤ sizeLine then some (.val (.tuple (xs ++ ys))) else none
  | _, _ => none
theorem snd_addS : Snd2 K (fun x y H Q => ∃ i j, x = .str i ∧ y = .str j ∧ i.length + j.length ≤ sizeLine ∧ Q (.str (i ++ j)) H) gAddS := by
  intro O H x y d e s Q dom hx hy hg q
  unfold gAddS at hg
  split at hg
  · split at hg
    · rename_i h
      cases hg
      cases hx
      cases hy
      exact ⟨_, _, rfl, rfl, h, okv dom q (.str _)⟩
    · cases hg
  · cases hg
theorem snd_cat : Snd2 K rCat gCat := by
  intro O H x y d e s Q dom hx hy hg q
  unfold gCat at hg
  split at hg
  · split at hg
    · rename_i h
      cases hg
      obtain ⟨a, xs, rfl, ha, fa⟩ := hx
      obtain ⟨b, ys, rfl, hb, fb⟩ := hy
      exact ⟨a, b, xs, ys, rfl, rfl, ha, hb, by rw [← fa.length, ← fb.length]; exact h, fun p hp => okn q hp (fa.append fb)⟩
    · cases hg
  · cases hg
theorem FzA.nil_iff {ds : List PyData} {vs : List V} (h : FzA K O H ds vs) : vs = [] → ds = [] := fun e => by
  subst e; cases h; rfl
theorem snd_catT : Snd2 K (rCatA K) gCatT := by
  intro O H x y d e s Q dom hx hy hg q
  unfold gCatT at hg
  split at hg
  · split at hg
    · rename_i h
      cases hg
      have hx' := hx
      have hy' := hy
      obtain ⟨a, xs, rfl, ha, fa⟩ := Fz.sqT hx
      obtain ⟨b, ys, rfl, hb, fb⟩ := Fz.sqT hy
      refine ⟨a, b, xs, ys, rfl, rfl, ha, hb, by rw [← fa.length, ← fb.length]; exact h, fun e => ?_, fun _ e => ?_, fun _ _ p hp => okt dom q hp (fa.append fb)⟩
      · rw [fa.nil_iff e, List.nil_append] at q
        exact okv dom q hy'
      · rw [fb.nil_iff e, List.append_nil] at q
        exact okv dom q hx'
    · cases hg
  · cases hg
def gAdd : PyData → PyData → Option Res
  | .int i, .int j => some (.val (.int (i + j)))
  | .tuple xs, .tuple ys => if xs.length + ys.length ≤ sizeLine then some (.val (.tuple (xs ++ ys))) else none
  | .list xs, .list ys => if xs.length + ys.length ≤ sizeLine then some (.new (xs ++ ys)) else none
  | .str x, .str y => if x.length + y.length ≤ sizeLine then some (.val (.str (x ++ y))) else none
  | _, _ => none
def rAddA (K : PySem.W.Frag) : R2 := fun x y H Q => rI0 (fun i j => .int (i + j)) x y H Q ∨ (rCatA K x y H Q ∨ (rCat x y H Q ∨ (∃ i j, x = .str i ∧ y = .str j ∧ i.length + j.length ≤ sizeLine ∧ Q (.str (i ++ j)) H)))
theorem snd_add : Snd2 K (rAddA K) gAdd := by
  intro O H x y d e s Q dom hx hy hg q
  unfold gAdd at hg
  split at hg
  · exact .inl (snd_int2 (g := fun i j => i + j) O H x y _ _ s Q dom hx hy hg q)
  · exact .inr (.inl (snd_catT O H x y _ _ s Q dom hx hy hg q))
  · exact .inr (.inr (.inl (snd_cat O H x y _ _ s Q dom hx hy hg q)))
  · exact .inr (.inr (.inr (snd_addS O H x y _ _ s Q dom hx hy hg q)))
  · cases hg
theorem op_addA {X : Cx} : OpR X (binaryOp .Add) (rAddA X.K) := OpR.or op_add (OpR.or op_catA (OpR.or op_cat op_add_str))
abbrev gSub := gInt2 fun i j => i - j
theorem dec1 {p : Prop} [Decidable p] (h : decide p = true) : p := of_decide_eq_true h
/-- products of any size that is still one of ours -/
def mulOk (i j : Int) : Bool := decide (i.natAbs.log2 + j.natAbs.log2 < 1000000)
theorem mulOk_to {i j : Int} (h : mulOk i j = true) : CMulW i j := by
  have h' := dec1 h
  exact h'
def gMul : PyData → PyData → Option Res
  | .int i, .int j => if mulOk i j = true then some (.val (.int (i * j))) else none
  | .list xs, .int k => @ite _ (k < 2 ^ 63 ∧ -(2 ^ 63) ≤ k ∧ xs.length * k.toNat ≤ sizeLine) (Classical.propDecidable _) (some (.new (List.replicate k.toNat xs).flatten)) none
  | .tuple xs, .int k => @ite _ (xs ≠ [] ∧ 2 ≤ k ∧ k ≤ 1000 ∧ xs.length ≤ 1000) (Classical.propDecidable _) (some (.val (.tuple (List.replicate k.toNat xs).flatten))) none
  | _, _ => none
def rMulA (K : PySem.W.Frag) : R2 := fun x y H Q => rI CMulW (fun i j => .int (i * j)) x y H Q ∨ (rRep x y H Q ∨ rRepT K x y H Q)
theorem op_mulA {X : Cx} : OpR X (binaryOp .Mult) (rMulA X.K) := OpR.or op_mulW (OpR.or op_rep op_repT)
theorem FzA.rep {K : PySem.W.Frag} {O : Own} {H : Hp} {ds : List PyData} {vs : List V} (h : FzA K O H ds vs) : ∀ n : Nat, FzA K O H (List.replicate n ds).flatten (List.replicate n vs).flatten
  | 0 => .nil
  | n + 1 => by
    rw [List.replicate_succ, List.replicate_succ, List.flatten_cons, List.flatten_cons]
    exact h.append (h.rep n)
theorem snd_mul : Snd2 K (rMulA K) gMul := by
  intro O H x y d e s Q dom hx hy hg q
  unfold gMul at hg
  split at hg
  · split at hg
    · rename_i h
      cases hg
      cases hx
      cases hy
      exact .inl ⟨_, _, rfl, rfl, mulOk_to h, okv dom q (.int _)⟩
    · cases hg
  · split at hg
    · rename_i h
      cases hg
      cases hy
      obtain ⟨a, xs, rfl, ha, fa⟩ := hx
      exact .inr (.inl ⟨a, _, xs, rfl, rfl, ha, h.2.1, h.1, by rw [← fa.length]; exact h.2.2, fun p hp => okn q hp (fa.rep _)⟩)
    · cases hg
  · split at hg
    · rename_i h
      cases hg
      cases hy
      obtain ⟨a, xs, rfl, ha, fa⟩ := Fz.sqT hx
      exact .inr (.inr ⟨a, _, xs, rfl, rfl, ha, fun e => h.1 (fa.nil_iff e), h.2.1, h.2.2.1, by rw [← fa.length]; exact h.2.2.2, fun p hp => okt dom q hp (fa.rep _)⟩)
    · cases hg
  · cases hg
/-- // and % -/
def divOk (_i j : Int) : Bool := decide (0 < j ∧ j.natAbs.log2 < 9000)
abbrev gDiv := gInt2C divOk fun i j => i / j
theorem snd_div : Snd2 K (rI CDivW fun i j => .int (i / j)) gDiv := snd_int2C fun _ _ h => by
  have h' := dec1 h
  exact h'
abbrev gMod := gInt2C (fun _ j => decide (0 < j)) fun i j => i % j
theorem snd_mod : Snd2 K (rI (fun _ j => 0 < j) fun i j => .int (i % j)) gMod := snd_int2C fun _ _ h => by
  have h' := dec1 h
  exact h'
def powOk (i j : Int) : Bool := decide (0 ≤ j ∧ j ≤ 1000000 ∧ i.natAbs < 2 ^ 64)
abbrev gPow := gInt2C powOk fun i j => i ^ j.toNat
theorem snd_pow : Snd2 K (rI CPow fun i j => .int (i ^ j.toNat)) gPow := snd_int2C fun _ _ h => by
  have h' := dec1 h
  exact h'
abbrev gShl := gInt2C powOk fun i j => i * 2 ^ j.toNat
theorem snd_shl : Snd2 K (rI CPow fun i j => .int (i * 2 ^ j.toNat)) gShl := snd_int2C fun _ _ h => by
  have h' := dec1 h
  exact h'
abbrev gShr := gInt2C (fun _ j => decide (0 ≤ j)) fun i j => i / 2 ^ j.toNat
theorem snd_shr : Snd2 K (rI (fun _ j => 0 ≤ j) fun i j => .int (i / 2 ^ j.toNat)) gShr := snd_int2C fun _ _ h => by
  have h' := dec1 h
  exact h'
abbrev gAndB := gInt2 Builtin.bitAnd
abbrev gOrB := gInt2 Builtin.bitOr
abbrev gXorB := gInt2 Builtin.bitXor
abbrev gLt := gRel fun i j => decide (i < j)
abbrev gLe := gRel fun i j => decide (i ≤ j)
abbrev gGt := gRel fun i j => decide (j < i)
abbrev gGe := gRel fun i j => decide (j ≤ i)

/-! ### == and != of data -/
mutual
theorem Fz.dp : ∀ (d : PyData) (v : V), Fz K O H d v → SeqAt.shaped d = true ∨ d.canLay0 = true → Dp K H v d
  | .none, _, h, _ => by cases h; exact .non
  | .bool _, _, h, _ => by cases h; exact .bl _
  | .int _, _, h, _ => by cases h; exact .int _
  | .str _, _, h, _ => by cases h; exact .str _
  | .list ds, _, h, e => by
    have e' : PyData.canLayAll0 ds = true := by
      rcases e with e | e
      · have := SeqAt.canLay_of_shaped e
        simpa only [PyData.canLay0] using this
      · simpa only [PyData.canLay0] using e
    cases h with
    | lst hr n ha => exact .lst (.of hr) (FzA.dp ds _ ha e')
  | .tuple ds, _, h, e => by
    have e' : PyData.canLayAll0 ds = true := by
      rcases e with e | e
      · have := SeqAt.canLay_of_shaped e
        simpa only [PyData.canLay0] using this
      · simpa only [PyData.canLay0] using e
    obtain ⟨a, xs, rfl, hs, ha⟩ := h.sqT
    exact .tup hs (FzA.dp ds _ ha e')
  | .dict ds, _, h, e => by
    rcases e with e | e
    · have := SeqAt.canLay_of_shaped e
      simp [PyData.canLay0] at this
    · simp [PyData.canLay0] at e
theorem FzA.dp : ∀ (ds : List PyData) (vs : List V), FzA K O H ds vs → PyData.canLayAll0 ds = true → DpAll K H vs ds
  | [], _, h, _ => by cases h; exact .nil
  | d :: ds, _, h, e => by
    cases h with
    | cons h1 h2 =>
      have e' : d.canLay0 = true ∧ PyData.canLayAll0 ds = true := by simpa only [PyData.canLayAll0, Bool.and_eq_true] using e
      exact .cons (Fz.dp d _ h1 (.inr e'.1)) (FzA.dp ds _ h2 e'.2)
end
theorem Vw.dp {d : PyData} {v : V} (h : Vw K O H d v) (e : SeqAt.shaped d = true) : Dp K H v d := by
  cases d with
  | list ds =>
    obtain ⟨a, xs, rfl, hs, ha⟩ := h
    exact .lst (.of hs) (FzA.dp ds _ ha (by simpa only [PyData.canLay0] using SeqAt.canLay_of_shaped e))
  | _ => exact Fz.dp _ _ h (.inl e)
def shp (d : PyData) : Bool := match d with
  | .int _ => true
  | .none => true
  | .bool _ => true
  | d => SeqAt.shaped d
theorem shp_ok {d : PyData} (h : shp d = true) : SeqAt.shaped d = true := by
  cases d <;> first | exact h | rfl
def gEq (neg : Bool) (d e : PyData) : Option Res := if shp d = true ∧ shp e = true then some (.val (.bool (if neg then !PyData.eqv d e else PyData.eqv d e))) else none
theorem snd_eq : Snd2 K (rEqD K) (gEq false) := by
  intro O H x y d e s Q dom hx hy hg q
  unfold gEq at hg
  split at hg
  · rename_i h
    cases hg
    exact ⟨d, e, hx.dp (shp_ok h.1), hy.dp (shp_ok h.2), shp_ok h.1, shp_ok h.2, okv dom q (.bl _)⟩
  · cases hg
theorem snd_ne : Snd2 K (rNeD K) (gEq true) := by
  intro O H x y d e s Q dom hx hy hg q
  unfold gEq at hg
  split at hg
  · rename_i h
    cases hg
    exact ⟨d, e, hx.dp (shp_ok h.1), hy.dp (shp_ok h.2), shp_ok h.1, shp_ok h.2, okv dom q (.bl _)⟩
  · cases hg

/-! ### is -/
def isNon : PyData → Bool
  | .none => true
  | _ => false
def gIs : PyData → PyData → Option Res
  | d, .none => some (.val (.bool (isNon d)))
  | .bool a, .bool b => some (.val (.bool (decide (a = b))))
  | _, _ => none
theorem non_iff {d : PyData} {v : V} (h : Vw K O H d v) : decide (v = V.non) = isNon d := by
  cases d with
  | list ds =>
    obtain ⟨a, xs, rfl, _, _⟩ := h
    rfl
  | _ => cases h <;> rfl
def rIsA : R2 := fun x y H Q => (y = .non ∧ Q (.bl (decide (x = .non))) H) ∨ (∃ a b, x = V.bl a ∧ y = V.bl b ∧ Q (.bl (decide (a = b))) H)
def rIsNotA : R2 := fun x y H Q => (y = .non ∧ Q (.bl (!decide (x = .non))) H)
theorem snd_is : Snd2 K rIsA gIs := by
  intro O H x y d e s Q dom hx hy hg q
  unfold gIs at hg
  split at hg
  · cases hg
    cases hy
    refine .inl ⟨rfl, ?_⟩
    rw [non_iff hx]
    exact okv dom q (.bl _)
  · cases hg
    cases hx
    cases hy
    exact .inr ⟨_, _, rfl, rfl, okv dom q (.bl _)⟩
  · cases hg
def gIsNot : PyData → PyData → Option Res
  | d, .none => some (.val (.bool (!isNon d)))
  | _, _ => none
theorem snd_isnot : Snd2 K rIsNotA gIsNot := by
  intro O H x y d e s Q dom hx hy hg q
  unfold gIsNot at hg
  split at hg
  · cases hg
    cases hy
    refine ⟨rfl, ?_⟩
    rw [non_iff hx]
    exact okv dom q (.bl _)
  · cases hg
theorem op_isA {X : Cx} : OpR X (compareOp .Is) rIsA := OpR.or op_isN op_is_bl

/-! ### in -/
def eqF : PyData → PyData → Bool
  | .none, .none => true
  | .bool a, .bool b => a == b
  | .bool a, .int b => (if a then 1 else 0) == b
  | .int a, .bool b => a == (if b then 1 else 0)
  | .int a, .int b => a == b
  | .str a, .str b => a == b
  | _, _ => false
def flatD : PyData → Bool
  | .none => true
  | .bool _ => true
  | .int _ => true
  | .str _ => true
  | _ => false
def gIn (neg : Bool) (d : PyData) : PyData → Option Res
  | .list xs => if flatD d = true ∧ xs.all flatD = true then some (.val (.bool (if neg then !(xs.any fun y => eqF y d) else xs.any fun y => eqF y d))) else none
  | .tuple xs => if flatD d = true ∧ xs.all flatD = true then some (.val (.bool (if neg then !(xs.any fun y => eqF y d) else xs.any fun y => eqF y d))) else none
  | _ => none
theorem Fz.flat {d : PyData} {v : V} (h : Fz K O H d v) (e : flatD d = true) : flatV v = true := by
  cases h <;> first | rfl | cases e
theorem Vw.flat {d : PyData} {v : V} (h : Vw K O H d v) (e : flatD d = true) : flatV v = true := by
  cases d with
  | list ds => cases e
  | _ => exact Fz.flat h e
theorem FzA.flat : ∀ {ds : List PyData} {vs : List V}, FzA K O H ds vs → ds.all flatD = true → vs.all flatV = true
  | [], _, h, _ => by cases h; rfl
  | d :: ds, _, h, e => by
    cases h with
    | cons h1 h2 =>
      rw [List.all_cons, Bool.and_eq_true] at e ⊢
      exact ⟨h1.flat e.1, FzA.flat h2 e.2⟩
theorem eqF_V {d e : PyData} {v u : V} (h : Fz K O H d v) (g : Fz K O H e u) (fd : flatD d = true) (fe : flatD e = true) : eqV v u = eqF d e := by
  cases h <;> first | (cases fd; done) | (cases g <;> first | (cases fe; done) | rfl)
theorem anyF_V {e : PyData} {u : V} (g : Fz K O H e u) (fe : flatD e = true) : ∀ {ds : List PyData} {vs : List V}, FzA K O H ds vs → ds.all flatD = true → inV u vs = ds.any fun y => eqF y e
  | [], _, h, _ => by cases h; rfl
  | d :: ds, _, h, e' => by
    cases h with
    | cons h1 h2 =>
      rw [List.all_cons, Bool.and_eq_true] at e'
      show (eqV _ u || inV u _) = _
      rw [List.any_cons, eqF_V h1 g e'.1 fe, anyF_V g fe h2 e'.2]
theorem Vw.fzFlat {d : PyData} {v : V} (h : Vw K O H d v) (e : flatD d = true) : Fz K O H d v := by
  cases d with
  | list ds => cases e
  | _ => exact h
theorem snd_in {neg : Bool} : Snd2 K (rIn K neg) (gIn neg) := by
  intro O H x y d e s Q dom hx hy hg q
  unfold gIn at hg
  split at hg
  · split at hg
    · rename_i h
      cases hg
      obtain ⟨a, xs, rfl, ha, fa⟩ := hy
      refine ⟨a, xs, rfl, .inl (.of ha), hx.flat h.1, fa.flat h.2, ?_⟩
      rw [anyF_V (hx.fzFlat h.1) h.1 fa h.2]
      have := okv dom q (.bl _)
      cases neg <;> exact this
    · cases hg
  · split at hg
    · rename_i h
      cases hg
      obtain ⟨a, xs, rfl, ha, fa⟩ := Fz.sqT hy
      refine ⟨a, xs, rfl, .inr ha, hx.flat h.1, fa.flat h.2, ?_⟩
      rw [anyF_V (hx.fzFlat h.1) h.1 fa h.2]
      have := okv dom q (.bl _)
      cases neg <;> exact this
    · cases hg
  · cases hg

/-! ### subscripts -/
def gIx : PyData → PyData → Option Res
  | .list xs, .int i => (atI xs i).map .val
  | .tuple xs, .int i => (atI xs i).map .val
  | .str z, .int i => if z.length ≤ sizeLine then (atI z.cps.toList i).map fun c => .val (.str ⟨#[c]⟩) else none
  | _, _ => none
def rIxA (K : PySem.W.Frag) : R2 := fun x y H Q => rIxL K x y H Q ∨ (rIxT K x y H Q ∨ rIxS x y H Q)
theorem FzA.at {ds : List PyData} {vs : List V} {i : Int} {d : PyData} (h : FzA K O H ds vs) (e : atI ds i = some d) : ∃ v, atI vs i = some v ∧ Fz K O H d v := by
  unfold atI at e ⊢
  rw [← h.length]
  obtain ⟨j, e1, e2⟩ := Option.bind_eq_some_iff.mp e
  obtain ⟨v, e3, r⟩ := h.get e2
  exact ⟨v, by rw [e1]; exact e3, r⟩
theorem snd_ix : Snd2 K (rIxA K) gIx := by
  intro O H x y d e s Q dom hx hy hg q
  unfold gIx at hg
  split at hg
  · obtain ⟨d, e1, e2⟩ := Option.map_eq_some_iff.mp hg
    cases e2
    cases hy
    obtain ⟨a, xs, rfl, ha, fa⟩ := hx
    obtain ⟨v, e3, r⟩ := fa.at e1
    exact .inl ⟨a, xs, _, v, rfl, rfl, .of ha, e3, okv dom q r⟩
  · obtain ⟨d, e1, e2⟩ := Option.map_eq_some_iff.mp hg
    cases e2
    cases hy
    obtain ⟨a, xs, rfl, ha, fa⟩ := Fz.sqT hx
    obtain ⟨v, e3, r⟩ := fa.at e1
    exact .inr (.inl ⟨a, xs, _, v, rfl, rfl, ha, e3, okv dom q r⟩)
  · split at hg
    · rename_i h
      obtain ⟨c, e1, e2⟩ := Option.map_eq_some_iff.mp hg
      cases e2
      cases hy
      cases hx
      exact .inr (.inr ⟨_, _, c, rfl, rfl, h, e1, okv dom q (.str _)⟩)
    · cases hg
  · cases hg
end
section
variable {X : Cx} {np : Nat} {e a b : Expr} {pos : Pos} {f fa fb : FE}
theorem ix_any : IxR X (rIxA X.K) := IxR.or ix_list (IxR.or ix_tup ix_str)
theorem fx_ix (ha : FX X np a fa) (hb : FX X np b fb) (hs : PlainIx b := by intro _ _; rfl) : FX X np (.Subscript a b pos) (fOp2 gIx false fa fb) :=
  PE.weak (pe_ix ix_any ha hb hs) fun _ _ _ h => two snd_ix h
end
end Fx

end

/-! Fx5: argument lists, displays, slices, built-ins -/
noncomputable section
namespace Fx
open PySem PySem.Spec PyProof.Rows L2

section
variable {K : PySem.W.Frag} {np : Nat} {W : Wd} {O O' : Own} {σ σ' : L2.St} {H H' : Hp} {Γ Γ' : Gm}
theorem Tm.args : ∀ {xs : List V} {us : List TV} {vs : List V} {ts : List TV}, xs.length = us.length → Tm K O H σ Γ (xs.reverse ++ vs) (us.reverse ++ ts) → Paired (fun x u => ∃ g, TR K O H σ Γ g u x) xs us ∧ Tm K O H σ Γ vs ts
  | [], [], _, _, _, h => ⟨.nil, h⟩
  | x :: xs, u :: us, vs, ts, e, h => by
    rw [List.reverse_cons, List.reverse_cons, List.append_assoc, List.append_assoc] at h
    obtain ⟨h1, h2⟩ := Tm.args (xs := xs) (us := us) (by simpa using e) h
    exact ⟨.cons ⟨_, h2.1⟩ h1, h2.2⟩
  | [], _ :: _, _, _, e, _ => by simp at e
  | _ :: _, [], _, _, e, _ => by simp at e
theorem Cf.args {xs : List V} {us : List TV} {vs : List V} {ts : List TV} (c : Cf K np W O σ H Γ (xs.reverse ++ vs) (us.reverse ++ ts)) (e : xs.length = us.length) : Paired (fun x u => ∃ g, TR K O H σ Γ g u x) xs us ∧ Cf K np W O σ H Γ vs ts :=
  ⟨(Tm.args e c.tm).1, c.dom, c.sl, (Tm.args e c.tm).2, c.keep, c.out, c.wt, c.arg, c.len⟩
def dvs (Γ : Gm) : List TV → Option (List PyData)
  | [] => some []
  | t :: ts => (dv Γ t).bind fun d => (dvs Γ ts).map fun ds => d :: ds
abbrev VwA (K : PySem.W.Frag) (O : Own) (H : Hp) : List PyData → List V → Prop := Paired fun d x => Vw K O H d x
theorem Cf.views {vs : List V} {ts : List TV} (c : Cf K np W O σ H Γ vs ts) : ∀ {xs : List V} {us : List TV} {ds : List PyData}, Paired (fun x u => ∃ g, TR K O H σ Γ g u x) xs us → dvs Γ us = some ds → VwA K O H ds xs
  | _, _, ds, .nil, e => by cases e; exact .nil
  | _, _, ds, .cons r t, e => by
    obtain ⟨d, e1, e⟩ := Option.bind_eq_some_iff.mp e
    obtain ⟨ds', e2, e⟩ := Option.map_eq_some_iff.mp e
    cases e
    obtain ⟨g, r⟩ := r
    exact .cons (c.view r e1) (Cf.views c t e2)
/-- frozen ones -/
def frz : TV → Option PyData
  | .md (.dat d) => some d
  | _ => none
def frzs : List TV → Option (List PyData)
  | [] => some []
  | t :: ts => (frz t).bind fun d => (frzs ts).map fun ds => d :: ds
theorem frz_to {t : TV} {d : PyData} (e : frz t = some d) : t = .md (.dat d) := by
  unfold frz at e
  split at e
  · cases e; rfl
  · cases e
theorem frzs_to : ∀ {ts : List TV} {ds : List PyData}, frzs ts = some ds → ts = ds.map fun d => .md (.dat d)
  | [], ds, e => by cases e; rfl
  | t :: ts, ds, e => by
    obtain ⟨d, e1, e⟩ := Option.bind_eq_some_iff.mp e
    obtain ⟨ds', e2, e⟩ := Option.map_eq_some_iff.mp e
    cases e
    rw [frz_to e1, frzs_to e2]
    rfl
theorem frzA : ∀ {xs : List V} {us : List TV} {ds : List PyData}, Paired (fun x u => ∃ g, TR K O H σ Γ g u x) xs us → frzs us = some ds → FzA K O H ds xs
  | _, _, ds, .nil, e => by cases e; exact .nil
  | _, _, ds, .cons r t, e => by
    obtain ⟨d, e1, e⟩ := Option.bind_eq_some_iff.mp e
    obtain ⟨ds', e2, e⟩ := Option.map_eq_some_iff.mp e
    cases e
    obtain ⟨g, r⟩ := r
    rw [frz_to e1] at r
    exact .cons r (frzA t e2)
end
section
variable {X : Cx} {np : Nat} {e a b : Expr} {es : List Expr} {pos : Pos} {f fa fb : FE} {fs : FA}
def fANil : FA := fun Γ => some ([], Γ)
def fACons (fa : FE) (fs : FA) : FA := fun Γ => (fa Γ).bind fun p => (fs p.2).map fun q => (p.1 :: q.1, q.2)
theorem fa_nil : FAX X np [] fANil := by
  refine PA.weak pa_nil fun σ H Q h => ?_
  obtain ⟨W, Γ, vs, ts, us, Γ', c, e, q⟩ := h
  cases e
  exact q [] H c rfl
theorem fa_cons (ha : FX X np e fa) (hr : FAX X np es fs) (hs : starEach (e :: es) X.env = (false, eval e X.env) :: starEach es X.env := by rfl) : FAX X np (e :: es) (fACons fa fs) := by
  refine PA.weak (pa_cons ha hr hs) fun σ H Q h => ?_
  obtain ⟨W, Γ, vs, ts, us, Γ', c, e, q⟩ := h
  obtain ⟨⟨t1, Γ1⟩, e1, e⟩ := Option.bind_eq_some_iff.mp e
  obtain ⟨⟨us', Γ2⟩, e2, e⟩ := Option.map_eq_some_iff.mp e
  cases e
  refine ⟨W, Γ, vs, ts, t1, Γ1, c, e1, fun x H1 c1 => ⟨W, Γ1, x :: vs, t1 :: ts, us', Γ2, c1, e2, fun xs H2 c2 hl => q (x :: xs) H2 ?_ (by simp [hl])⟩⟩
  rw [List.reverse_cons, List.reverse_cons, List.append_assoc, List.append_assoc]
  exact c2

/-- (a, b, ..) and [a, b, ..] of plain data -/
def fTup (fs : FA) : FE := fun Γ => (fs Γ).bind fun p => (frzs p.1).bind fun ds => if ds.length ≤ sizeLine then some (.md (.dat (.tuple ds)), p.2) else none
def fLst (ow : Bool) (fs : FA) : FE := fun Γ => (fs Γ).bind fun p => (frzs p.1).bind fun ds => if ds.length ≤ sizeLine then some ((Res.new ds).fin ow, p.2) else none
theorem fx_tup {k : Nat} (h : FAX X np es fs) : FX X np (.Tuple es k pos) (fTup fs) := by
  refine PE.weak (pe_tup h) fun σ H Q h => ?_
  obtain ⟨W, Γ, vs, ts, t, Γ', c, e, q⟩ := h
  obtain ⟨⟨us, Γ1⟩, e1, e⟩ := Option.bind_eq_some_iff.mp e
  obtain ⟨ds, e2, e⟩ := Option.bind_eq_some_iff.mp e
  by_cases hl : ds.length ≤ sizeLine
  · rw [if_pos hl] at e
    cases e
    refine ⟨W, Γ, vs, ts, us, Γ1, c, e1, fun xs H1 c1 el => ?_⟩
    obtain ⟨O, c1⟩ := c1
    obtain ⟨pr, c2⟩ := c1.args el
    have fa := frzA pr e2
    refine ⟨by rw [← fa.length]; exact hl, fun p hp => ?_⟩
    exact okt c2.dom (fun v H' ok => q v H' (c2.res (ow := false) ok)) hp fa
  · rw [if_neg hl] at e
    cases e
theorem fx_lst {ow : Bool} (h : FAX X np es fs) : FX X np (.List es pos) (fLst ow fs) := by
  refine PE.weak (pe_lst h) fun σ H Q h => ?_
  obtain ⟨W, Γ, vs, ts, t, Γ', c, e, q⟩ := h
  obtain ⟨⟨us, Γ1⟩, e1, e⟩ := Option.bind_eq_some_iff.mp e
  obtain ⟨ds, e2, e⟩ := Option.bind_eq_some_iff.mp e
  by_cases hl : ds.length ≤ sizeLine
  · rw [if_pos hl] at e
    cases e
    refine ⟨W, Γ, vs, ts, us, Γ1, c, e1, fun xs H1 c1 el => ?_⟩
    obtain ⟨O, c1⟩ := c1
    obtain ⟨pr, c2⟩ := c1.args el
    have fa := frzA pr e2
    refine ⟨by rw [← fa.length]; exact hl, fun p hp => ?_⟩
    exact okn (fun v H' ok => q v H' (c2.res ok)) hp fa
  · rw [if_neg hl] at e
    cases e

/-! ### built-ins by values -/
def SndN (K : PySem.W.Frag) (r : List V → Hp → VK → Prop) (g : List PyData → Option Res) : Prop :=
  ∀ (O : Own) (H : Hp) (xs : List V) (ds : List PyData) (s : Res) (Q : VK), (∀ b t, O b = some t → H b ≠ none) → VwA K O H ds xs → g ds = some s → (∀ v H', ResOk K O H s v H' → Q v H') → r xs H Q
def fB (g : List PyData → Option Res) (ow : Bool) (fs : FA) : FE := fun Γ => (fs Γ).bind fun p => (dvs p.2 p.1).bind fun ds => (g ds).map fun r => (r.fin ow, p.2)
theorem byVals {r : List V → Hp → VK → Prop} {g : List PyData → Option Res} {ow : Bool} (hg : SndN X.K r g) {σ : L2.St} {H : Hp} {Q : VK} (h : up X.K np (fB g ow fs) σ H Q) : tCB r (upA X.K np fs) σ H Q := by
  obtain ⟨W, Γ, vs, ts, t, Γ', c, e, q⟩ := h
  obtain ⟨⟨us, Γ1⟩, e1, e⟩ := Option.bind_eq_some_iff.mp e
  obtain ⟨ds, e2, e⟩ := Option.bind_eq_some_iff.mp e
  obtain ⟨s, e3, e⟩ := Option.map_eq_some_iff.mp e
  cases e
  refine ⟨W, Γ, vs, ts, us, Γ1, c, e1, fun xs H1 c1 el => ?_⟩
  obtain ⟨O, c1⟩ := c1
  obtain ⟨pr, c2⟩ := c1.args el
  exact hg O H1 xs ds s Q c2.dom (c2.views pr e2) e3 fun v H' ok => q v H' (c2.res ok)
theorem fx_B {id : String} {x : Str} {p : Pos} {r : List V → Hp → VK → Prop} {g : List PyData → Option Res} {ow : Bool} (hc : CallR X (.builtin id) r) (hg : SndN X.K r g) (hm : X.mg x = none) (ha : FAX X np (e :: es) fs) (hv : bootBuiltins x = some (.builtin id) := by decide +kernel)
    (hgl : Gl X x := by rfl) (hn : x ≠ "__name__" := by decide) (hdb : (x == ("__debug__" : Str)) = false := by decide)
    (he : starEach (e :: es) X.env = (false, eval e X.env) :: starEach es X.env := by rfl) (hpl : (backTo pos (starEach es X.env)).any (·.1) = false := by rfl) : FX X np (.Call (.Name x p) (e :: es) [] pos) (fB g ow fs) :=
  PE.weak (pe_callB hc hgl hm hv ha hn hdb he hpl) fun _ _ _ h => byVals hg h
theorem fx_Ty {T : String} {x : Str} {p : Pos} {r : List V → Hp → VK → Prop} {g : List PyData → Option Res} {ow : Bool} (hc : CallR X (.type T) r) (hg : SndN X.K r g) (hm : X.mg x = none) (ha : FAX X np (e :: es) fs) (hv : bootBuiltins x = some (.type T) := by decide +kernel)
    (hgl : Gl X x := by rfl) (hn : x ≠ "__name__" := by decide) (hdb : (x == ("__debug__" : Str)) = false := by decide)
    (he : starEach (e :: es) X.env = (false, eval e X.env) :: starEach es X.env := by rfl) (hpl : (backTo pos (starEach es X.env)).any (·.1) = false := by rfl) : FX X np (.Call (.Name x p) (e :: es) [] pos) (fB g ow fs) :=
  PE.weak (pe_callTy hc hgl hm hv ha hn hdb he hpl) fun _ _ _ h => byVals hg h
/-- gcd, imported by the module -/
theorem fx_Bfun {id : String} {x : Str} {p : Pos} {r : List V → Hp → VK → Prop} {g : List PyData → Option Res} {ow : Bool} (hc : CallR X (.builtin id) r) (hg : SndN X.K r g) (hm : X.mg x = some (.builtin id)) (ha : FAX X np (e :: es) fs)
    (hgl : Gl X x := by rfl) (hdb : (x == ("__debug__" : Str)) = false := by decide)
    (he : starEach (e :: es) X.env = (false, eval e X.env) :: starEach es X.env := by rfl) (hpl : (backTo pos (starEach es X.env)).any (·.1) = false := by rfl) : FX X np (.Call (.Name x p) (e :: es) [] pos) (fB g ow fs) :=
  PE.weak (pe_callBfun hc hgl hm ha hdb he hpl) fun _ _ _ h => byVals hg h
end

section
variable {K : PySem.W.Frag} {O : Own} {H : Hp}
theorem VwA.one {d : PyData} {xs : List V} (h : VwA K O H [d] xs) : ∃ x, xs = [x] ∧ Vw K O H d x := by
  cases h with
  | cons r t => cases t; exact ⟨_, rfl, r⟩
theorem VwA.two {d e : PyData} {xs : List V} (h : VwA K O H [d, e] xs) : ∃ x y, xs = [x, y] ∧ Vw K O H d x ∧ Vw K O H e y := by
  cases h with
  | cons r t =>
    cases t with
    | cons r' t => cases t; exact ⟨_, _, rfl, r, r'⟩
def gLen : List PyData → Option Res
  | [.list xs] => some (.val (.int xs.length))
  | [.tuple xs] => some (.val (.int xs.length))
  | [.str x] => if x.length ≤ sizeLine then some (.val (.int x.length)) else none
  | _ => none
theorem snd_len : SndN K (fun xs H Q => ∃ x n, xs = [x] ∧ LenV K x H n ∧ Q (.int n) H) gLen := by
  intro O H xs ds s Q dom hx hg q
  unfold gLen at hg
  split at hg
  · cases hg
    obtain ⟨x, rfl, h⟩ := hx.one
    obtain ⟨a, ys, rfl, ha, fa⟩ := h
    exact ⟨_, ys.length, rfl, .inl ⟨ys, .of ha, rfl⟩, by rw [← fa.length]; exact okv dom q (.int _)⟩
  · cases hg
    obtain ⟨x, rfl, h⟩ := hx.one
    obtain ⟨a, ys, rfl, ha, fa⟩ := Fz.sqT h
    exact ⟨_, ys.length, rfl, .inr ⟨ys, ha, rfl⟩, by rw [← fa.length]; exact okv dom q (.int _)⟩
  · split at hg
    · rename_i h
      cases hg
      obtain ⟨x, rfl, h'⟩ := hx.one
      cases h'
      exact ⟨_, _, rfl, ⟨h, rfl⟩, okv dom q (.int _)⟩
    · cases hg
  · cases hg
def intsOf : List PyData → Option (List Int)
  | [] => some []
  | .int i :: r => (intsOf r).map fun l => i :: l
  | _ :: _ => none
theorem intsOf_to : ∀ {ds : List PyData} {ns : List Int}, intsOf ds = some ns → ds = ns.map .int
  | [], ns, e => by cases e; rfl
  | .int i :: r, ns, e => by
    obtain ⟨l, e1, e2⟩ := Option.map_eq_some_iff.mp e
    cases e2
    rw [intsOf_to e1]
    rfl
  | .none :: _, _, e => by cases e
  | .bool _ :: _, _, e => by cases e
  | .str _ :: _, _, e => by cases e
  | .list _ :: _, _, e => by cases e
  | .tuple _ :: _, _, e => by cases e
  | .dict _ :: _, _, e => by cases e
theorem intsOf_map (ns : List Int) : intsOf (ns.map .int) = some ns := by
  induction ns with
  | nil => rfl
  | cons n ns ih => simp [intsOf, ih]
theorem FzA.intsV : ∀ {ns : List Int} {vs : List V}, FzA K O H (ns.map .int) vs → vs = ns.map .int
  | [], _, h => by cases h; rfl
  | n :: ns, _, h => by
    cases h with
    | cons h1 h2 =>
      cases h1
      rw [FzA.intsV h2]
      rfl
def boolsOf : List PyData → Option (List Bool)
  | [] => some []
  | .bool i :: r => (boolsOf r).map fun l => i :: l
  | _ :: _ => none
theorem boolsOf_to : ∀ {ds : List PyData} {ns : List Bool}, boolsOf ds = some ns → ds = ns.map .bool
  | [], ns, e => by cases e; rfl
  | .bool i :: r, ns, e => by
    obtain ⟨l, e1, e2⟩ := Option.map_eq_some_iff.mp e
    cases e2
    rw [boolsOf_to e1]
    rfl
  | .none :: _, _, e => by cases e
  | .int _ :: _, _, e => by cases e
  | .str _ :: _, _, e => by cases e
  | .list _ :: _, _, e => by cases e
  | .tuple _ :: _, _, e => by cases e
  | .dict _ :: _, _, e => by cases e
theorem boolsOf_map (ns : List Bool) : boolsOf (ns.map .bool) = some ns := by
  induction ns with
  | nil => rfl
  | cons n ns ih => simp [boolsOf, ih]
theorem FzA.boolsV : ∀ {ns : List Bool} {vs : List V}, FzA K O H (ns.map .bool) vs → vs = ns.map .bl
  | [], _, h => by cases h; rfl
  | n :: ns, _, h => by
    cases h with
    | cons h1 h2 =>
      cases h1
      rw [FzA.boolsV h2]
      rfl
def gSum : List PyData → Option Res
  | [.list ds] => (intsOf ds).map fun ns => .val (.int ns.sum)
  | _ => none
theorem snd_sum : SndN K (rSum K) gSum := by
  intro O H xs ds s Q dom hx hg q
  unfold gSum at hg
  split at hg
  · obtain ⟨ns, e1, e2⟩ := Option.map_eq_some_iff.mp hg
    cases e2
    obtain ⟨x, rfl, a, ys, rfl, ha, fa⟩ := hx.one
    rw [intsOf_to e1] at fa
    rw [fa.intsV] at ha
    exact ⟨a, ns, rfl, .of ha, okv dom q (.int _)⟩
  · cases hg
def gAll : List PyData → Option Res
  | [.list ds] => (boolsOf ds).map fun bs => .val (.bool (bs.all id))
  | _ => none
theorem snd_all : SndN K (rAll K) gAll := by
  intro O H xs ds s Q dom hx hg q
  unfold gAll at hg
  split at hg
  · obtain ⟨ns, e1, e2⟩ := Option.map_eq_some_iff.mp hg
    cases e2
    obtain ⟨x, rfl, a, ys, rfl, ha, fa⟩ := hx.one
    rw [boolsOf_to e1] at fa
    rw [fa.boolsV] at ha
    exact ⟨a, ns, rfl, .of ha, okv dom q (.bl _)⟩
  · cases hg
def gAny : List PyData → Option Res
  | [.list ds] => (boolsOf ds).map fun bs => .val (.bool (bs.any id))
  | _ => none
theorem snd_any : SndN K (rAny K) gAny := by
  intro O H xs ds s Q dom hx hg q
  unfold gAny at hg
  split at hg
  · obtain ⟨ns, e1, e2⟩ := Option.map_eq_some_iff.mp hg
    cases e2
    obtain ⟨x, rfl, a, ys, rfl, ha, fa⟩ := hx.one
    rw [boolsOf_to e1] at fa
    rw [fa.boolsV] at ha
    exact ⟨a, ns, rfl, .of ha, okv dom q (.bl _)⟩
  · cases hg
def gInt : List PyData → Option Res
  | [.int i] => some (.val (.int i))
  | [.bool b] => some (.val (.int (if b then 1 else 0)))
  | _ => none
theorem snd_toInt : SndN K (fun xs H Q => (∃ i, xs = [.int i] ∧ Q (.int i) H) ∨ ∃ k, xs = [.bl k] ∧ Q (.int (if k then 1 else 0)) H) gInt := by
  intro O H xs ds s Q dom hx hg q
  unfold gInt at hg
  split at hg
  · cases hg
    obtain ⟨x, rfl, h⟩ := hx.one
    cases h
    exact .inl ⟨_, rfl, okv dom q (.int _)⟩
  · cases hg
    obtain ⟨x, rfl, h⟩ := hx.one
    cases h
    exact .inr ⟨_, rfl, okv dom q (.int _)⟩
  · cases hg
def gAbs : List PyData → Option Res
  | [.int i] => some (.val (.int (if i < 0 then -i else i)))
  | _ => none
theorem snd_abs : SndN K (fun xs H Q => ∃ i, xs = [.int i] ∧ Q (.int (if i < 0 then -i else i)) H) gAbs := by
  intro O H xs ds s Q dom hx hg q
  unfold gAbs at hg
  split at hg
  · cases hg
    obtain ⟨x, rfl, h⟩ := hx.one
    cases h
    exact ⟨_, rfl, okv dom q (.int _)⟩
  · cases hg
def gGcd : List PyData → Option Res
  | [.int i, .int j] => some (.val (.int ((Nat.gcd i.natAbs j.natAbs : Nat) : Int)))
  | _ => none
theorem snd_gcd : SndN K rGcd gGcd := by
  intro O H xs ds s Q dom hx hg q
  unfold gGcd at hg
  split at hg
  · cases hg
    obtain ⟨x, y, rfl, h, h'⟩ := hx.two
    cases h
    cases h'
    exact ⟨_, _, rfl, okv dom q (.int _)⟩
  · cases hg
/-- max and min of two ints, or of a list of them -/
def maxL : List Int → Int
  | [] => 0
  | [a] => a
  | a :: r => let m := maxL r; if a < m then m else a
def minL : List Int → Int
  | [] => 0
  | [a] => a
  | a :: r => let m := minL r; if m < a then m else a
theorem maxL_ok : ∀ {l : List Int}, l ≠ [] → maxL l ∈ l ∧ ∀ y ∈ l, y ≤ maxL l
  | [], h => absurd rfl h
  | [a], _ => by simp [maxL]
  | a :: b :: r, _ => by
    obtain ⟨h1, h2⟩ := maxL_ok (l := b :: r) (by simp)
    show (if a < maxL (b :: r) then maxL (b :: r) else a) ∈ _ ∧ ∀ y ∈ a :: b :: r, y ≤ (if a < maxL (b :: r) then maxL (b :: r) else a)
    split
    · rename_i h
      refine ⟨List.mem_cons_of_mem _ h1, fun y hy => ?_⟩
      rcases List.mem_cons.mp hy with rfl | hy
      · omega
      · exact h2 y hy
    · rename_i h
      refine ⟨List.mem_cons_self, fun y hy => ?_⟩
      rcases List.mem_cons.mp hy with rfl | hy
      · omega
      · have := h2 y hy
        omega
theorem minL_ok : ∀ {l : List Int}, l ≠ [] → minL l ∈ l ∧ ∀ y ∈ l, minL l ≤ y
  | [], h => absurd rfl h
  | [a], _ => by simp [minL]
  | a :: b :: r, _ => by
    obtain ⟨h1, h2⟩ := minL_ok (l := b :: r) (by simp)
    show (if minL (b :: r) < a then minL (b :: r) else a) ∈ _ ∧ ∀ y ∈ a :: b :: r, (if minL (b :: r) < a then minL (b :: r) else a) ≤ y
    split
    · rename_i h
      refine ⟨List.mem_cons_of_mem _ h1, fun y hy => ?_⟩
      rcases List.mem_cons.mp hy with rfl | hy
      · omega
      · exact h2 y hy
    · rename_i h
      refine ⟨List.mem_cons_self, fun y hy => ?_⟩
      rcases List.mem_cons.mp hy with rfl | hy
      · omega
      · have := h2 y hy
        omega
def gMax2 : List PyData → Option Res
  | [.int i, .int j] => some (.val (.int (if j > i then j else i)))
  | _ => none
def gMin2 : List PyData → Option Res
  | [.int i, .int j] => some (.val (.int (if j < i then j else i)))
  | _ => none
def gMaxL : List PyData → Option Res
  | [.list ds] => (intsOf ds).bind fun ns => if ns = [] then none else some (.val (.int (maxL ns)))
  | _ => none
def gMinL : List PyData → Option Res
  | [.list ds] => (intsOf ds).bind fun ns => if ns = [] then none else some (.val (.int (minL ns)))
  | _ => none
theorem snd_max2 : SndN K (fun xs H Q => ∃ i j, xs = [.int i, .int j] ∧ Q (.int (if j > i then j else i)) H) gMax2 := by
  intro O H xs ds s Q dom hx hg q
  unfold gMax2 at hg
  split at hg
  · cases hg
    obtain ⟨x, y, rfl, h, h'⟩ := hx.two
    cases h
    cases h'
    exact ⟨_, _, rfl, okv dom q (.int _)⟩
  · cases hg
theorem snd_min2 : SndN K (fun xs H Q => ∃ i j, xs = [.int i, .int j] ∧ Q (.int (if j < i then j else i)) H) gMin2 := by
  intro O H xs ds s Q dom hx hg q
  unfold gMin2 at hg
  split at hg
  · cases hg
    obtain ⟨x, y, rfl, h, h'⟩ := hx.two
    cases h
    cases h'
    exact ⟨_, _, rfl, okv dom q (.int _)⟩
  · cases hg
theorem snd_maxL : SndN K (rMax K) gMaxL := by
  intro O H xs ds s Q dom hx hg q
  unfold gMaxL at hg
  split at hg
  · obtain ⟨ns, e1, e2⟩ := Option.bind_eq_some_iff.mp hg
    split at e2
    · cases e2
    · rename_i hn
      cases e2
      obtain ⟨x, rfl, a, ys, rfl, ha, fa⟩ := hx.one
      rw [intsOf_to e1] at fa
      rw [fa.intsV] at ha
      refine ⟨a, ns, rfl, .of ha, List.length_pos_iff.mpr hn, fun m hm hle => ?_⟩
      obtain ⟨k1, k2⟩ := maxL_ok hn
      have : m = maxL ns := Int.le_antisymm (k2 m hm) (hle _ k1)
      rw [this]
      exact okv dom q (.int _)
  · cases hg
theorem snd_minL : SndN K (rMin K) gMinL := by
  intro O H xs ds s Q dom hx hg q
  unfold gMinL at hg
  split at hg
  · obtain ⟨ns, e1, e2⟩ := Option.bind_eq_some_iff.mp hg
    split at e2
    · cases e2
    · rename_i hn
      cases e2
      obtain ⟨x, rfl, a, ys, rfl, ha, fa⟩ := hx.one
      rw [intsOf_to e1] at fa
      rw [fa.intsV] at ha
      refine ⟨a, ns, rfl, .of ha, List.length_pos_iff.mpr hn, fun m hm hle => ?_⟩
      obtain ⟨k1, k2⟩ := minL_ok hn
      have : m = minL ns := Int.le_antisymm (hle _ k1) (k2 m hm)
      rw [this]
      exact okv dom q (.int _)
  · cases hg
/-- list(x), tuple(x) -/
def gToL : List PyData → Option Res
  | [.list ds] => some (.new ds)
  | [.tuple ds] => some (.new ds)
  | _ => none
def gToT : List PyData → Option Res
  | [.list ds] => some (.val (.tuple ds))
  | [.tuple ds] => some (.val (.tuple ds))
  | _ => none
theorem snd_toL : SndN K (fun xs H Q => ∃ p ys, xs = [.ref p] ∧ (SqL K H p ys ∨ SqT K H p ys) ∧ ∀ l, H l = none → Q (.ref l) (upd H l (.lst ys))) gToL := by
  intro O H xs ds s Q dom hx hg q
  unfold gToL at hg
  split at hg
  · cases hg
    obtain ⟨x, rfl, a, ys, rfl, ha, fa⟩ := hx.one
    exact ⟨a, ys, rfl, .inl (.of ha), fun l hl => okn q hl fa⟩
  · cases hg
    obtain ⟨x, rfl, h⟩ := hx.one
    obtain ⟨a, ys, rfl, ha, fa⟩ := Fz.sqT h
    exact ⟨a, ys, rfl, .inr ha, fun l hl => okn q hl fa⟩
  · cases hg
theorem snd_toT : SndN K (fun xs H Q => ∃ p ys, xs = [.ref p] ∧ ((SqL K H p ys ∧ ∀ l, H l = none → Q (.ref l) (upd H l (.tup ys))) ∨ (SqT K H p ys ∧ Q (.ref p) H))) gToT := by
  intro O H xs ds s Q dom hx hg q
  unfold gToT at hg
  split at hg
  · cases hg
    obtain ⟨x, rfl, a, ys, rfl, ha, fa⟩ := hx.one
    exact ⟨a, ys, rfl, .inl ⟨.of ha, fun l hl => okt dom q hl fa⟩⟩
  · cases hg
    obtain ⟨x, rfl, h⟩ := hx.one
    have h' := h
    obtain ⟨a, ys, rfl, ha, fa⟩ := Fz.sqT h
    exact ⟨a, ys, rfl, .inr ⟨ha, okv dom q h'⟩⟩
  · cases hg
/-- sorted of ints -/
def srtI (ns : List Int) : List Int := ns.mergeSort fun a b => decide (a ≤ b)
theorem srtI_perm (ns : List Int) : (srtI ns).Perm ns := List.mergeSort_perm ..
theorem srtI_up (ns : List Int) : (srtI ns).Pairwise (· ≤ ·) := by
  have h := List.pairwise_mergeSort (le := fun a b : Int => decide (a ≤ b)) (by intro a b c h1 h2; simp at *; omega) (by intro a b; simp; omega) ns
  exact h.imp fun h => by simpa using h
theorem up_unique {as bs : List Int} (h : as.Perm bs) (ha : as.Pairwise (· ≤ ·)) (hb : bs.Pairwise (· ≤ ·)) : as = bs :=
  List.Perm.eq_of_pairwise (fun a b _ _ h1 h2 => Int.le_antisymm h1 h2) ha hb h
def gSortI : List PyData → Option Res
  | [.list ds] => (intsOf ds).map fun ns => .new ((srtI ns).map .int)
  | _ => none
theorem snd_sortI : SndN K (rSortedI K) gSortI := by
  intro O H xs ds s Q dom hx hg q
  unfold gSortI at hg
  split at hg
  · obtain ⟨ns, e1, e2⟩ := Option.map_eq_some_iff.mp hg
    cases e2
    obtain ⟨x, rfl, a, ys, rfl, ha, fa⟩ := hx.one
    rw [intsOf_to e1] at fa
    rw [fa.intsV] at ha
    refine ⟨a, ns, rfl, .of ha, fun ns' p hp hu hn => ?_⟩
    have : ns' = srtI ns := up_unique (hp.trans (srtI_perm ns).symm) hu (srtI_up ns)
    rw [this]
    exact okn q hn (FzA.ints _)
  · cases hg
end
end Fx

end

/-! Fx6: statements, targets, loops, comprehensions -/
noncomputable section
namespace Fx
open PySem PySem.Spec PyProof.Rows L2

section
variable {K : PySem.W.Frag} {np : Nat} {W : Wd} {O O' : Own} {σ σ' : L2.St} {H H' : Hp} {Γ Γ' : Gm}
theorem Tm.evD (k : Kp O H O' H') : ∀ {vs : List V} {ds : List PyData}, Tm K O H σ Γ vs (tsd ds) → Tm K O' H' σ' Γ' vs (tsd ds)
  | [], [], _ => True.intro
  | v :: vs, d :: ds, h => ⟨Fz.kp k _ _ h.1, Tm.evD k (vs := vs) (ds := ds) h.2⟩
  | [], _ :: _, h => h.elim
  | _ :: _, [], h => h.elim
/-- the top temporary is stored in a slot -/
theorem Cf.store {vs : List V} {ds : List PyData} {v : V} {m : MD} {i : Nat} (c : Cf K np W O σ H Γ (v :: vs) (.md m :: tsd ds)) (h : ¬ (m.own = true ∧ i < np)) : Cfg K np W (σ.set i (some v)) H (Γ.set i (some m)) vs (tsd ds) := by
  have a : Ev (· = .tmp (tsd ds).length) O H (retag O (.tmp (tsd ds).length) (some (.slot i))) H := Ev.retag (by simp) c.dom
  have r : MR K (retag O (.tmp (tsd ds).length) (some (.slot i))) H (.slot i) m v := MR.move c.dom (by simp) c.top
  refine ⟨_, a.dom, fun j m' e => ?_, Tm.evD a.k c.pop.tm, (c.pop.ev a (by simp) (by simp) (fun k z => by injection z with z; omega)).keep, fun b hb => c.out b (a.out b hb), c.wt, fun j m' hj e ho => ?_, by rw [List.length_set, List.length_set]; exact c.len⟩
  · by_cases ji : i = j
    · subst ji
      by_cases hl : i < Γ.length
      · rw [List.getElem?_set_self hl] at e
        cases e
        exact ⟨v, List.getElem?_set_self (by rw [← c.len]; exact hl), r⟩
      · rw [List.getElem?_eq_none (by rw [List.length_set]; omega)] at e
        cases e
    · rw [List.getElem?_set_ne ji] at e
      obtain ⟨w, e1, r1⟩ := c.sl j m' e
      exact ⟨w, by rw [List.getElem?_set_ne ji]; exact e1, r1.ev a (by simp)⟩
  · by_cases ji : i = j
    · subst ji
      by_cases hl : i < Γ.length
      · rw [List.getElem?_set_self hl] at e
        cases e
        exact absurd ⟨ho, hj⟩ h
      · rw [List.getElem?_eq_none (by rw [List.length_set]; omega)] at e
        cases e
    · rw [List.getElem?_set_ne ji] at e
      rw [List.getElem?_set_ne ji]
      exact c.arg j m' hj e ho
/-- the same of plain data, whatever the temporaries are: the slot owns nothing -/
def ownAt (Γ : Gm) (i : Nat) : Bool := match Γ[i]? with
  | some (some m) => m.own
  | _ => false
theorem Tm.setD {vs : List V} {ts : List TV} {i : Nat} {d : PyData} {v : V} (n : ownAt Γ i = false) : ∀ {vs : List V} {ts : List TV}, Tm K O H σ Γ vs ts → Tm K O H (σ.set i (some v)) (Γ.set i (some (.dat d))) vs ts
  | [], [], _ => True.intro
  | w :: vs, t :: ts, h => by
    refine ⟨?_, Tm.setD (vs := vs) (ts := ts) n h.2⟩
    have h1 := h.1
    cases t with
    | md m => exact h1
    | al j =>
      obtain ⟨e, m, e1, e2⟩ := h1
      have ne : i ≠ j := fun z => by
        subst z
        simp only [ownAt, e1] at n
        rw [n] at e2
        cases e2
      exact ⟨by rw [List.getElem?_set_ne ne]; exact e, m, by rw [List.getElem?_set_ne ne]; exact e1, e2⟩
  | [], _ :: _, h => h.elim
  | _ :: _, [], h => h.elim
theorem Cf.storeD {vs : List V} {ts : List TV} {v : V} {d : PyData} {i : Nat} (c : Cf K np W O σ H Γ (v :: vs) (.md (.dat d) :: ts)) (n : ownAt Γ i = false) : Cf K np W O (σ.set i (some v)) H (Γ.set i (some (.dat d))) vs ts := by
  refine ⟨c.dom, fun j m' e => ?_, Tm.setD (vs := vs) (ts := ts) n c.pop.tm, c.keep, c.out, c.wt, fun j m' hj e ho => ?_, by rw [List.length_set, List.length_set]; exact c.len⟩
  · by_cases ji : i = j
    · subst ji
      by_cases hl : i < Γ.length
      · rw [List.getElem?_set_self hl] at e
        cases e
        exact ⟨v, List.getElem?_set_self (by rw [← c.len]; exact hl), c.top⟩
      · rw [List.getElem?_eq_none (by rw [List.length_set]; omega)] at e
        cases e
    · rw [List.getElem?_set_ne ji] at e
      obtain ⟨w, e1, r1⟩ := c.sl j m' e
      exact ⟨w, by rw [List.getElem?_set_ne ji]; exact e1, r1⟩
  · by_cases ji : i = j
    · subst ji
      by_cases hl : i < Γ.length
      · rw [List.getElem?_set_self hl] at e
        cases e
        cases ho
      · rw [List.getElem?_eq_none (by rw [List.length_set]; omega)] at e
        cases e
    · rw [List.getElem?_set_ne ji] at e
      rw [List.getElem?_set_ne ji]
      exact c.arg j m' hj e ho
/-- slots are forgotten -/
def fgt (Γ : Gm) : List Nat → Gm
  | [] => Γ
  | i :: is => (fgt Γ is).set i none
theorem fgt_len (Γ : Gm) : ∀ is, (fgt Γ is).length = Γ.length
  | [] => rfl
  | i :: is => by rw [fgt, List.length_set, fgt_len Γ is]
theorem fgt_some {Γ : Gm} {j : Nat} {m : MD} : ∀ {is : List Nat}, (fgt Γ is)[j]? = some (some m) → Γ[j]? = some (some m) ∧ j ∉ is
  | [], h => ⟨h, by simp⟩
  | i :: is, h => by
    unfold fgt at h
    by_cases e : i = j
    · subst e
      by_cases hl : i < (fgt Γ is).length
      · rw [List.getElem?_set_self hl] at h; cases h
      · rw [List.getElem?_eq_none (by rw [List.length_set]; omega)] at h; cases h
    · rw [List.getElem?_set_ne e] at h
      obtain ⟨h1, h2⟩ := fgt_some h
      exact ⟨h1, by simp only [List.mem_cons, not_or]; exact ⟨fun z => e z.symm, h2⟩⟩
theorem Cf.forget {vs : List V} {ds : List PyData} (is : List Nat) (c : Cf K np W O σ H Γ vs (tsd ds)) : Cf K np W O σ H (fgt Γ is) vs (tsd ds) :=
  ⟨c.dom, fun j m e => c.sl j m (fgt_some e).1, Tm.evD (Kp.refl _ _) c.tm, c.keep, c.out, c.wt, fun j m hj e => c.arg j m hj (fgt_some e).1, by rw [fgt_len]; exact c.len⟩
/-- what a slot owns is frozen -/
theorem Cf.freeze {vs : List V} {ds : List PyData} {i : Nat} {m : MD} {d : PyData} (c : Cf K np W O σ H Γ vs (tsd ds)) (e : Γ[i]? = some (some m)) (f : m.flat = some d) : Cfg K np W σ H (Γ.set i (some (.dat d))) vs (tsd ds) := by
  have a : Ev (· = .slot i) O H (retag O (.slot i) none) H := Ev.retag (by simp) c.dom
  obtain ⟨v, hv, r⟩ := c.sl i m e
  have hl : i < Γ.length := (List.getElem?_eq_some_iff.mp e).1
  refine ⟨_, a.dom, fun j m' e' => ?_, Tm.evD a.k c.tm, fun b o h n => ?_, fun b hb => c.out b (a.out b hb), c.wt, fun j m' hj e' ho => ?_, by rw [List.length_set]; exact c.len⟩
  · by_cases ji : i = j
    · subst ji
      rw [List.getElem?_set_self hl] at e'
      cases e'
      exact ⟨v, hv, MR.freeze c.dom r f⟩
    · rw [List.getElem?_set_ne ji] at e'
      obtain ⟨w, e1, r1⟩ := c.sl j m' e'
      exact ⟨w, e1, r1.ev a (by simpa using fun z => ji z.symm)⟩
  · obtain ⟨h1, e1⟩ := c.keep b o h n
    obtain ⟨h2, e2⟩ := a.kp b o h1 fun t q z => by
      subst z
      rw [e1] at q
      exact n i q
    exact ⟨h2, e2.trans e1⟩
  · by_cases ji : i = j
    · subst ji
      rw [List.getElem?_set_self hl] at e'
      cases e'
      cases ho
    · rw [List.getElem?_set_ne ji] at e'
      exact c.arg j m' hj e' ho
/-- what a slot holds goes over to a temporary -/
theorem Cf.take {vs : List V} {ds : List PyData} {i : Nat} {m : MD} {v : V} (c : Cf K np W O σ H Γ vs (tsd ds)) (e : Γ[i]? = some (some m)) (ev : σ[i]? = some (some v)) : Cfg K np W σ H (Γ.set i none) (v :: vs) (.md m :: tsd ds) := by
  have a : Ev (· = .slot i) O H (retag O (.slot i) (some (.tmp (tsd ds).length))) H := Ev.retag (by simp) c.dom
  obtain ⟨v', hv, r⟩ := c.sl i m e
  rw [ev] at hv
  cases hv
  have hl : i < Γ.length := (List.getElem?_eq_some_iff.mp e).1
  refine ⟨_, a.dom, fun j m' e' => ?_, ⟨MR.move c.dom (by simp) r, Tm.evD a.k c.tm⟩, fun b o h n => ?_, fun b hb => c.out b (a.out b hb), c.wt, fun j m' hj e' ho => ?_, by rw [List.length_set]; exact c.len⟩
  · by_cases ji : i = j
    · subst ji
      rw [List.getElem?_set_self hl] at e'
      cases e'
    · rw [List.getElem?_set_ne ji] at e'
      obtain ⟨w, e1, r1⟩ := c.sl j m' e'
      exact ⟨w, e1, r1.ev a (by simpa using fun z => ji z.symm)⟩
  · obtain ⟨h1, e1⟩ := c.keep b o h n
    obtain ⟨h2, e2⟩ := a.kp b o h1 fun t q z => by
      subst z
      rw [e1] at q
      exact n i q
    exact ⟨h2, e2.trans e1⟩
  · by_cases ji : i = j
    · subst ji
      rw [List.getElem?_set_self hl] at e'
      cases e'
    · rw [List.getElem?_set_ne ji] at e'
      exact c.arg j m' hj e' ho
/-- the second temporary is dropped -/
theorem Cf.under {vs : List V} {ds : List PyData} {m : MD} {v w : V} {d : PyData} (c : Cf K np W O σ H Γ (v :: w :: vs) (.md m :: tsd (d :: ds))) : Cfg K np W σ H Γ (v :: vs) (.md m :: tsd ds) := by
  have a : Ev (· = .tmp (tsd (d :: ds)).length) O H (retag O (.tmp (tsd (d :: ds)).length) (some (.tmp (tsd ds).length))) H := Ev.retag (by simp) c.dom
  have c2 := c.pop.pop.ev a (by simp) (by simp) (fun k z => by injection z with z; simp [tsd] at z ⊢; omega)
  exact ⟨_, c2.push (MR.move c.dom (by simp) c.top)⟩
/-- what is owned by the top temporary is frozen -/
theorem Cf.frzTop {vs : List V} {ts : List TV} {m : MD} {v : V} {d : PyData} (c : Cf K np W O σ H Γ (v :: vs) (.md m :: ts)) (f : m.flat = some d) : Cfg K np W σ H Γ (v :: vs) (.md (.dat d) :: ts) := by
  have a : Ev (· = .tmp ts.length) O H (retag O (.tmp ts.length) none) H := Ev.retag (by simp) c.dom
  have c2 := c.pop.ev a (by simp) (by simp) (fun k z => by injection z with z; omega)
  exact ⟨_, c2.push (MR.freeze c.dom c.top f)⟩
end

/-! ### statements -/
section
variable {X : Cx} {np : Nat} {e : Expr} {pos : Pos} {f : FE} {g h : FS} {st : Stmt} {rest : List Stmt}
def fSet (np i : Nat) (f : FE) : FS := fun Γ => (f Γ).bind fun p => match p.1 with
  | .md m => if m.own = true ∧ i < np then none else some (.nx (p.2.set i (some m)))
  | .al _ => none
theorem fs_set {i : Nat} {x : Str} {pos' : Pos} (hN : X.N.Nodup) (he : FX X np e f) (hi : X.N[i]? = some x := by rfl) (hx : Loc X.env.scope x := by first | exact Or.inl rfl | exact Or.inr rfl) (hs : swapsWith e (some (.Name x pos')) pos.line X.env = pure false := by rfl)
    (hf : X.fn x = true ∨ X.env.scope.names.lookup x = some .local := by first | exact .inl rfl | exact .inr rfl | assumption) : FSX X np (.Assign [.Name x pos'] e pos) (fSet np i f) := by
  refine PS.weak (ps_set hN hi hx he hs hf) fun D σ H h => ?_
  obtain ⟨W, Γ, vs, ds, o, c, e, q⟩ := h
  obtain ⟨⟨t, Γ1⟩, e1, e⟩ := Option.bind_eq_some_iff.mp e
  refine ⟨W, Γ, vs, tsd ds, t, Γ1, c, e1, fun v H1 c1 => ?_⟩
  obtain ⟨O, c1⟩ := c1
  cases t with
  | md m =>
    dsimp only at e
    split at e
    · cases e
    · rename_i hm
      cases e
      exact q _ _ (c1.store hm)
  | al j => cases e
def fDrop (f : FE) : FS := fun Γ => (f Γ).map fun p => .nx p.2
theorem fs_expr (he : FX X np e f) (hs : swapsWith e none pos.line X.env = pure false := by rfl) : FSX X np (.Expr e pos) (fDrop f) := by
  refine PS.weak (ps_expr he hs) fun D σ H h => ?_
  obtain ⟨W, Γ, vs, ds, o, c, e, q⟩ := h
  obtain ⟨⟨t, Γ1⟩, e1, e⟩ := Option.map_eq_some_iff.mp e
  cases e
  refine ⟨W, Γ, vs, tsd ds, t, Γ1, c, e1, fun v H1 c1 => ?_⟩
  obtain ⟨O, c1⟩ := c1
  exact q σ H1 ⟨O, c1.pop⟩
theorem fs_doc {x j} {pos pos' : Pos} : FSX X np (.Expr (.Constant (.str x) j pos) pos') (fun Γ => some (.nx Γ)) := by
  refine PS.weak ps_doc fun D σ H h => ?_
  obtain ⟨W, Γ, vs, ds, o, c, e, q⟩ := h
  cases e
  exact q σ H c
/-- return: fz, whether what is owned becomes plain data -/
def fRet (np : Nat) (fz : Bool) (f : FE) : FS := fun Γ => (f Γ).bind fun p => match p.1 with
  | .md m => if fz then m.flat.map fun d => .rt (.dat d) p.2 else some (.rt m p.2)
  | .al i => match p.2[i]? with
    | some (some m) => if fz then m.flat.map fun d => .rt (.dat d) (p.2.set i none) else some (.rt m (p.2.set i none))
    | _ => none
theorem fs_ret {fz : Bool} (he : FX X np e f) : FSX X np (.Return (some e) pos) (fRet np fz f) := by
  refine PS.weak (ps_ret he) fun D σ H h => ?_
  obtain ⟨W, Γ, vs, ds, o, c, e, q⟩ := h
  obtain ⟨⟨t, Γ1⟩, e1, e⟩ := Option.bind_eq_some_iff.mp e
  refine ⟨W, Γ, vs, tsd ds, t, Γ1, c, e1, fun v H1 c1 => ?_⟩
  obtain ⟨O, c1⟩ := c1
  cases t with
  | md m =>
    dsimp only at e
    cases fz with
    | true =>
      rw [if_pos rfl] at e
      obtain ⟨d, e2, e3⟩ := Option.map_eq_some_iff.mp e
      cases e3
      exact q v σ H1 (c1.frzTop e2)
    | false =>
      rw [if_neg (by simp)] at e
      cases e
      exact q v σ H1 ⟨O, c1⟩
  | al i =>
    dsimp only at e
    split at e
    · rename_i m hm
      obtain ⟨ev, _⟩ := c1.top
      obtain ⟨O2, c2⟩ := c1.pop.take hm ev
      cases fz with
      | true =>
        rw [if_pos rfl] at e
        obtain ⟨d, e2, e3⟩ := Option.map_eq_some_iff.mp e
        cases e3
        exact q v σ H1 (c2.frzTop e2)
      | false =>
        rw [if_neg (by simp)] at e
        cases e
        exact q v σ H1 ⟨O2, c2⟩
    · cases e
theorem fs_retN : FSX X np (.Return none pos) (fun Γ => some (.rt (.dat .none) Γ)) := by
  refine PS.weak ps_retN fun D σ H h => ?_
  obtain ⟨W, Γ, vs, ds, o, ⟨O, c⟩, e, q⟩ := h
  cases e
  exact q _ σ H ⟨O, c.push .non⟩
theorem fs_pass : FSX X np (.Pass pos) (fun Γ => some (.nx Γ)) := by
  refine PS.weak ps_pass fun D σ H h => ?_
  obtain ⟨W, Γ, vs, ds, o, c, e, q⟩ := h
  cases e
  exact q σ H c
theorem fs_break : FSX X np (.Break pos) (fun Γ => some (.bk Γ)) := by
  refine PS.weak ps_break fun D σ H h => ?_
  obtain ⟨W, Γ, vs, ds, o, c, e, q⟩ := h
  cases e
  exact q σ H c
theorem fs_continue : FSX X np (.Continue pos) (fun Γ => some (.ct Γ)) := by
  refine PS.weak ps_continue fun D σ H h => ?_
  obtain ⟨W, Γ, vs, ds, o, c, e, q⟩ := h
  cases e
  exact q σ H c
def fNil : FS := fun Γ => some (.nx Γ)
def fSeq (g h : FS) : FS := fun Γ => (g Γ).bind fun o => match o with
  | .nx Γ1 => h Γ1
  | o => some o
theorem fss_nil : FSsX X np [] fNil := by
  refine PSs.weak pss_nil fun D σ H h => ?_
  obtain ⟨W, Γ, vs, ds, o, c, e, q⟩ := h
  cases e
  exact q σ H c
theorem fss_one (h1 : FSX X np st g) : FSsX X np [st] g := pss_one h1
theorem fss_cons (h1 : FSX X np st g) (h2 : FSsX X np rest h) : FSsX X np (st :: rest) (fSeq g h) := by
  refine PSs.weak (pss_cons h1 h2) fun D σ H hh => ?_
  obtain ⟨W, Γ, vs, ds, o, c, e, q⟩ := hh
  obtain ⟨o1, e1, e⟩ := Option.bind_eq_some_iff.mp e
  refine ⟨W, Γ, vs, ds, o1, c, e1, ?_⟩
  cases o1 with
  | nx Γ1 => exact fun σ' H' c' => ⟨W, Γ1, vs, ds, o, c', e, q⟩
  | rt m Γ1 => cases e; exact q
  | bk Γ1 => cases e; exact q
  | ct Γ1 => cases e; exact q
/-- a block behind which slots are forgotten; ahead of which a slot is frozen -/
def fgtO (is : List Nat) : Out → Out
  | .nx Γ => .nx (fgt Γ is)
  | .bk Γ => .bk (fgt Γ is)
  | .ct Γ => .ct (fgt Γ is)
  | .rt m Γ => .rt m Γ
def fFgt (is : List Nat) (g : FS) : FS := fun Γ => (g Γ).map (fgtO is)
theorem fss_fgt (is : List Nat) {ss : List Stmt} (h1 : FSsX X np ss g) : FSsX X np ss (fFgt is g) := by
  refine PSs.weak h1 fun D σ H h => ?_
  obtain ⟨W, Γ, vs, ds, o, c, e, q⟩ := h
  obtain ⟨o1, e1, e⟩ := Option.map_eq_some_iff.mp e
  subst e
  refine ⟨W, Γ, vs, ds, o1, c, e1, ?_⟩
  cases o1 with
  | nx Γ1 => exact fun σ' H' ⟨O, c'⟩ => q σ' H' ⟨O, c'.forget is⟩
  | rt m Γ1 => exact q
  | bk Γ1 => exact fun σ' H' ⟨O, c'⟩ => q σ' H' ⟨O, c'.forget is⟩
  | ct Γ1 => exact fun σ' H' ⟨O, c'⟩ => q σ' H' ⟨O, c'.forget is⟩
def fFrz (i : Nat) (g : FS) : FS := fun Γ => match Γ[i]? with
  | some (some m) => m.flat.bind fun d => g (Γ.set i (some (.dat d)))
  | _ => none
theorem fss_frz (i : Nat) {ss : List Stmt} (h1 : FSsX X np ss g) : FSsX X np ss (fFrz i g) := by
  refine PSs.weak h1 fun D σ H h => ?_
  obtain ⟨W, Γ, vs, ds, o, ⟨O, c⟩, e, q⟩ := h
  unfold fFrz at e
  split at e
  · rename_i m hm
    obtain ⟨d, e1, e⟩ := Option.bind_eq_some_iff.mp e
    exact ⟨W, _, vs, ds, o, c.freeze hm e1, e, q⟩
  · cases e
def fIf (tc : FT) (g h : FS) : FS := fun Γ => (tc Γ).bind fun p => if p.1 = true then g p.2 else h p.2
theorem fs_if {c : Expr} {a b : List Stmt} {tc : FT} (hc : FTX X np c tc) (ha : FSsX X np a g) (hb : FSsX X np b h) : FSX X np (.If c a b pos) (fIf tc g h) := by
  refine PS.weak (ps_if hc ha hb) fun D σ H hh => ?_
  obtain ⟨W, Γ, vs, ds, o, c, e, q⟩ := hh
  obtain ⟨⟨b1, Γ1⟩, e1, e⟩ := Option.bind_eq_some_iff.mp e
  refine ⟨W, Γ, vs, tsd ds, b1, Γ1, c, e1, fun H1 c1 => ?_⟩
  cases b1 with
  | true => exact iteT ⟨W, Γ1, vs, ds, o, c1, by simpa using e, q⟩
  | false => exact iteF ⟨W, Γ1, vs, ds, o, c1, by simpa using e, q⟩
/-! ### while -/
def fWhile (c : FT) (b : FS) : Nat → FS
  | 0 => fun _ => none
  | n + 1 => fun Γ => (c Γ).bind fun p => if p.1 = true then (b p.2).bind fun o => match o with
      | .nx Γ1 => fWhile c b n Γ1
      | .ct Γ1 => fWhile c b n Γ1
      | .bk Γ1 => some (.nx Γ1)
      | .rt m Γ1 => some (.rt m Γ1)
    else some (.nx p.2)
theorem fs_while {c : Expr} {body : List Stmt} {tc : FT} (n : Nat) (hp : PassesOwn (model X.prog X.w) X.A X.env X.xe) (hc : FTX X np c tc) (hb : FSsX X np body g) : FSX X np (.While c body [] pos) (fWhile tc g n) := by
  refine PS.weak (ps_while hp hc hb) fun D σ H h => ?_
  obtain ⟨W, Γ, vs, ds, o, c, e, q⟩ := h
  refine ⟨fun m σ H => ∃ Γ, Cfg X.K np W σ H Γ vs (tsd ds) ∧ fWhile tc g m Γ = some o, ⟨n, Γ, c, e⟩, ?_⟩
  rintro m σ H ⟨Γ, c, e⟩
  cases m with
  | zero => cases e
  | succ m =>
    obtain ⟨⟨b1, Γ1⟩, e1, e⟩ := Option.bind_eq_some_iff.mp e
    refine ⟨W, Γ, vs, tsd ds, b1, Γ1, c, e1, fun H1 c1 => ?_⟩
    cases b1 with
    | false =>
      refine iteF ?_
      have e' : Out.nx Γ1 = o := by simpa using e
      subst e'
      exact q σ H1 c1
    | true =>
      refine iteT ⟨fun σ H => ∃ Γ, Cfg X.K np W σ H Γ vs (tsd ds) ∧ fWhile tc g m Γ = some o, fun σ' H' w => ⟨m, Nat.lt_succ_self _, w⟩, ?_⟩
      rw [if_pos rfl] at e
      obtain ⟨o1, e2, e⟩ := Option.bind_eq_some_iff.mp e
      refine ⟨W, Γ1, vs, ds, o1, c1, e2, ?_⟩
      cases o1 with
      | nx Γ2 => exact fun σ' H' c' => ⟨Γ2, c', e⟩
      | ct Γ2 => exact fun σ' H' c' => ⟨Γ2, c', e⟩
      | bk Γ2 => cases e; exact q
      | rt r Γ2 => cases e; exact q
end
end Fx

end

/-! Fx7: targets, what is walked, for, list comprehensions -/
noncomputable section
namespace Fx
open PySem PySem.Spec PyProof.Rows L2

/-- an iterator as a list of data, in every state behind (O1, H1) that has what nobody owns as it was -/
def ItF (K : PySem.W.Frag) (J : It) (O1 : Own) (H1 : Hp) (items : List PyData) : Prop :=
  ∀ (O : Own) (H : Hp) (i : Nat), (∀ b t, O b = some t → H b ≠ none) → Kp O1 H1 O H →
    (∀ d, items[i]? = some d → J.go i H ∧ ∀ x H', J.yld i H x H' → Ev J0 O H O H' ∧ Fz K O H' d x) ∧ (items.length ≤ i → J.stop i H)
abbrev FI := Gm → Option (List PyData × Gm)
def upI (K : PySem.W.Frag) (np : Nat) (f : FI) : TI := fun σ H R => ∃ W Γ vs ts items Γ', Cfg K np W σ H Γ vs ts ∧ f Γ = some (items, Γ') ∧
  ∀ J O' H', Cf K np W O' σ H' Γ' vs ts → ItF K J O' H' items → R J H'
def FIX (X : Cx) (np : Nat) (tg iter : Expr) (f : FI) : Prop := PI X tg iter (upI X.K np f)
theorem PI.weak {X : Cx} {tg e : Expr} {t t' : TI} (h : PI X tg e t) (w : ∀ σ H R, t' σ H R → t σ H R) : PI X tg e t' := ⟨fun pins s σ H R I q => h.run pins s σ H R I (w σ H R q)⟩
theorem PI.or {X : Cx} {tg e : Expr} {t t' : TI} (h : PI X tg e t) (h' : PI X tg e t') : PI X tg e (fun σ H R => t σ H R ∨ t' σ H R) := ⟨fun pins s σ H R I q => q.elim (h.run pins s σ H R I) (h'.run pins s σ H R I)⟩

/-- a new entry: what is held now by nobody stays -/
def Wd.at (W : Wd) (O : Own) (H : Hp) : Wd := ⟨H, fun b => match O b with
  | some (.tmp _) => some (.slot 0)
  | x => x, W.σ⟩
section
variable {K : PySem.W.Frag} {np : Nat} {W : Wd} {O O' : Own} {σ σ' : L2.St} {H H' : Hp} {Γ Γ' : Gm} {vs vs' : List V} {ts ts' : List TV}
theorem Cf.rebase (c : Cf K np W O σ H Γ vs ts) : Cf K np (W.at O H) O σ H Γ vs ts where
  dom := c.dom
  sl := c.sl
  tm := c.tm
  keep := fun b o h n => by
    refine ⟨h, ?_⟩
    show O b = _
    unfold Wd.at at n ⊢
    dsimp only at n ⊢
    split
    · rename_i k e
      rw [e] at n
      exact absurd rfl (n 0)
    · rfl
  out := fun b h => by
    show (Wd.at W O H).O b = _
    unfold Wd.at
    simp only [h]
  wt := fun b k h => by
    unfold Wd.at at h
    dsimp only at h
    split at h
    · cases h
    · rename_i x hx
      exact hx k h
  arg := c.arg
  len := c.len
theorem Cf.unbase (c : Cf K np W O σ H Γ vs ts) (c' : Cf K np (W.at O H) O' σ' H' Γ' vs' ts') : Cf K np W O' σ' H' Γ' vs' ts' where
  dom := c'.dom
  sl := c'.sl
  tm := c'.tm
  keep := fun b o h n => by
    obtain ⟨h1, e1⟩ := c.keep b o h n
    have e2 : (Wd.at W O H).O b = O b := by
      unfold Wd.at
      dsimp only
      split
      · rename_i k e
        exact absurd (e1.symm.trans e) (c.wt b k)
      · rfl
    obtain ⟨h2, e3⟩ := c'.keep b o h1 fun k => by rw [e2, e1]; exact n k
    exact ⟨h2, by rw [e3, e2, e1]⟩
  out := fun b h => by
    have h1 := c'.out b h
    unfold Wd.at at h1
    dsimp only at h1
    split at h1
    · cases h1
    · exact c.out b h1
  wt := c.wt
  arg := c'.arg
  len := c'.len
theorem Cf.kpAt (c : Cf K np (W.at O H) O' σ' H' Γ' vs' ts') : Kp O H O' H' := fun b o h n => by
  have e2 : (Wd.at W O H).O b = none := by
    unfold Wd.at
    simp only [n]
  obtain ⟨h2, e3⟩ := c.keep b o h fun k => by rw [e2]; exact fun z => by cases z
  exact ⟨h2, e3.trans e2⟩
end
section
variable {K : PySem.W.Frag} {O : Own} {H : Hp}
theorem SqL.inj {a : Addr} {xs ys : List V} (h : H a = some (.lst xs)) (nk : K.lookup a = none ∨ True) (h' : H a = some (.lst ys)) : xs = ys := by
  rw [h] at h'
  cases h'
  rfl
/-- data that walks: a list, a tuple -/
def itemsOf : PyData → Option (List PyData)
  | .list ds => some ds
  | .tuple ds => some ds
  | _ => none
theorem itf_list {ds : List PyData} {a : Addr} (h : Fz K O H (.list ds) (.ref a)) : ItF K (Itl K a) O H ds := by
  intro O' H' i dom k
  obtain ⟨b, xs, e, hb, fa, _⟩ := (Fz.kp k _ _ h).sqL
  cases e
  refine ⟨fun d e => ?_, fun hl => ⟨xs, .of hb, by rw [← fa.length]; exact hl⟩⟩
  obtain ⟨v, ev, r⟩ := fa.get e
  refine ⟨⟨xs, v, .of hb, ev⟩, fun x H' y => ?_⟩
  obtain ⟨rfl, y⟩ := y
  have := y xs (.of hb)
  rw [ev] at this
  cases this
  exact ⟨Ev.refl dom, r⟩
theorem itf_tup {ds : List PyData} {a : Addr} (h : Fz K O H (.tuple ds) (.ref a)) : ItF K (Itt K a) O H ds := by
  intro O' H' i dom k
  obtain ⟨b, xs, e, hb, fa⟩ := (Fz.kp k _ _ h).sqT
  cases e
  refine ⟨fun d e => ?_, fun hl => ⟨xs, hb, by rw [← fa.length]; exact hl⟩⟩
  obtain ⟨v, ev, r⟩ := fa.get e
  refine ⟨⟨xs, v, hb, ev⟩, fun x H' y => ?_⟩
  obtain ⟨rfl, y⟩ := y
  have := y xs hb
  rw [ev] at this
  cases this
  exact ⟨Ev.refl dom, r⟩
def rangeD (lo : Int) (n : Nat) : List PyData := (List.range n).map fun (i : Nat) => PyData.int (lo + i)
theorem itf_range {lo : Int} {n : Nat} : ItF K (Itr lo n) O H (rangeD lo n) := by
  intro O' H' i dom k
  refine ⟨fun d e => ?_, fun hl => by
    have : n ≤ i := by simpa [rangeD] using hl
    exact this⟩
  obtain ⟨j, e1, e2⟩ : ∃ j : Nat, (List.range n)[i]? = some j ∧ PyData.int (lo + j) = d := by
    unfold rangeD at e
    rw [List.getElem?_map] at e
    cases q : (List.range n)[i]? with
    | none => rw [q] at e; cases e
    | some j => rw [q] at e; exact ⟨j, rfl, Option.some.inj e⟩
  have hi : i < n := by
    have := (List.getElem?_eq_some_iff.mp e1).1
    simpa using this
  rw [List.getElem?_range hi] at e1
  cases e1
  subst e2
  refine ⟨hi, fun x H' y => ?_⟩
  obtain ⟨rfl, rfl⟩ := y
  exact ⟨Ev.refl dom, .int _⟩
/-- a new tuple of two -/
theorem ev_pair {x y : V} {d e : PyData} {T : Addr} (dom : ∀ b t, O b = some t → H b ≠ none) (hT : H T = none) (hx : Fz K O H d x) (hy : Fz K O H e y) : Ev J0 O H O (upd H T (.tup [x, y])) ∧ Fz K O (upd H T (.tup [x, y])) (.tuple [d, e]) (.ref T) := by
  have a := Ev.new (o := .tup [x, y]) dom hT
  exact ⟨a, .tup (.inl upd_same) (own_none dom hT) (.cons (Fz.kp a.k _ _ hx) (.cons (Fz.kp a.k _ _ hy) .nil))⟩
def enumD (ds : List PyData) : List PyData := ds.zipIdx.map fun p => .tuple [.int (p.2 : Nat), p.1]
theorem enumD_get {ds : List PyData} {i : Nat} {d : PyData} (h : (enumD ds)[i]? = some d) : ∃ e, ds[i]? = some e ∧ d = .tuple [.int (i : Nat), e] := by
  unfold enumD at h
  rw [List.getElem?_map, List.getElem?_zipIdx] at h
  cases q : ds[i]? with
  | none => rw [q] at h; cases h
  | some e =>
    rw [q] at h
    have h' := Option.some.inj h
    exact ⟨e, rfl, by rw [← h']; simp⟩
theorem itf_enum {ds : List PyData} {a : Addr} (h : Fz K O H (.list ds) (.ref a)) : ItF K (Ite K a) O H (enumD ds) := by
  intro O' H' i dom k
  obtain ⟨b, xs, e, hb, fa, _⟩ := (Fz.kp k _ _ h).sqL
  cases e
  refine ⟨fun d e => ?_, fun hl => ⟨xs, .of hb, by rw [← fa.length]; simpa [enumD] using hl⟩⟩
  obtain ⟨d', e1, rfl⟩ := enumD_get e
  obtain ⟨v, ev, r⟩ := fa.get e1
  refine ⟨⟨xs, v, .of hb, ev⟩, fun x H' y => ?_⟩
  obtain ⟨T, w, rfl, hT, rfl, y⟩ := y
  have := y xs (.of hb)
  rw [ev] at this
  cases this
  exact ev_pair dom hT (.int _) r
def zipD (as bs : List PyData) : List PyData := (as.zip bs).map fun p => .tuple [p.1, p.2]
theorem zipD_get {as bs : List PyData} {i : Nat} {d : PyData} (h : (zipD as bs)[i]? = some d) : ∃ x y, as[i]? = some x ∧ bs[i]? = some y ∧ d = .tuple [x, y] := by
  unfold zipD at h
  rw [List.getElem?_map] at h
  cases q : (as.zip bs)[i]? with
  | none => rw [q] at h; cases h
  | some p =>
    rw [q] at h
    obtain ⟨h1, h2⟩ := List.getElem?_zip_eq_some.mp q
    exact ⟨p.1, p.2, h1, h2, (Option.some.inj h).symm⟩
theorem itf_zip {as bs : List PyData} {a b : Addr} (h1 : Fz K O H (.list as) (.ref a)) (h2 : Fz K O H (.list bs) (.ref b)) : ItF K (Itz K a b) O H (zipD as bs) := by
  intro O' H' i dom k
  obtain ⟨_, xs, e, ga, fa, _⟩ := (Fz.kp k _ _ h1).sqL
  cases e
  obtain ⟨_, ys, e, gb, fb, _⟩ := (Fz.kp k _ _ h2).sqL
  cases e
  refine ⟨fun d e => ?_, fun hl => ⟨xs, ys, .of ga, .of gb, ?_⟩⟩
  · obtain ⟨x, y, e1, e2, rfl⟩ := zipD_get e
    obtain ⟨v, ev, r⟩ := fa.get e1
    obtain ⟨u, eu, r'⟩ := fb.get e2
    refine ⟨⟨xs, ys, v, u, .of ga, .of gb, ev, eu⟩, fun z H' q => ?_⟩
    obtain ⟨T, v', u', rfl, hT, rfl, q1, q2⟩ := q
    have e3 := q1 xs (.of ga)
    have e4 := q2 ys (.of gb)
    rw [ev] at e3
    rw [eu] at e4
    cases e3
    cases e4
    exact ev_pair dom hT r r'
  · unfold zipD at hl
    rw [List.length_map, List.length_zip] at hl
    rw [← fa.length, ← fb.length]
    omega
theorem itf_zipT {as bs : List PyData} {a b : Addr} (h1 : Fz K O H (.tuple as) (.ref a)) (h2 : Fz K O H (.tuple bs) (.ref b)) : ItF K (RZ.ItzT K a b) O H (zipD as bs) := by
  intro O' H' i dom k
  obtain ⟨_, xs, e, ga, fa⟩ := (Fz.kp k _ _ h1).sqT
  cases e
  obtain ⟨_, ys, e, gb, fb⟩ := (Fz.kp k _ _ h2).sqT
  cases e
  refine ⟨fun d e => ?_, fun hl => ⟨xs, ys, ga, gb, ?_⟩⟩
  · obtain ⟨x, y, e1, e2, rfl⟩ := zipD_get e
    obtain ⟨v, ev, r⟩ := fa.get e1
    obtain ⟨u, eu, r'⟩ := fb.get e2
    refine ⟨⟨xs, ys, v, u, ga, gb, ev, eu⟩, fun z H' q => ?_⟩
    obtain ⟨T, v', u', rfl, hT, rfl, q1, q2⟩ := q
    have e3 := q1 xs ga
    have e4 := q2 ys gb
    rw [ev] at e3
    rw [eu] at e4
    cases e3
    cases e4
    exact ev_pair dom hT r r'
  · unfold zipD at hl
    rw [List.length_map, List.length_zip] at hl
    rw [← fa.length, ← fb.length]
    omega
/-- the keys of a dict that is not changed -/
theorem FzD.get : ∀ {ds : List (PyData × PyData)} {kvs : List (Key × V)} {i : Nat} {e d : PyData}, FzD K O H ds kvs → ds[i]? = some (e, d) → ∃ k v, kvs[i]? = some (k, v) ∧ Fz K O H e (kV k) ∧ Fz K O H d v
  | [], _, i, _, _, _, e => by simp at e
  | _ :: _, _, 0, _, _, h, e => by
    cases h with
    | cons h1 h2 h3 =>
      simp at e
      obtain ⟨rfl, rfl⟩ := e
      exact ⟨_, _, rfl, h1, h2⟩
  | _ :: ds, _, i + 1, _, _, h, e => by
    cases h with
    | cons h1 h2 h3 =>
      obtain ⟨k, v, e1, e2⟩ := FzD.get (i := i) h3 (by simpa using e)
      exact ⟨k, v, by simpa using e1, e2⟩
theorem FzD.length : ∀ {ds : List (PyData × PyData)} {kvs : List (Key × V)}, FzD K O H ds kvs → ds.length = kvs.length
  | [], _, h => by cases h; rfl
  | d :: ds, _, h => by
    cases h with
    | cons h1 h2 h3 => simp [FzD.length h3]
/-- the keys of a frozen dict -/
theorem itf_keys {ds : List (PyData × PyData)} {a : Addr} {od : Obj} {kvs : List (Key × V)} (hr : H a = some (.frz od (.dK kvs))) (n : O a = none) (fd : FzD K O H ds kvs) : ItF K (Itk a od kvs) O H (ds.map (·.1)) := by
  intro O' H' i dom k
  have h1 := (k _ _ hr n).1
  have fd' := FzD.kp k _ _ fd
  refine ⟨fun d e => ?_, fun hl => ⟨h1, by rw [← fd.length]; simpa using hl⟩⟩
  rw [List.getElem?_map] at e
  obtain ⟨⟨e', d'⟩, q1, q2⟩ := Option.map_eq_some_iff.mp e
  cases q2
  obtain ⟨k', v, q3, r1, r2⟩ := fd'.get q1
  refine ⟨⟨h1, (List.getElem?_eq_some_iff.mp q3).1⟩, fun x H' y => ?_⟩
  obtain ⟨rfl, k2, v2, q4, rfl⟩ := y
  rw [q3] at q4
  cases q4
  exact ⟨Ev.refl dom, r1⟩
end

/-! ### targets -/
def SetsOff (is : List Nat) (σ σ' : L2.St) : Prop := σ'.length = σ.length ∧ ∀ j, j ∉ is → σ'[j]? = σ[j]?
theorem SetsOff.refl (is : List Nat) (σ : L2.St) : SetsOff is σ σ := ⟨rfl, fun _ _ => rfl⟩
theorem SetsOff.trans {is js : List Nat} {σ σ1 σ2 : L2.St} (a : SetsOff is σ σ1) (b : SetsOff js σ1 σ2) : SetsOff (is ++ js) σ σ2 :=
  ⟨b.1.trans a.1, fun j h => (b.2 j fun z => h (List.mem_append_right _ z)).trans (a.2 j fun z => h (List.mem_append_left _ z))⟩
abbrev FG := PyData → Gm → Option Gm
abbrev FGs := List PyData → Gm → Option Gm
def mds (ds : List PyData) : List TV := ds.map fun d => .md (.dat d)
def upG (K : PySem.W.Frag) (np : Nat) (is : List Nat) (g : FG) : TG := fun v σ H Q => ∃ W Γ vs ts d Γ', Cfg K np W σ H Γ (v :: vs) (.md (.dat d) :: ts) ∧ g d Γ = some Γ' ∧ ∀ σ' H', Cfg K np W σ' H' Γ' vs ts → SetsOff is σ σ' → Q σ' H'
def upGs (K : PySem.W.Frag) (np : Nat) (is : List Nat) (g : FGs) : TGs := fun xs σ H Q => ∃ W Γ vs ts ds Γ', Cfg K np W σ H Γ (xs ++ vs) (mds ds ++ ts) ∧ xs.length = ds.length ∧ g ds Γ = some Γ' ∧ ∀ σ' H', Cfg K np W σ' H' Γ' vs ts → SetsOff is σ σ' → Q σ' H'
def FGX (X : Cx) (np : Nat) (is : List Nat) (e : Expr) (g : FG) : Prop := PG X e (upG X.K np is g)
def FGsX (X : Cx) (np : Nat) (is : List Nat) (e : List Expr) (g : FGs) : Prop := PGs X e (upGs X.K np is g)
theorem PG.weak {X : Cx} {e : Expr} {t t' : TG} (h : PG X e t) (w : ∀ v σ H Q, t' v σ H Q → t v σ H Q) : PG X e t' := ⟨fun pins s σ H v u Q I r q => h.run pins s σ H v u Q I r (w v σ H Q q)⟩
theorem PGs.weak {X : Cx} {e : List Expr} {t t' : TGs} (h : PGs X e t) (w : ∀ v σ H Q, t' v σ H Q → t v σ H Q) : PGs X e t' := ⟨fun pins s σ H v u Q I r q => h.run pins s σ H v u Q I r (w v σ H Q q)⟩
section
variable {X : Cx} {np : Nat} {pos : Pos} {is js : List Nat}
def gN (i : Nat) : FG := fun d Γ => if ownAt Γ i = true then none else some (Γ.set i (some (.dat d)))
theorem fg_name {i : Nat} {x : Str} (hN : X.N.Nodup) (hi : X.N[i]? = some x := by rfl) (hx : Loc X.env.scope x := by first | exact Or.inl rfl | exact Or.inr rfl) (hf : X.fn x = true ∨ X.env.scope.names.lookup x = some .local := by first | exact .inl rfl | exact .inr rfl | assumption) :
    FGX X np [i] (.Name x pos) (gN i) := by
  refine PG.weak (pg_name hN hi hx hf) fun v σ H Q h => ?_
  obtain ⟨W, Γ, vs, ts, d, Γ', ⟨O, c⟩, e, q⟩ := h
  unfold gN at e
  split at e
  · cases e
  · rename_i n
    cases e
    refine q _ _ ⟨O, c.storeD (by simpa using n)⟩ ⟨List.length_set, fun j hj => ?_⟩
    rw [List.getElem?_set_ne (by intro z; exact hj (by simp [z]))]
def gsNil : FGs := fun ds Γ => match ds with
  | [] => some Γ
  | _ => none
def gsCons (g : FG) (h : FGs) : FGs := fun ds Γ => match ds with
  | d :: r => (g d Γ).bind (h r)
  | _ => none
theorem fgs_nil : FGsX X np [] [] gsNil := by
  refine PGs.weak pgs_nil fun xs σ H Q h => ?_
  obtain ⟨W, Γ, vs, ts, ds, Γ', c, el, e, q⟩ := h
  unfold gsNil at e
  split at e
  · cases e
    have ex : xs = [] := List.length_eq_zero_iff.mp (by simpa using el)
    subst ex
    exact ⟨rfl, q σ H c (.refl _ _)⟩
  · cases e
theorem fgs_cons {e : Expr} {es : List Expr} {g : FG} {h : FGs} (h1 : FGX X np is e g) (h2 : FGsX X np js es h) (hs : (assignEach (e :: es) X.env).map (·.2) = assign e X.env :: (assignEach es X.env).map (·.2) := by rfl) : FGsX X np (is ++ js) (e :: es) (gsCons g h) := by
  refine PGs.weak (pgs_cons h1 h2 hs) fun xs σ H Q hh => ?_
  obtain ⟨W, Γ, vs, ts, ds, Γ', c, el, e, q⟩ := hh
  unfold gsCons at e
  split at e
  · rename_i d r
    obtain ⟨Γ1, e1, e⟩ := Option.bind_eq_some_iff.mp e
    cases xs with
    | nil => simp at el
    | cons v xs =>
      refine ⟨v, xs, rfl, W, Γ, xs ++ vs, mds r ++ ts, d, Γ1, c, e1, fun σ1 H1 c1 s1 => ?_⟩
      exact ⟨W, Γ1, vs, ts, r, Γ', c1, by simpa using el, e, fun σ2 H2 c2 s2 => q σ2 H2 c2 (s1.trans s2)⟩
  · cases e
def gT (n : Nat) (g : FGs) : FG := fun d Γ => match d with
  | .tuple ds => if ds.length = n then g ds Γ else none
  | _ => none
theorem Cf.pushA {K : PySem.W.Frag} {W : Wd} {O : Own} {σ : L2.St} {H : Hp} {Γ : Gm} {vs : List V} {ts : List TV} (c : Cf K np W O σ H Γ vs ts) : ∀ {ds : List PyData} {xs : List V}, FzA K O H ds xs → Cf K np W O σ H Γ (xs ++ vs) (mds ds ++ ts)
  | [], _, h => by cases h; exact c
  | d :: ds, _, h => by
    cases h with
    | cons h1 h2 => exact (Cf.pushA c h2).push h1
theorem fg_tup {es : List Expr} {k : Nat} {g : FGs} {n : Nat} (hc : X.calm = true) (h : FGsX X np is es g) (hn : (assignEach es X.env).length = n := by rfl) (hst : (assignEach es X.env).findIdx? (·.1) = none := by rfl) : FGX X np is (.Tuple es k pos) (gT n g) := by
  refine PG.weak (pg_tup hc h hn hst) fun v σ H Q hh => ?_
  obtain ⟨W, Γ, vs, ts, d, Γ', ⟨O, c⟩, e, q⟩ := hh
  unfold gT at e
  split at e
  · rename_i ds
    split at e
    · rename_i hl
      obtain ⟨a, xs, rfl, ha, fa⟩ := Fz.sqT c.top
      exact ⟨a, xs, rfl, ha, by rw [← fa.length]; exact hl, W, Γ, vs, ts, ds, Γ', ⟨O, c.pop.pushA fa⟩, fa.length.symm, e, q⟩
    · cases e
  · cases e

/-! ### what is walked -/
variable {f : FE} {e tg : Expr} {fs : FA}
def fIter (f : FE) : FI := fun Γ => (f Γ).bind fun p => match p.1 with
  | .md (.dat d) => (itemsOf d).map fun ds => (ds, p.2)
  | _ => none
theorem fi_seq (he : FX X np e f) : FIX X np tg e (fIter f) := by
  refine PI.weak (PI.or (pi_list he) (pi_tup he)) fun σ H R h => ?_
  obtain ⟨W, Γ, vs, ts, items, Γ', c, e, q⟩ := h
  obtain ⟨⟨t, Γ1⟩, e1, e⟩ := Option.bind_eq_some_iff.mp e
  dsimp only at e
  split at e
  · obtain ⟨ds, e2, e⟩ := Option.map_eq_some_iff.mp e
    cases e
    unfold itemsOf at e2
    split at e2
    · cases e2
      refine .inl ⟨W, Γ, vs, ts, _, _, c, e1, fun v H1 c1 => ?_⟩
      obtain ⟨O, c1⟩ := c1
      have r := c1.top
      obtain ⟨a, xs, rfl, ha, fa, _⟩ := Fz.sqL r
      exact ⟨a, rfl, ⟨xs, .of ha⟩, q _ _ _ c1.pop (itf_list r)⟩
    · cases e2
      refine .inr ⟨W, Γ, vs, ts, _, _, c, e1, fun v H1 c1 => ?_⟩
      obtain ⟨O, c1⟩ := c1
      have r := c1.top
      obtain ⟨a, xs, rfl, ha, fa⟩ := Fz.sqT r
      exact ⟨a, rfl, ⟨xs, ha⟩, q _ _ _ c1.pop (itf_tup r)⟩
    · cases e2
  · cases e
def rgOk (j : Int) : Bool := decide (-(2 ^ 62) ≤ j ∧ j < 2 ^ 62)
theorem rgOk_to {j : Int} (h : rgOk j = true) : -(2 ^ 62) ≤ j ∧ j < 2 ^ 62 := dec1 h
def intT : TV → Option Int
  | .md (.dat (.int j)) => some j
  | _ => none
theorem intT_to {t : TV} {j : Int} (e : intT t = some j) : t = .md (.dat (.int j)) := by
  unfold intT at e
  split at e
  · cases e; rfl
  · cases e
def rg1 (j : Int) : Option (List PyData) := @ite _ (rgOk j = true) (Classical.propDecidable _) (some (rangeD 0 j.toNat)) none
def rg2 (i j : Int) : Option (List PyData) := @ite _ (rgOk i = true ∧ rgOk j = true) (Classical.propDecidable _) (some (rangeD i (j - i).toNat)) none
theorem rg1_to {j : Int} {l : List PyData} (h : rg1 j = some l) : rgOk j = true ∧ l = rangeD 0 j.toNat := by
  unfold rg1 at h
  split at h
  · rename_i h1
    exact ⟨h1, (Option.some.inj h).symm⟩
  · cases h
theorem rg2_to {i j : Int} {l : List PyData} (h : rg2 i j = some l) : (rgOk i = true ∧ rgOk j = true) ∧ l = rangeD i (j - i).toNat := by
  unfold rg2 at h
  split at h
  · rename_i h1
    exact ⟨h1, (Option.some.inj h).symm⟩
  · cases h
def fRange1 (f : FE) : FI := fun Γ => (f Γ).bind fun p => (intT p.1).bind fun j => (rg1 j).map fun l => (l, p.2)
theorem fi_range1 {a : Expr} {p : Pos} (hm : X.mg "range" = none) (ha : FX X np a f) (hg : Gl X "range" := by rfl) (hs : starEach [a] X.env = (false, eval a X.env) :: starEach [] X.env := by rfl) (hs' : starEach [a] X.env = [(false, eval a X.env)] := by rfl) :
    FIX X np tg (.Call (.Name "range" p) [a] [] pos) (fRange1 f) := by
  refine PI.weak (pi_range1 hg hm (pa_cons ha pa_nil hs) hs') fun σ H R h => ?_
  obtain ⟨W, Γ, vs, ts, items, Γ', c, e, q⟩ := h
  obtain ⟨⟨t, Γ1⟩, e1, e⟩ := Option.bind_eq_some_iff.mp e
  obtain ⟨j, e2, e⟩ := Option.bind_eq_some_iff.mp e
  obtain ⟨l, e3, e⟩ := Option.map_eq_some_iff.mp e
  cases e
  have tj : t = .md (.dat (.int j)) := intT_to e2
  subst tj
  refine ⟨W, Γ, vs, ts, _, Γ1, c, e1, fun v H1 c1 => ?_⟩
  obtain ⟨O, c1⟩ := c1
  have r : Fz X.K O H1 (.int j) v := c1.top
  cases r
  obtain ⟨hj, el⟩ := rg1_to e3
  obtain ⟨k1, k2⟩ := rgOk_to hj
  exact ⟨j, rfl, k1, k2, q _ _ _ c1.pop (by rw [el]; exact itf_range)⟩
def fRange2 (fa fb : FE) : FI := fun Γ => (fa Γ).bind fun p => (fb p.2).bind fun p2 => (intT p.1).bind fun i => (intT p2.1).bind fun j => (rg2 i j).map fun l => (l, p2.2)
theorem fi_range2 {a b : Expr} {fa fb : FE} {p : Pos} (hm : X.mg "range" = none) (ha : FX X np a fa) (hb : FX X np b fb) (hg : Gl X "range" := by rfl) (hs : starEach [a, b] X.env = (false, eval a X.env) :: starEach [b] X.env := by rfl)
    (hs1 : starEach [b] X.env = (false, eval b X.env) :: starEach [] X.env := by rfl) (hs' : starEach [a, b] X.env = [(false, eval a X.env), (false, eval b X.env)] := by rfl) (hs2 : starEach [b] X.env = [(false, eval b X.env)] := by rfl) :
    FIX X np tg (.Call (.Name "range" p) [a, b] [] pos) (fRange2 fa fb) := by
  refine PI.weak (pi_range2 hg hm (pa_cons ha (pa_cons hb pa_nil hs1) hs) hs' hs2) fun σ H R h => ?_
  obtain ⟨W, Γ, vs, ts, items, Γ', c, e, q⟩ := h
  obtain ⟨⟨t, Γ1⟩, e1, e⟩ := Option.bind_eq_some_iff.mp e
  obtain ⟨⟨t2, Γ2⟩, e2, e⟩ := Option.bind_eq_some_iff.mp e
  obtain ⟨i, ei, e4⟩ := Option.bind_eq_some_iff.mp e
  obtain ⟨j, ej, e5⟩ := Option.bind_eq_some_iff.mp e4
  obtain ⟨l, e6, e7⟩ := Option.map_eq_some_iff.mp e5
  cases e7
  refine ⟨W, Γ, vs, ts, t, Γ1, c, e1, fun v H1 c1 => ⟨W, Γ1, v :: vs, t :: ts, t2, Γ2, c1, e2, fun w H2 c2 => ?_⟩⟩
  have ti := intT_to ei
  have tj := intT_to ej
  dsimp only at ti tj
  subst ti
  subst tj
  obtain ⟨hj, el⟩ := rg2_to e6
  obtain ⟨O, c2⟩ := c2
  have r : Fz X.K O H2 (.int j) w := c2.top
  have r' : Fz X.K O H2 (.int i) v := c2.pop.top
  cases r
  cases r'
  obtain ⟨k1, k2⟩ := rgOk_to hj.1
  obtain ⟨k3, k4⟩ := rgOk_to hj.2
  exact ⟨i, j, rfl, ⟨k1, k2, k3, k4⟩, q _ _ _ c2.pop.pop (by rw [el]; exact itf_range)⟩
/-- enumerate of a list -/
def fEnumL (f : FE) : FI := fun Γ => (f Γ).bind fun p => match p.1 with
  | .md (.dat (.list ds)) => some (enumD ds, p.2)
  | _ => none
theorem fi_enumL {a : Expr} {p tpos : Pos} {elts : List Expr} {kk : Nat} (hm : X.mg "enumerate" = none) (ha : FX X np a f) (hg : Gl X "enumerate" := by rfl) (hs : starEach [a] X.env = (false, eval a X.env) :: starEach [] X.env := by rfl) (hs' : starEach [a] X.env = [(false, eval a X.env)] := by rfl) :
    FIX X np (.Tuple elts kk tpos) (.Call (.Name "enumerate" p) [a] [] pos) (fEnumL f) := by
  refine PI.weak (pi_enum hg hm (pa_cons ha pa_nil hs) hs') fun σ H R h => ?_
  obtain ⟨W, Γ, vs, ts, items, Γ', c, e, q⟩ := h
  obtain ⟨⟨t, Γ1⟩, e1, e⟩ := Option.bind_eq_some_iff.mp e
  refine ⟨W, Γ, vs, ts, t, Γ1, c, e1, fun v H1 c1 => ?_⟩
  dsimp only at e
  split at e
  · cases e
    obtain ⟨O, c1⟩ := c1
    have r := c1.top
    obtain ⟨a, xs, rfl, ha, fa, _⟩ := Fz.sqL r
    exact ⟨a, xs, rfl, .of ha, q _ _ _ c1.pop (itf_enum r)⟩
  · cases e

/-! ### for -/
def loopS (tg : FG) (b : FS) : List PyData → Gm → Option Out
  | [], Γ => some (.nx Γ)
  | d :: r, Γ => (tg d Γ).bind fun Γ1 => (b Γ1).bind fun o => match o with
    | .nx Γ2 => loopS tg b r Γ2
    | .ct Γ2 => loopS tg b r Γ2
    | .bk Γ2 => some (.nx Γ2)
    | .rt m Γ2 => some (.rt m Γ2)
def fFor (fi : FI) (tg : FG) (b : FS) : FS := fun Γ => (fi Γ).bind fun p => loopS tg b p.1 p.2
theorem ItF.step {K : PySem.W.Frag} {np : Nat} {J : It} {O1 : Own} {H1 : Hp} {items : List PyData} (h : ItF K J O1 H1 items) {W : Wd} {O : Own} {σ : L2.St} {H : Hp} {Γ : Gm} {vs : List V} {ts : List TV} (i : Nat) (c : Cf K np (W.at O1 H1) O σ H Γ vs ts) :
    (∀ d, items[i]? = some d → J.go i H ∧ ∀ x H', J.yld i H x H' → Cfg K np (W.at O1 H1) σ H' Γ (x :: vs) (.md (.dat d) :: ts)) ∧ (items.length ≤ i → J.stop i H) := by
  obtain ⟨h1, h2⟩ := h O H i c.dom c.kpAt
  refine ⟨fun d e => ?_, h2⟩
  obtain ⟨g, y⟩ := h1 d e
  refine ⟨g, fun x H' q => ?_⟩
  obtain ⟨a, r⟩ := y x H' q
  exact ⟨O, (c.ev0 a).push r⟩
theorem fs_for {iter target : Expr} {body : List Stmt} {fi : FI} {g : FG} {b : FS} (hp : PassesOwn (model X.prog X.w) X.A X.env X.xe) (hc : X.calm = true) (hi : FIX X np target iter fi) (hg : FGX X np is target g) (hb : FSsX X np body b)
    (hs : ∀ x, foldedSetIterable iter X.env x = pure x := by intro _; rfl) : FSX X np (.For target iter body [] pos) (fFor fi g b) := by
  refine PS.weak (ps_for hp hc hi hg hb hs) fun D σ H h => ?_
  obtain ⟨W, Γ, vs, ds, o, c, e, q⟩ := h
  obtain ⟨⟨items, Γ1⟩, e1, e⟩ := Option.bind_eq_some_iff.mp e
  refine ⟨W, Γ, vs, tsd ds, items, Γ1, c, e1, fun J O1 H1 c1 itf => ?_⟩
  refine ⟨fun i m σ H => i + m = items.length ∧ ∃ Γi, Cfg X.K np (W.at O1 H1) σ H Γi vs (tsd ds) ∧ loopS g b (items.drop i) Γi = some o, ⟨items.length, by simp, Γ1, ⟨O1, c1.rebase⟩, e⟩, ?_⟩
  rintro i m σ H ⟨hl, Γi, ⟨O, ci⟩, ei⟩
  obtain ⟨s1, s2⟩ := itf.step i ci
  cases m with
  | zero =>
    have hi' : items.length ≤ i := by omega
    rw [List.drop_eq_nil_of_le hi'] at ei
    cases ei
    exact .inl ⟨s2 hi', q σ H ⟨O, c1.unbase ci⟩⟩
  | succ m =>
    have hi' : i < items.length := by omega
    have ed : items[i]? = some items[i] := List.getElem?_eq_getElem hi'
    obtain ⟨go, y⟩ := s1 _ ed
    rw [List.drop_eq_getElem_cons hi'] at ei
    obtain ⟨Γ2, e2, ei⟩ := Option.bind_eq_some_iff.mp ei
    obtain ⟨o1, e3, ei⟩ := Option.bind_eq_some_iff.mp ei
    refine .inr ⟨go, fun σ H => ∃ Γi, Cfg X.K np (W.at O1 H1) σ H Γi vs (tsd ds) ∧ loopS g b (items.drop (i + 1)) Γi = some o, fun σ' H' w => ⟨m, Nat.lt_succ_self _, by omega, w⟩, fun x H2 hy => ?_⟩
    refine ⟨W.at O1 H1, Γi, vs, tsd ds, _, Γ2, y x H2 hy, e2, fun σ3 H3 c3 _ => ?_⟩
    refine ⟨W.at O1 H1, Γ2, vs, ds, o1, c3, e3, ?_⟩
    cases o1 with
    | nx Γ3 => exact fun σ' H' c' => ⟨Γ3, c', ei⟩
    | ct Γ3 => exact fun σ' H' c' => ⟨Γ3, c', ei⟩
    | bk Γ3 =>
      cases ei
      exact fun σ' H' ⟨O', c'⟩ => q σ' H' ⟨O', c1.unbase c'⟩
    | rt r Γ3 =>
      cases ei
      exact fun v σ' H' ⟨O', c'⟩ => q v σ' H' ⟨O', c1.unbase c'⟩

/-! ### list comprehensions -/
def loopC (tg : FG) (tt : FT) (fe : FE) (own : List Nat) : List PyData → List PyData → Gm → Option (List PyData × Gm)
  | [], acc, Γ => some (acc, Γ)
  | d :: r, acc, Γ => (tg d Γ).bind fun Γ1 => (tt Γ1).bind fun p => if p.1 = true then (fe p.2).bind fun q => (frz q.1).bind fun y => if acc.length < sizeLine then loopC tg tt fe own r (acc ++ [y]) (fgt q.2 own) else none
    else loopC tg tt fe own r acc (fgt p.2 own)
def fComp (ow : Bool) (fi : FI) (tg : FG) (tt : FT) (fe : FE) (own : List Nat) : FE := fun Γ => (fi Γ).bind fun p => (loopC tg tt fe own p.1 [] (fgt p.2 own)).map fun q => ((Res.new q.1).fin ow, q.2)
def FTsX (X : Cx) (np : Nat) (es : List Expr) (f : FT) : Prop := PTs X es (upT X.K np f)
def tYesF : FT := fun Γ => some (true, Γ)
theorem fts_nil : FTsX X np [] tYesF := by
  have h := pts_nil (X := X)
  refine ⟨fun pins s σ H Q I hw => h.run pins s σ H Q I ?_⟩
  obtain ⟨W, Γ, vs, ts, b, Γ', c, e, q⟩ := hw
  cases e
  exact q H c
theorem fts_one {c : Expr} {t : FT} (h : FTX X np c t) : FTsX X np [c] t := pts_one h
theorem wipe_at {σ : L2.St} {j : Nat} : ∀ {is : List Nat}, j ∉ is → (L2.wipe σ is)[j]? = σ[j]?
  | [], _ => rfl
  | i :: is, h => by
    unfold L2.wipe
    rw [List.getElem?_set_ne (by rintro rfl; exact h List.mem_cons_self)]
    exact wipe_at fun z => h (List.mem_cons_of_mem _ z)
theorem wipe_in {σ : L2.St} {j : Nat} (hj : j < σ.length) : ∀ {is : List Nat}, j ∈ is → (L2.wipe σ is)[j]? = some none
  | i :: is, h => by
    unfold L2.wipe
    by_cases e : i = j
    · subst e
      rw [List.getElem?_set_self (by rw [L2.wipe_length]; exact hj)]
    · rw [List.getElem?_set_ne e]
      exact wipe_in hj ((List.mem_cons.mp h).resolve_left fun z => e z.symm)
theorem wipe_ext {σ σ' : L2.St} {is : List Nat} (hl : σ'.length = σ.length) (h : ∀ j, j ∉ is → σ'[j]? = σ[j]?) : L2.wipe σ' is = L2.wipe σ is := by
  apply List.ext_getElem?
  intro j
  by_cases hj : j ∈ is
  · by_cases hl' : j < σ.length
    · rw [wipe_in hl' hj, wipe_in (by omega) hj]
    · rw [List.getElem?_eq_none (by rw [L2.wipe_length]; omega), List.getElem?_eq_none (by rw [L2.wipe_length]; omega)]
  · rw [wipe_at hj, wipe_at hj, h j hj]
theorem wipe_wipe (σ : L2.St) (is : List Nat) : L2.wipe (L2.wipe σ is) is = L2.wipe σ is := wipe_ext (L2.wipe_length _ _) fun j h => wipe_at h
/-- temporaries that name no slot of is -/
theorem Tm.wipe {K : PySem.W.Frag} {O : Own} {σ σ' : L2.St} {H : Hp} {Γ : Gm} (is : List Nat) (h : ∀ j, j ∉ is → σ'[j]? = σ[j]?) (n : ∀ j, j ∈ is → ownAt Γ j = false) : ∀ {vs : List V} {ts : List TV}, Tm K O H σ Γ vs ts → Tm K O H σ' (fgt Γ is) vs ts
  | [], [], _ => True.intro
  | w :: vs, t :: ts, hh => by
    refine ⟨?_, Tm.wipe is h n (vs := vs) (ts := ts) hh.2⟩
    have h1 := hh.1
    cases t with
    | md m => exact h1
    | al j =>
      obtain ⟨e, m, e1, e2⟩ := h1
      have hj : j ∉ is := fun z => by
        have := n j z
        simp only [ownAt, e1] at this
        rw [this] at e2
        cases e2
      refine ⟨(h j hj).trans e, m, ?_, e2⟩
      have go : ∀ {is : List Nat}, j ∉ is → (fgt Γ is)[j]? = Γ[j]? := by
        intro is
        induction is with
        | nil => intro _; rfl
        | cons i is ih =>
          intro hn
          unfold fgt
          rw [List.getElem?_set_ne (by rintro rfl; exact hn List.mem_cons_self)]
          exact ih fun z => hn (List.mem_cons_of_mem _ z)
      rw [go hj]
      exact e1
  | [], _ :: _, h => h.elim
  | _ :: _, [], h => h.elim
/-- into a block: the block's own slots forgotten -/
theorem Cf.inBlk {K : PySem.W.Frag} {W : Wd} {O : Own} {σ σ' : L2.St} {H : Hp} {Γ : Gm} {vs : List V} {ts : List TV} (is : List Nat) (c : Cf K np W O σ H Γ vs ts) (hl : σ'.length = σ.length) (h : ∀ j, j ∉ is → σ'[j]? = σ[j]?) (n : ∀ j, j ∈ is → ownAt Γ j = false) : Cf K np W O σ' H (fgt Γ is) vs ts :=
  ⟨c.dom, fun j m e => by
    obtain ⟨e1, e2⟩ := fgt_some e
    obtain ⟨v, e3, r⟩ := c.sl j m e1
    exact ⟨v, (h j e2).trans e3, r⟩, Tm.wipe is h n c.tm, c.keep, c.out, c.wt, fun j m hj e ho => by
    obtain ⟨e1, e2⟩ := fgt_some e
    exact (h j e2).trans (c.arg j m hj e1 ho), by rw [fgt_len, hl]; exact c.len⟩
def noOwn (Γ : Gm) (is : List Nat) : Bool := is.all fun j => !ownAt Γ j
theorem noOwn_to {Γ : Gm} {is : List Nat} (h : noOwn Γ is = true) : ∀ j, j ∈ is → ownAt Γ j = false := fun j hj => by
  have := List.all_eq_true.mp h j hj
  simpa using this
end
end Fx

end

/-! Fx8: list comprehensions -/
noncomputable section
namespace Fx
open PySem PySem.Spec PyProof.Rows L2

section
variable {K : PySem.W.Frag} {np : Nat} {W : Wd} {O O' : Own} {σ σ' : L2.St} {H H' : Hp} {Γ Γ' : Gm}
theorem ownAt_fgt {Γ : Gm} {is : List Nat} : ∀ j, j ∈ is → ownAt (fgt Γ is) j = false := fun j hj => by
  unfold ownAt
  split
  · rename_i m hm
    exact absurd hj (fgt_some hm).2
  · rfl
theorem Cf.underT {vs : List V} {ts : List TV} {m : MD} {v w : V} {t : TV} (c : Cf K np W O σ H Γ (v :: w :: vs) (.md m :: t :: ts)) : Cfg K np W σ H Γ (v :: vs) (.md m :: ts) := by
  have a : Ev (· = .tmp (t :: ts).length) O H (retag O (.tmp (t :: ts).length) (some (.tmp ts.length))) H := Ev.retag (by simp) c.dom
  have c2 := c.pop.pop.ev a (by simp) (by simp) (fun k z => by injection z with z; simp at z ⊢; omega)
  exact ⟨_, c2.push (MR.move c.dom (by simp) c.top)⟩
end
def loopL (tg : FG) (tt : FT) (fe : FE) (own : List Nat) : List PyData → List PyData → Gm → Option (List PyData × Gm)
  | [], acc, Γ => some (acc, Γ)
  | d :: r, acc, Γ => (tg d Γ).bind fun Γ1 => (tt Γ1).bind fun p => if p.1 = true then (fe p.2).bind fun q => (frz q.1).bind fun y => if acc.length < sizeLine ∧ noOwn q.2 own = true then loopL tg tt fe own r (acc ++ [y]) (fgt q.2 own) else none
    else if noOwn p.2 own = true then loopL tg tt fe own r acc (fgt p.2 own) else none
def fLc (ow : Bool) (fi : FI) (tg : FG) (tt : FT) (fe : FE) (own : List Nat) : FE := fun Γ => (fi Γ).bind fun p => if noOwn p.2 own = true then (loopL tg tt fe own p.1 [] (fgt p.2 own)).map fun q => ((Res.new q.1).fin ow, fgt q.2 own) else none
section
variable {X : Cx} {np : Nat} {pos : Pos} {is : List Nat}
theorem lc_read {ow : Bool} {fi : FI} {g : FG} {tt : FT} {fe : FE} {own : List Nat} (hsub : ∀ i ∈ is, i ∈ own) {σ : L2.St} {H : Hp} {Q : VK} (h : up X.K np (fLc ow fi g tt fe own) σ H Q) :
    tLc (upI X.K np fi) (upG X.K np is g) (upT X.K np tt) (up X.K np fe) own σ H Q := by
  obtain ⟨W, Γ, vs, ts, t, Γ', c, e, q⟩ := h
  obtain ⟨⟨items, Γ1⟩, e1, e⟩ := Option.bind_eq_some_iff.mp e
  dsimp only at e
  split at e
  · rename_i hno
    obtain ⟨⟨out, Γ9⟩, e9, ex⟩ := Option.map_eq_some_iff.mp e
    cases ex
    have hw : ∀ j, j ∉ own → (L2.wipe σ own)[j]? = σ[j]? := fun j hj => wipe_at hj
    refine ⟨W, Γ, vs, ts, items, Γ1, c, e1, fun J O1 H1 c1 itf D hD => ?_⟩
    refine ⟨fun i m H => i + m = items.length ∧ ∃ acc Γi, Cfg X.K np (W.at O1 H1) (L2.wipe σ own) H Γi (.ref D :: vs) (.md (.lst acc) :: ts) ∧ (∀ j, j ∈ own → ownAt Γi j = false) ∧ loopL g tt fe own (items.drop i) acc Γi = some (out, Γ9), ⟨items.length, by simp, [], fgt Γ1 own, ?_, ownAt_fgt, e9⟩, ?_⟩
    · have a := Ev.newOwn (o := .lst []) (t := .tmp ts.length) (by simp) c1.dom hD
      have c2 := (c1.rebase.ev0 a).push (v := .ref D) (t := .md (.lst [])) ⟨D, [], rfl, put_same, upd_same, .nil⟩
      exact ⟨_, c2.inBlk own (L2.wipe_length _ _) hw (noOwn_to hno)⟩
    · rintro i m H ⟨hl, acc, Γi, ⟨O, ci⟩, hoi, ei⟩
      obtain ⟨s1, s2⟩ := itf.step i ci
      cases m with
      | zero =>
        have hi' : items.length ≤ i := by omega
        rw [List.drop_eq_nil_of_le hi'] at ei
        cases ei
        refine .inl ⟨s2 hi', ?_⟩
        have c3 := ci.inBlk (σ' := σ) own (L2.wipe_length _ _).symm (fun j hj => (hw j hj).symm) hoi
        have c4 := c1.unbase c3
        cases ow with
        | true => exact q _ H ⟨_, c4⟩
        | false => exact q _ H (c4.frzTop rfl)
      | succ m =>
        have hi' : i < items.length := by omega
        have ed : items[i]? = some items[i] := List.getElem?_eq_getElem hi'
        obtain ⟨go, y⟩ := s1 _ ed
        rw [List.drop_eq_getElem_cons hi'] at ei
        obtain ⟨Γ2, e2, ei⟩ := Option.bind_eq_some_iff.mp ei
        obtain ⟨⟨b, Γ3⟩, e3, ei⟩ := Option.bind_eq_some_iff.mp ei
        refine .inr ⟨go, fun H => ∃ acc Γi, Cfg X.K np (W.at O1 H1) (L2.wipe σ own) H Γi (.ref D :: vs) (.md (.lst acc) :: ts) ∧ (∀ j, j ∈ own → ownAt Γi j = false) ∧ loopL g tt fe own (items.drop (i + 1)) acc Γi = some (out, Γ9), fun H' w => ⟨m, Nat.lt_succ_self _, by omega, w⟩, fun x H2 hy => ?_⟩
        refine ⟨W.at O1 H1, Γi, _, _, _, Γ2, y x H2 hy, e2, fun σ3 H3 c3 off => ?_⟩
        have hoff : ∀ j, j ∉ own → (L2.wipe σ own)[j]? = σ3[j]? := fun j hj => (off.2 j fun z => hj (hsub j z)).symm
        have hlen : (L2.wipe σ own).length = σ3.length := off.1.symm
        refine ⟨by rw [wipe_ext (σ := L2.wipe σ own) hlen.symm fun j hj => (hoff j hj).symm, wipe_wipe], ?_⟩
        refine ⟨W.at O1 H1, Γ2, _, _, b, Γ3, c3, e3, fun H4 c4 => ?_⟩
        cases b with
        | false =>
          refine iteF ?_
          dsimp only at ei
          rw [if_neg (by simp)] at ei
          split at ei
          · rename_i hno3
            obtain ⟨O4, c4⟩ := c4
            exact ⟨acc, fgt Γ3 own, ⟨O4, c4.inBlk own hlen hoff (noOwn_to hno3)⟩, ownAt_fgt, ei⟩
          · cases ei
        | true =>
          dsimp only at ei
          rw [if_pos rfl] at ei
          obtain ⟨⟨t5, Γ5⟩, e5, ei⟩ := Option.bind_eq_some_iff.mp ei
          obtain ⟨yd, e6, ei⟩ := Option.bind_eq_some_iff.mp ei
          dsimp only at ei
          split at ei
          · rename_i hno5
            refine iteT ⟨W.at O1 H1, Γ3, _, _, t5, Γ5, c4, e5, fun y H5 c5 => ?_⟩
            obtain ⟨O5, c5⟩ := c5
            obtain ⟨a, ws, ea, oa, ha, fa⟩ := c5.pop.top
            cases ea
            have ry : Fz X.K O5 H5 yd y := by
              have := c5.top
              have e6' : t5 = .md (.dat yd) := frz_to e6
              rw [e6'] at this
              exact this
            refine ⟨ws, ha, by rw [← fa.length]; exact hno5.1, acc ++ [yd], fgt Γ5 own, ?_, ownAt_fgt, ei⟩
            have w := Ev.write (o := .lst (ws ++ [y])) c5.dom oa
            have c6 := c5.pop.pop.ev w (by simp) (by simp) (fun k z => by injection z with z; omega)
            have c7 := c6.push (v := .ref D) (t := .md (.lst (acc ++ [yd]))) ⟨D, ws ++ [y], rfl, oa, upd_same, (FzA.kp w.k _ _ fa).append (.cons (Fz.kp w.k _ _ ry) .nil)⟩
            exact ⟨_, c7.inBlk own hlen hoff (noOwn_to hno5.2)⟩
          · cases ei
  · cases e
theorem fx_lc {ow : Bool} {elt tg iter : Expr} {ifs : List Expr} {scope : Scope} {own : List (Str × Nat)} {fi : FI} {g : FG} {tt : FT} {fe : FE} (hc : X.calm = true) (hN : X.N.Nodup) (hi : FIX X np tg iter fi) (ok : BlkOk X.N X.env.scope scope own)
    (hg : ∀ (s : Shared) (H : Hp) (C : Addr) (cl : List (Str × Addr)) (fp : List Addr), FGX (X.blk s H scope (compEnvC scope cl C X.env) fp) np is tg g) (ht : ∀ (s : Shared) (H : Hp) (C : Addr) (cl : List (Str × Addr)) (fp : List Addr), FTsX (X.blk s H scope (compEnvC scope cl C X.env) fp) np ifs tt)
    (he : ∀ (s : Shared) (H : Hp) (C : Addr) (cl : List (Str × Addr)) (fp : List Addr), FX (X.blk s H scope (compEnvC scope cl C X.env) fp) np elt fe) (hsub : ∀ i ∈ is, i ∈ own.map (·.2) := by decide) (hs : ∀ x, foldedSetIterable iter X.env x = pure x := by intro _; rfl) :
    FX X np (.ListComp elt [⟨tg, iter, ifs, 0⟩] scope pos) (fLc ow fi g tt fe (own.map (·.2))) :=
  PE.weak (pe_lc (g := upG X.K np is g) (tt := upT X.K np tt) (te := up X.K np fe) hc hN hi ok hg ht he hs) fun _ _ _ h => lc_read hsub h
/-- y = [..] on one line -/
theorem fs_setLc {ow : Bool} {i : Nat} {y : Str} {py : Pos} {elt tg iter : Expr} {ifs : List Expr} {scope : Scope} {own : List (Str × Nat)} {spos : Pos} {fi : FI} {g : FG} {tt : FT} {fe : FE} (hc : X.calm = true) (hN : X.N.Nodup) (hyl : X.env.scope.names.lookup y = some .local)
    (hsw : swapsWith (.ListComp elt [⟨tg, iter, ifs, 0⟩] scope pos) (some (.Name y py)) spos.line X.env = pure true) (hi : FIX X np tg iter fi) (ok : BlkOk X.N X.env.scope scope own)
    (hg : ∀ (s : Shared) (H : Hp) (C : Addr) (cl : List (Str × Addr)) (fp : List Addr), FGX (X.blk s H scope (compEnvC scope cl C X.env) fp) np is tg g) (ht : ∀ (s : Shared) (H : Hp) (C : Addr) (cl : List (Str × Addr)) (fp : List Addr), FTsX (X.blk s H scope (compEnvC scope cl C X.env) fp) np ifs tt)
    (he : ∀ (s : Shared) (H : Hp) (C : Addr) (cl : List (Str × Addr)) (fp : List Addr), FX (X.blk s H scope (compEnvC scope cl C X.env) fp) np elt fe) (hy : X.N[i]? = some y := by rfl) (hsub : ∀ i ∈ is, i ∈ own.map (·.2) := by decide) (hs : ∀ x, foldedSetIterable iter X.env x = pure x := by intro _; rfl) :
    FSX X np (.Assign [.Name y py] (.ListComp elt [⟨tg, iter, ifs, 0⟩] scope pos) spos) (fSet np i (fLc ow fi g tt fe (own.map (·.2)))) := by
  refine PS.weak (ps_setLc (g := upG X.K np is g) (tt := upT X.K np tt) (te := up X.K np fe) hc hN hy hyl hsw hi ok hg ht he hs) fun D σ H h => ?_
  obtain ⟨W, Γ, vs, ds, o, c, e, q⟩ := h
  obtain ⟨⟨t, Γ1⟩, e1, e⟩ := Option.bind_eq_some_iff.mp e
  refine lc_read (np := np) (ow := ow) hsub ⟨W, Γ, vs, tsd ds, t, Γ1, c, e1, fun v H1 c1 => ?_⟩
  obtain ⟨O, c1⟩ := c1
  cases t with
  | md m =>
    dsimp only at e
    split at e
    · cases e
    · rename_i hm
      cases e
      exact q _ _ (c1.store hm)
  | al j => cases e
end
end Fx

end

/-! Fx0: a def's contract where no repr is under way (so that repr of what a def is handed can be told) -/
noncomputable section
namespace Fx
open PySem PySem.Spec PyProof.Rows L2

/-- room, and no repr under way -/
structure RoomG (k : Nat) (A : Around) : Prop where
  r : Room k A
  g : A.guards = some []
theorem RoomG.mono {j k : Nat} {A : Around} (h : RoomG k A) (le : j ≤ k) : RoomG j A := ⟨h.r.mono le, h.g⟩
theorem RoomG.deeper {k : Nat} {A : Around} (h : RoomG (k + 1) A) (env : Env) : RoomG k (A.deeper env) := ⟨h.r.deeper env, h.g⟩
theorem RoomG.units {k : Nat} {A : Around} (h : RoomG k A) : A.units + 64 < cLine := h.r.units
/-- a def that keeps sp wherever there is room and no repr is under way; it raises nothing -/
structure FnG (P : Program) (w : World) (K : PySem.W.Frag) (mg : Str → Option Value) (base : Heap) (k : Nat) (f : Addr) (fd : FuncData) (ps : List Str) (sp : Sp) : Prop where
  many : ∀ (vs : List V) (H : Hp) (Q : VK) (E : XK), sp vs H Q E → vs.length = ps.length
  go : ∀ {A : Around} {fr : List Env} {s : Shared} {H : Hp} {as : Args} {us : List Value} {vs : List V} {Q : VK} {E : XK}, RoomG k A → Env0 P w K mg base A fr s H → BindsTo s fd as (ps.zip us) → Vals vs us →
    sp vs H Q E → codeAny (model P w) A (.call (.ref f) as) (CR CX0 fr P w H s Q E) s
section
variable {P : Program} {w : World} {K : PySem.W.Frag} {mg : Str → Option Value} {base : Heap}
theorem FnG.mono {j k : Nat} {f : Addr} {fd : FuncData} {ps : List Str} {sp : Sp} (G : FnG P w K mg base j f fd ps sp) (le : j ≤ k) : FnG P w K mg base k f fd ps sp :=
  ⟨G.many, fun hr => G.go (hr.mono le)⟩
theorem FnG.imp {k : Nat} {f : Addr} {fd : FuncData} {ps : List Str} {sp tp : Sp} (G : FnG P w K mg base k f fd ps sp) (h : ∀ vs H Q E, tp vs H Q E → sp vs H Q E) : FnG P w K mg base k f fd ps tp :=
  ⟨fun vs H Q E q => G.many vs H Q E (h _ _ _ _ q), fun hr e b r q => G.go hr e b r (h _ _ _ _ q)⟩
/-- from what a body does -/
theorem fnG_of {x qual : Str} {st : Stmt} {f : Addr} {fd : FuncData} {N ps : List Str} {k : Nat} {sp : Sp} (F : Fun K x qual st f fd) (S : FnScope N ps (defScope st)) (many : ∀ vs H Q E, sp vs H Q E → vs.length = ps.length)
    (body : ∀ (cdv : Value) (A : Around) (fr : List Env) (s : Shared) (H : Hp) (vs : List V) (Q : VK) (E : XK), RoomG k (A.deeper (envOfC qual (defScope st) s.heap.objs.size f cdv)) → sp vs H Q E →
      ∃ t, PSs (cxOf CX0 P w K mg base N qual (defScope st) f cdv A fr s H E).nox (defBody st) t ∧ t { nx := fun _ H' => Q .non H', rt := Q } (L2.start N vs) H) : FnG P w K mg base (k + 1) f fd ps sp := by
  obtain ⟨oc, od, kV, doc, pm, an, cdv, ct, osl, rfl, lk, hcd⟩ := F.ex
  refine ⟨many, ?_⟩
  intro A fr s H as us vs Q E hr e0 hb r hsp
  have same := fun b o (e : base.get? b = some o) => (e0.bs b o e).1
  have inK : K.In s.heap := e0.mod.kin.keeps same
  have noL : s.heap.NoLimit := e0.mod.nolimit.keeps same
  have kinds : ∀ y ∈ ps.zip us, (defScope st).names.lookup y.1 = some .local ∨ ((defScope st).names.lookup y.1 = some .cell ∧ ((cellsFrom (s.heap.objs.size + 1) (defScope st).names []).lookup y.1).isSome = true) := by
    rintro ⟨n, v⟩ hy
    rcases S.par n (List.of_mem_zip hy).1 with q | q
    · exact Or.inl q
    · exact Or.inr ⟨q, PySem.W.cellsFrom_some _ _ _ (Or.inl q)⟩
  refine codeAny_call_function hr.r.depth (inK _ _ lk) rfl S.co S.gen rfl (PySem.W.codeRec_of inK hcd) (hb _ _ _ _ ?_)
  refine wpAny_newFunctionEnv_cells S.kind kinds ?_
  rintro env rfl s1 x
  refine ⟨noL.keeps x.toInCall.keep, codeAny_func ?_⟩
  obtain ⟨t, ht, hq⟩ := body cdv A fr s H vs Q E (hr.deeper _) hsp
  have I := inv_start (CX := CX0) (E := E) S hr.r.hd e0 (many _ _ _ _ hsp) r x
  refine wpAny_mono (ht.nox.run [] s1 (L2.start N vs) H _ I hq) ?_ fun e s' hs => hs
  intro fl s' hs
  cases fl with
  | next =>
    obtain ⟨σ2, H2, J, q⟩ := hs
    exact ⟨V.non, H2, J.os, J.bare, J.base, J.hok, rfl, q⟩
  | ret u =>
    obtain ⟨v, σ2, H2, J, rv, q⟩ := hs
    exact ⟨v, H2, J.os, J.bare, J.base, J.hok, rv, q⟩
  | brk => exact (let ⟨_, _, _, q⟩ := hs; False.elim q)
  | cont => exact (let ⟨_, _, _, q⟩ := hs; False.elim q)
end
/-! ### calls -/
section
variable {X : Cx} {k : Nat} {f : Addr} {fd : FuncData} {ps : List Str} {sp : Sp} {x : Str} {p pos : Pos} {e : Expr} {es : List Expr} {t : TA}
theorem runG {pins : List (Addr × Obj)} {σ : L2.St} {H : Hp} {s : Shared} {Q : VK} {as : Args} {us : List Value} {vs : List V} (G : FnG X.prog X.w X.K X.mg X.base k f fd ps sp) (hr : RoomG k X.A) (I : Inv X pins σ H s) (b : BindsTo s fd as (ps.zip us)) (r : Vals vs us)
    (h : sp vs H Q E0) : codeAny (model X.prog X.w) X.A (.call (.ref f) as) (fun r s' => match r with
      | .ok (.ret u) => EP X pins σ Q u s'
      | _ => False) s := by
  refine codeAny_mono (G.go hr I.env0 b r h) ?_
  intro r s' hq
  cases r with
  | error e => exact False.elim hq
  | ok fl =>
    cases fl with
    | ret u => exact I.after hq
    | next => exact False.elim hq
    | brk => exact False.elim hq
    | cont => exact False.elim hq
theorem callG {pins : List (Addr × Obj)} {σ : L2.St} {H : Hp} {s : Shared} {Q : VK} {us : List Value} {vs : List V} (G : FnG X.prog X.w X.K X.mg X.base k f fd ps sp) (hr : RoomG k X.A) (hb : Binds X.K fd ps []) (I : Inv X pins σ H s) (r : Vals vs us) (h : sp vs H Q E0) :
    wpAny (model X.prog X.w) X.A (call (.ref f) us) (EP X pins σ Q) X.xe s := by
  have hl : (us ++ []).length = ps.length := by
    rw [List.append_nil, ← r.length]
    exact G.many _ _ _ _ h
  have b := hb s us I.kIn hl
  rw [List.append_nil] at b
  refine wpAny_call (codeAny_mono (runG G hr I b r h) ?_)
  intro r s' hq
  cases r with
  | error e => exact False.elim hq
  | ok fl =>
    cases fl with
    | ret u => exact hq
    | next => exact False.elim hq
    | brk => exact False.elim hq
    | cont => exact False.elim hq
theorem pe_callG (G : FnG X.prog X.w X.K X.mg X.base k f fd ps sp) (hr : RoomG k X.A) (hg : Gl X x) (hm : X.mg x = some (.ref f)) (hk : PySem.W.keepIn X.K (.ref f) = true) (hb : Binds X.K fd ps []) (ha : PA X (e :: es) t)
    (hdb : (x == ("__debug__" : Str)) = false) (he : starEach (e :: es) X.env = (false, eval e X.env) :: starEach es X.env) (hpl : (backTo pos (starEach es X.env)).any (·.1) = false) : PE X (.Call (.Name x p) (e :: es) [] pos) (fun σ H Q => t σ H fun vs H1 => sp vs H1 Q E0) := by
  constructor
  intro pins s σ H Q I h
  apply wpAny_Call_Name_kw
  apply ld_glob I hg hm _ hdb
  refine PySem.W.callWith_K (h₀ := X.base) I.ok.mod.kin hk (thn (ha.run pos pins s σ H _ I h) ?_) he hpl
  rintro us s1 ⟨vs, H1, I1, r, q⟩
  exact ⟨I1.kIn, callG G hr hb I1 r q⟩
theorem callGk {pins : List (Addr × Obj)} {σ : L2.St} {H : Hp} {s : Shared} {Q : VK} {us ws : List Value} {vs zs : List V} {ks : List Str} {g : List Value → List Value → List Value} {gV : List V → List V → List V} (G : FnG X.prog X.w X.K X.mg X.base k f fd ps sp) (hr : RoomG k X.A) (hb : KBinds X.K fd ps ks g gV)
    (I : Inv X pins σ H s) (r : Vals vs us) (rz : Vals zs ws) (h : sp (gV vs zs) H Q E0) : wpAny (model X.prog X.w) X.A (call (.ref f) us (ks.zip ws)) (EP X pins σ Q) X.xe s := by
  have r2 := hb.rel r rz
  have hl : (g us ws).length = ps.length := by
    rw [← r2.length]
    exact G.many _ _ _ _ h
  refine wpAny_call (codeAny_mono (runG G hr I (hb.to s us ws I.kIn hl) r2 h) ?_)
  intro r s' hq
  cases r with
  | error e => exact False.elim hq
  | ok fl =>
    cases fl with
    | ret u => exact hq
    | next => exact False.elim hq
    | brk => exact False.elim hq
    | cont => exact False.elim hq
end
end Fx

end

/-! Fx9: defs and their calls -/
noncomputable section
namespace Fx
open PySem PySem.Spec PyProof.Rows L2

def isSlot : Tag → Prop
  | .slot _ => True
  | _ => False
/-- a def by values: the result, and what its parameters own behind it -/
abbrev FF := List MD → Option (MD × List (Option MD))
def spF (K : PySem.W.Frag) (F : FF) : Sp := fun vs H Q _ => ∃ O ms r ms', (∀ b t, O b = some t → H b ≠ none) ∧ (∀ b k, O b ≠ some (.tmp k)) ∧ vs.length = ms.length ∧
  (∀ (k : Nat) (m : MD), ms[k]? = some m → ∃ v, vs[k]? = some v ∧ MR K O H (.slot k) m v) ∧ F ms = some (r, ms') ∧
  ∀ v H' O' n, Ev isSlot O H O' H' → MR K O' H' (.tmp n) r v → (∀ (k : Nat) (m : MD), ms'[k]? = some (some m) → ∃ v, vs[k]? = some v ∧ MR K O' H' (.slot k) m v) → Q v H'
def outs (np : Nat) (Γ : Gm) : List (Option MD) := (Γ.take np).map fun o => o.bind fun m => if m.own then some m else none
def fnOf (np len : Nat) (g : FS) : FF := fun ms => if ms.length = np then (g (ms.map some ++ List.replicate (len - np) none)).bind fun o => match o with
    | .rt r Γ => some (r, outs np Γ)
    | .nx Γ => some (.dat .none, outs np Γ)
    | _ => none
  else none
theorem outs_get {np : Nat} {Γ : Gm} {k : Nat} {m : MD} (h : (outs np Γ)[k]? = some (some m)) : k < np ∧ Γ[k]? = some (some m) ∧ m.own = true := by
  unfold outs at h
  rw [List.getElem?_map] at h
  cases q : (Γ.take np)[k]? with
  | none => rw [q] at h; cases h
  | some o =>
    rw [q] at h
    have hk : k < np := by
      have := (List.getElem?_eq_some_iff.mp q).1
      simp at this
      omega
    rw [List.getElem?_take_of_lt hk] at q
    have h' := Option.some.inj h
    obtain ⟨m', e1, e2⟩ := Option.bind_eq_some_iff.mp h'
    split at e2
    · rename_i ho
      cases e2
      exact ⟨hk, by rw [q, e1], ho⟩
    · cases e2
section
variable {P : Program} {w : World} {K : PySem.W.Frag} {mg : Str → Option Value} {base : Heap}
theorem start_get {N : List Str} {vs : List V} {k : Nat} {v : V} (h : vs[k]? = some v) : (L2.start N vs)[k]? = some (some v) := by
  unfold L2.start
  have hk := (List.getElem?_eq_some_iff.mp h).1
  rw [List.getElem?_append_left (by simpa using hk), List.getElem?_map, h]
  rfl
theorem fn_ok {x qual : Str} {st : Stmt} {f : Addr} {fd : FuncData} {N ps : List Str} {k : Nat} {g : FS} (F : Fun K x qual st f fd) (S : FnScope N ps (defScope st))
    (hbody : ∀ (cdv : Value) (A : Around) (outer : List Env) (s : Shared) (H : Hp) (Q : VK) (E : XK), RoomG k (A.deeper (envOfC qual (defScope st) s.heap.objs.size f cdv)) →
      FSsX (cxOf CX0 P w K mg base N qual (defScope st) f cdv A outer s H E).nox ps.length (defBody st) g) : FnG P w K mg base (k + 1) f fd ps (spF K (fnOf ps.length N.length g)) := by
  refine fnG_of F S (fun vs H Q E h => ?_) (fun cdv A outer s H vs Q E hr h => ⟨_, hbody cdv A outer s H Q E hr, ?_⟩)
  · obtain ⟨O, ms, r, ms', _, _, hl, _, e, _⟩ := h
    unfold fnOf at e
    split at e
    · rename_i h1
      rw [hl, h1]
    · cases e
  · obtain ⟨O, ms, r, ms', dom, wt, hl, ha, e, q⟩ := h
    unfold fnOf at e
    split at e
    · rename_i h1
      obtain ⟨o, e1, e⟩ := Option.bind_eq_some_iff.mp e
      have hΓ : ∀ (i : Nat) (m : MD), (ms.map some ++ List.replicate (N.length - ps.length) none)[i]? = some (some m) → ms[i]? = some m := fun i m hi => by
        by_cases hlt : i < ms.length
        · rw [List.getElem?_append_left (by simpa using hlt), List.getElem?_map] at hi
          cases qq : ms[i]? with
          | none => rw [qq] at hi; cases hi
          | some m' => rw [qq] at hi; exact Option.some.inj hi
        · rw [List.getElem?_append_right (by simpa using hlt), List.getElem?_replicate] at hi
          split at hi <;> cases hi
      have c0 : Cf K ps.length ⟨H, O, L2.start N vs⟩ O (L2.start N vs) H (ms.map some ++ List.replicate (N.length - ps.length) none) [] [] := by
        refine ⟨dom, fun i m hi => ?_, True.intro, fun b o h _ => ⟨h, rfl⟩, fun b h => h, wt, fun _ _ _ _ _ => rfl, ?_⟩
        · obtain ⟨v, e2, r2⟩ := ha i m (hΓ i m hi)
          exact ⟨v, start_get e2, r2⟩
        · unfold L2.start
          simp only [List.length_append, List.length_map, List.length_replicate]
          omega
      have fin : ∀ (σ : L2.St) (H' : Hp) (Γ : Gm) (v : V) (ts : List TV) (r : MD), Cfg K ps.length ⟨H, O, L2.start N vs⟩ σ H' Γ [v] [.md r] → (∀ v H' O' n, Ev isSlot O H O' H' → MR K O' H' (.tmp n) r v →
          (∀ (k : Nat) (m : MD), (outs ps.length Γ)[k]? = some (some m) → ∃ v, vs[k]? = some v ∧ MR K O' H' (.slot k) m v) → Q v H') → Q v H' := fun σ H' Γ v ts r ⟨O', c⟩ q => by
        refine q v H' O' 0 ⟨fun b o h n => c.keep b o h fun k z => n _ z True.intro, c.dom, c.out⟩ c.top fun k m hk => ?_
        obtain ⟨h3, h4, h5⟩ := outs_get hk
        obtain ⟨v', e3, r3⟩ := c.sl k m h4
        have e4 := c.arg k m h3 h4 h5
        have hv : k < vs.length := by omega
        have e5 : vs[k]? = some vs[k] := List.getElem?_eq_getElem hv
        have e6 := start_get (N := N) e5
        have e7 : (L2.start N vs)[k]? = some (some v') := e4.symm.trans e3
        rw [e6] at e7
        have e8 : vs[k] = v' := Option.some.inj (Option.some.inj e7)
        exact ⟨v', by rw [e5, e8], r3⟩
      refine ⟨⟨H, O, L2.start N vs⟩, _, [], [], o, ⟨O, c0⟩, e1, ?_⟩
      cases o with
      | rt m Γ =>
        cases e
        exact fun v σ H' c => fin σ H' Γ v [] _ c q
      | nx Γ =>
        cases e
        exact fun σ H' ⟨O', c⟩ => fin σ H' Γ .non [] _ ⟨O', c.push (t := .md (.dat .none)) (v := .non) (show Fz _ _ _ .none .non from .non)⟩ q
      | bk Γ => cases e
      | ct Γ => cases e
    · cases e
end

/-! ### calls -/
section
variable {K : PySem.W.Frag} {O O' O2 : Own} {H H' : Hp}
theorem MR.map {t t' : Tag} (h0 : ∀ b, O b = none → O2 b = none) (h1 : ∀ b, O b = some t → O2 b = some t') {m : MD} {v : V} (h : MR K O H t m v) : MR K O2 H t' m v := by
  have k : Kp O H O2 H := fun b o e n => ⟨e, h0 b n⟩
  cases m with
  | dat d => exact Fz.kp k _ _ h
  | lst xs =>
    obtain ⟨b, vs, e, q, h1', h2⟩ := h
    exact ⟨b, vs, e, h1 _ q, h1', FzA.kp k _ _ h2⟩
  | lls xss =>
    obtain ⟨b, as, vss, e, q, g0, g1, h2, h3, h4⟩ := h
    exact ⟨b, as, vss, e, h1 _ q, g0, g1, h2, Paired.mapP h3 fun c vs z => ⟨h1 _ z.1, z.2⟩, Paired.mapP h4 fun xs vs z => FzA.kp k _ _ z⟩
  | bag c b m =>
    obtain ⟨x, y, e, ne, q1, q2, h3, h4⟩ := h
    exact ⟨x, y, e, ne, h1 _ q1, h1 _ q2, h3, h4⟩
  | dcK kvs =>
    obtain ⟨b, ws, e, q, h3, h4⟩ := h
    exact ⟨b, ws, e, h1 _ q, h3, h4.kp k⟩
  | dcT kvs =>
    obtain ⟨b, ws, e, q, h3, h4⟩ := h
    exact ⟨b, ws, e, h1 _ q, h3, h4.kp k⟩
  | scr ns =>
    obtain ⟨b, e, h3 | h3⟩ := h
    · exact ⟨b, e, .inl ⟨h3.1, h0 _ h3.2⟩⟩
    · exact ⟨b, e, .inr h3⟩
end
def als : List TV → List Nat
  | [] => []
  | .al i :: us => i :: als us
  | .md _ :: us => als us
def alIx : List TV → Nat → Option Nat
  | [], _ => none
  | .al j :: us, i => if j = i then some 0 else (alIx us i).map (· + 1)
  | .md _ :: us, i => (alIx us i).map (· + 1)
def argsOf (Γ : Gm) : List TV → Option (List MD)
  | [] => some []
  | .md m :: us => if m.own = true then none else (argsOf Γ us).map fun l => m :: l
  | .al i :: us => match Γ[i]? with
    | some (some m) => (argsOf Γ us).map fun l => m :: l
    | _ => none
def putArgs : List TV → List (Option MD) → Gm → Option Gm
  | [], _, Γ => some Γ
  | .md _ :: us, _ :: ms, Γ => putArgs us ms Γ
  | .al i :: us, some m :: ms, Γ => if m.own = true then putArgs us ms (Γ.set i (some m)) else none
  | _, _, _ => none
theorem mem_als : ∀ {us : List TV} {k j : Nat}, us[k]? = some (.al j) → j ∈ als us
  | [], _, _, h => by simp at h
  | .al i :: us, 0, j, h => by
    simp at h
    subst h
    exact List.mem_cons_self
  | .al i :: us, k + 1, j, h => List.mem_cons_of_mem _ (mem_als (k := k) (by simpa using h))
  | .md m :: us, 0, j, h => by simp at h
  | .md m :: us, k + 1, j, h => mem_als (us := us) (k := k) (by simpa using h)
theorem alIx_of : ∀ {us : List TV} {k j : Nat}, (als us).Nodup → us[k]? = some (.al j) → alIx us j = some k
  | [], _, _, _, h => by simp at h
  | .al i :: us, 0, j, _, h => by
    simp at h
    subst h
    simp [alIx]
  | .al i :: us, k + 1, j, n, h => by
    have n' := List.nodup_cons.mp n
    have h' : us[k]? = some (.al j) := by simpa using h
    have ne : i ≠ j := fun z => n'.1 (z ▸ mem_als h')
    simp [alIx, ne, alIx_of n'.2 h']
  | .md m :: us, 0, j, _, h => by simp at h
  | .md m :: us, k + 1, j, n, h => by
    have h' : us[k]? = some (.al j) := by simpa using h
    simp [alIx, alIx_of (us := us) n h']
theorem alIx_to : ∀ {us : List TV} {k j : Nat}, alIx us j = some k → us[k]? = some (.al j)
  | [], _, _, h => by cases h
  | .al i :: us, k, j, h => by
    unfold alIx at h
    split at h
    · rename_i e
      cases h
      rw [e]
      rfl
    · obtain ⟨l, e1, e2⟩ := Option.map_eq_some_iff.mp h
      subst e2
      simpa using alIx_to e1
  | .md m :: us, k, j, h => by
    obtain ⟨l, e1, e2⟩ := Option.map_eq_some_iff.mp h
    subst e2
    simpa using alIx_to e1
theorem putArgs_to : ∀ {us : List TV} {ms : List (Option MD)} {Γ Γ' : Gm}, putArgs us ms Γ = some Γ' → Γ'.length = Γ.length ∧ (∀ j : Nat, j ∉ als us → Γ'[j]? = Γ[j]?) ∧
    ((als us).Nodup → ∀ (k j : Nat), us[k]? = some (TV.al j) → ∃ m, ms[k]? = some (some m) ∧ m.own = true ∧ (j < Γ.length → Γ'[j]? = some (some m)))
  | [], _, Γ, Γ', h => by
    cases h
    exact ⟨rfl, fun _ _ => rfl, fun _ k j h => by simp at h⟩
  | .md m0 :: us, [], _, _, h => by cases h
  | .md m0 :: us, mo :: ms, Γ, Γ', h => by
    obtain ⟨h1, h2, h3⟩ := putArgs_to (us := us) (ms := ms) h
    refine ⟨h1, h2, fun n k j hk => ?_⟩
    cases k with
    | zero => simp at hk
    | succ k => exact h3 n k j (by simpa using hk)
  | .al i :: us, [], _, _, h => by cases h
  | .al i :: us, none :: ms, _, _, h => by cases h
  | .al i :: us, some m :: ms, Γ, Γ', h => by
    unfold putArgs at h
    split at h
    · rename_i ho
      obtain ⟨h1, h2, h3⟩ := putArgs_to (us := us) (ms := ms) h
      refine ⟨by rw [h1, List.length_set], fun j hj => ?_, fun n k j hk => ?_⟩
      · have hj' : j ≠ i ∧ j ∉ als us := by simpa [als] using hj
        rw [h2 j hj'.2, List.getElem?_set_ne (Ne.symm hj'.1)]
      · have n' := List.nodup_cons.mp n
        cases k with
        | zero =>
          have e : i = j := by simpa using hk
          subst e
          exact ⟨m, rfl, ho, fun hl => by rw [h2 i n'.1, List.getElem?_set_self hl]⟩
        | succ k =>
          obtain ⟨m', e1, e2, e3⟩ := h3 n'.2 k j (by simpa using hk)
          exact ⟨m', e1, e2, fun hl => e3 (by rw [List.length_set]; exact hl)⟩
    · cases h
theorem argsOf_get {Γ : Gm} : ∀ {us : List TV} {ms : List MD}, argsOf Γ us = some ms → us.length = ms.length ∧ ∀ (k : Nat) (m : MD), ms[k]? = some m → (us[k]? = some (.md m) ∧ m.own = false) ∨ ∃ i, us[k]? = some (.al i) ∧ Γ[i]? = some (some m)
  | [], ms, e => by
    cases e
    exact ⟨rfl, fun k m h => by simp at h⟩
  | .md m0 :: us, ms, e => by
    unfold argsOf at e
    split at e
    · cases e
    · rename_i ho
      obtain ⟨l, e1, e2⟩ := Option.map_eq_some_iff.mp e
      subst e2
      obtain ⟨h1, h2⟩ := argsOf_get e1
      refine ⟨by simp [h1], fun k m hk => ?_⟩
      cases k with
      | zero =>
        simp at hk
        subst hk
        exact .inl ⟨rfl, by simpa using ho⟩
      | succ k => simpa using h2 k m (by simpa using hk)
  | .al i :: us, ms, e => by
    unfold argsOf at e
    split at e
    · rename_i m0 hm
      obtain ⟨l, e1, e2⟩ := Option.map_eq_some_iff.mp e
      subst e2
      obtain ⟨h1, h2⟩ := argsOf_get e1
      refine ⟨by simp [h1], fun k m hk => ?_⟩
      cases k with
      | zero =>
        simp at hk
        subst hk
        exact .inr ⟨i, rfl, hm⟩
      | succ k => simpa using h2 k m (by simpa using hk)
    · cases e
/-- the arguments in the parameters' order: js tells which -/
def pick (js : List Nat) (us : List TV) : Option (List TV) := js.foldr (fun j r => match us[j]?, r with
  | some u, some r => some (u :: r)
  | _, _ => none) (some [])
def fCall (F : FF) (fs : FA) : FE := fun Γ => (fs Γ).bind fun p => if (als p.1).Nodup then (argsOf p.2 p.1).bind fun ms => (F ms).bind fun r => (putArgs p.1 r.2 p.2).map fun Γ' => (.md r.1, Γ') else none
theorem Paired.get2 {α β : Type} {R : α → β → Prop} : ∀ {l : List α} {m : List β} {k : Nat} {b : β}, Paired R l m → m[k]? = some b → ∃ a, l[k]? = some a ∧ R a b
  | _, _, _, _, .nil, e => by simp at e
  | _, _, 0, _, .cons r _, e => by
    simp at e
    subst e
    exact ⟨_, rfl, r⟩
  | _, _, k + 1, b, .cons _ t, e => by
    obtain ⟨a, h1, h2⟩ := Paired.get2 (k := k) t (by simpa using e)
    exact ⟨a, by simpa using h1, h2⟩
theorem Paired.len2 {α β : Type} {R : α → β → Prop} : ∀ {l : List α} {m : List β}, Paired R l m → l.length = m.length
  | _, _, .nil => rfl
  | _, _, .cons _ t => by simp [Paired.len2 t]
/-- THE call: what the promise asks, from the state with the arguments -/
theorem callF {K : PySem.W.Frag} {np : Nat} {W : Wd} {σ : L2.St} {H : Hp} {Γ Γ' : Gm} {vs xs : List V} {ts us : List TV} {F : FF} {ms : List MD} {r : MD} {ms' : List (Option MD)} {O : Own} {Q : VK} {E : XK}
    (c : Cf K np W O σ H Γ vs ts) (pr : Paired (fun x u => ∃ g, TR K O H σ Γ g u x) xs us) (nd : (als us).Nodup) (ha : argsOf Γ us = some ms) (hF : F ms = some (r, ms')) (hp : putArgs us ms' Γ = some Γ')
    (q : ∀ v H', Cfg K np W σ H' Γ' (v :: vs) (.md r :: ts) → Q v H') : spF K F xs H Q E := by
  obtain ⟨hl, hg⟩ := argsOf_get ha
  obtain ⟨p1, p2, p3⟩ := putArgs_to hp
  -- ownership as the callee sees it
  let Oc : Own := fun b => match O b with
    | none => none
    | some (.slot i) => match alIx us i with
      | some k => some (.slot k)
      | none => some .out
    | some _ => some .out
  have oc0 : ∀ b, O b = none → Oc b = none := fun b h => by simp only [Oc, h]
  have ocn : ∀ b, Oc b = none → O b = none := fun b h => by
    simp only [Oc] at h
    split at h
    · assumption
    · split at h <;> cases h
    · cases h
  refine ⟨Oc, ms, r, ms', fun b t h => ?_, fun b k h => ?_, by rw [← hl]; exact Paired.len2 pr, fun k m hk => ?_, hF, fun v H' O' n ev mr margs => ?_⟩
  · cases z : O b with
    | none => rw [oc0 b z] at h; cases h
    | some t' => exact c.dom b t' z
  · simp only [Oc] at h
    split at h
    · cases h
    · split at h <;> cases h
    · cases h
  · rcases hg k m hk with ⟨hu, ho⟩ | ⟨i, hu, hm⟩
    · obtain ⟨x, hx, g, tr⟩ := Paired.get2 pr hu
      refine ⟨x, hx, ?_⟩
      have tr' : MR K O H g m x := tr
      cases m with
      | dat d => exact Fz.kp (fun b o e n => ⟨e, oc0 b n⟩) _ _ tr'
      | scr ns =>
        obtain ⟨b, e, h3 | h3⟩ := tr'
        · exact ⟨b, e, .inl ⟨h3.1, oc0 _ h3.2⟩⟩
        · exact ⟨b, e, .inr h3⟩
      | _ => cases ho
    · obtain ⟨x, hx, g, tr⟩ := Paired.get2 pr hu
      refine ⟨x, hx, ?_⟩
      obtain ⟨e1, _⟩ := tr
      obtain ⟨v', e2, r2⟩ := c.sl i m hm
      rw [e1] at e2
      cases e2
      exact MR.map oc0 (fun b hb => by simp only [Oc, hb, alIx_of nd hu]) r2
  · -- back
    let O2 : Own := fun b => match O' b with
      | none => none
      | some .out => O b
      | some (.slot k) => match us[k]? with
        | some (.al i) => some (.slot i)
        | _ => some (.tmp ts.length)
      | some (.tmp _) => some (.tmp ts.length)
    have o20 : ∀ b, O' b = none → O2 b = none := fun b h => by simp only [O2, h]
    have ev2 : Ev (fun t => ∃ (i k : Nat), us[k]? = some (TV.al i) ∧ t = Tag.slot i) O H O2 H' := by
      refine ⟨fun b o h nj => ?_, fun b t h => ?_, fun b h => ?_⟩
      · have hoc : ∀ t, Oc b = some t → t = .out := fun t ht => by
          simp only [Oc] at ht
          split at ht
          · cases ht
          · rename_i i hi
            split at ht
            · rename_i k hk
              exact absurd ⟨i, k, alIx_to hk, rfl⟩ (nj _ hi)
            · exact (Option.some.inj ht).symm
          · exact (Option.some.inj ht).symm
        obtain ⟨h1, h2⟩ := ev.kp b o h fun t ht z => by rw [hoc t ht] at z; exact z
        refine ⟨h1, ?_⟩
        cases z : Oc b with
        | none =>
          rw [z] at h2
          rw [o20 b h2, ocn b z]
        | some t =>
          have := hoc t z
          subst this
          rw [z] at h2
          simp only [O2, h2]
      · cases z : O' b with
        | none => rw [o20 b z] at h; cases h
        | some t' => exact ev.dom b t' z
      · simp only [O2] at h
        split at h
        · cases h
        · exact h
        · split at h <;> cases h
        · cases h
    have own2 : ∀ (i : Nat) (m : MD), Γ[i]? = some (some m) → m.own = true → ∃ m' : MD, Γ'[i]? = some (some m') ∧ m'.own = true := fun i m hi ho => by
      by_cases hal : ∃ k : Nat, us[k]? = some (.al i)
      · obtain ⟨k, hk⟩ := hal
        obtain ⟨m', _, e2, e3⟩ := p3 nd k i hk
        exact ⟨m', e3 (List.getElem?_eq_some_iff.mp hi).1, e2⟩
      · refine ⟨m, ?_, ho⟩
        rw [p2 i fun z => ?_]
        · exact hi
        · have memIx : ∀ {us : List TV} {i : Nat}, i ∈ als us → ∃ k : Nat, us[k]? = some (.al i) := by
            intro us
            induction us with
            | nil => intro i h; cases h
            | cons u us ih =>
              intro i h
              cases u with
              | md m =>
                obtain ⟨k, e⟩ := ih h
                exact ⟨k + 1, by simpa using e⟩
              | al j =>
                rcases List.mem_cons.mp h with rfl | h
                · exact ⟨0, rfl⟩
                · obtain ⟨k, e⟩ := ih h
                  exact ⟨k + 1, by simpa using e⟩
          exact hal (memIx z)
    have hfree : ∀ i, i ∉ als us → ¬ ∃ (i' k : Nat), us[k]? = some (TV.al i') ∧ Tag.slot i = .slot i' := fun i hi ⟨i', k, hk, e⟩ => by
      cases e
      exact hi (mem_als hk)
    have c3 : Cf K np W O2 σ H' Γ' vs ts := by
      refine ⟨ev2.dom, fun j m hj => ?_, Tm.ev (ts := ts) ev2 (fun k z => ?_) own2 (Nat.le_refl _) c.tm, fun b o h n => ?_, fun b h => c.out b (ev2.out b h), c.wt, fun j m hjn hj ho => ?_, by rw [p1]; exact c.len⟩
      · by_cases hjal : ∃ k : Nat, us[k]? = some (.al j)
        · obtain ⟨k, hk⟩ := hjal
          obtain ⟨m', e1, e2, e3⟩ := p3 nd k j hk
          obtain ⟨x, hx, g, e4, m0, e5, _⟩ := Paired.get2 pr hk
          have hlt : j < Γ.length := (List.getElem?_eq_some_iff.mp e5).1
          rw [e3 hlt] at hj
          cases hj
          obtain ⟨x', hx', r2⟩ := margs k _ e1
          rw [hx] at hx'
          cases hx'
          exact ⟨x, e4, MR.map o20 (fun b hb => by simp only [O2, hb, hk]) r2⟩
        · have hna : j ∉ als us := fun z => by
            have memIx : ∀ {us : List TV} {i : Nat}, i ∈ als us → ∃ k : Nat, us[k]? = some (.al i) := by
              intro us
              induction us with
              | nil => intro i h; cases h
              | cons u us ih =>
                intro i h
                cases u with
                | md m =>
                  obtain ⟨k, e⟩ := ih h
                  exact ⟨k + 1, by simpa using e⟩
                | al j =>
                  rcases List.mem_cons.mp h with rfl | h
                  · exact ⟨0, rfl⟩
                  · obtain ⟨k, e⟩ := ih h
                    exact ⟨k + 1, by simpa using e⟩
            exact hjal (memIx z)
          rw [p2 j hna] at hj
          obtain ⟨x, e1, r1⟩ := c.sl j m hj
          exact ⟨x, e1, r1.ev ev2 (hfree j hna)⟩
      · obtain ⟨_, _, _, z⟩ := z
        cases z
      · obtain ⟨h1, e1⟩ := c.keep b o h n
        obtain ⟨h2, e2⟩ := ev2.kp b o h1 fun t ht ⟨i, k, _, z⟩ => by
          subst z
          rw [e1] at ht
          exact n i ht
        exact ⟨h2, e2.trans e1⟩
      · by_cases hjal : ∃ k : Nat, us[k]? = some (.al j)
        · obtain ⟨k, hk⟩ := hjal
          obtain ⟨x, hx, g, e4, m0, e5, e6⟩ := Paired.get2 pr hk
          exact c.arg j m0 hjn e5 e6
        · have hna : j ∉ als us := fun z => by
            have memIx : ∀ {us : List TV} {i : Nat}, i ∈ als us → ∃ k : Nat, us[k]? = some (.al i) := by
              intro us
              induction us with
              | nil => intro i h; cases h
              | cons u us ih =>
                intro i h
                cases u with
                | md m =>
                  obtain ⟨k, e⟩ := ih h
                  exact ⟨k + 1, by simpa using e⟩
                | al j =>
                  rcases List.mem_cons.mp h with rfl | h
                  · exact ⟨0, rfl⟩
                  · obtain ⟨k, e⟩ := ih h
                    exact ⟨k + 1, by simpa using e⟩
            exact hjal (memIx z)
          rw [p2 j hna] at hj
          exact c.arg j m hjn hj ho
    exact q v H' ⟨O2, c3.push (MR.map o20 (fun b hb => by simp only [O2, hb]) mr)⟩
section
variable {X : Cx} {np k : Nat} {f : Addr} {fd : FuncData} {ps : List Str} {x : Str} {p pos : Pos} {e : Expr} {es : List Expr} {F : FF} {fs : FA}
theorem fx_call (G : FnG X.prog X.w X.K X.mg X.base k f fd ps (spF X.K F)) (hr : RoomG k X.A) (hm : X.mg x = some (.ref f)) (hk : PySem.W.keepIn X.K (.ref f) = true) (hb : Binds X.K fd ps [])
    (ha : FAX X np (e :: es) fs) (hg : Gl X x := by rfl) (hdb : (x == ("__debug__" : Str)) = false := by decide) (he : starEach (e :: es) X.env = (false, eval e X.env) :: starEach es X.env := by rfl) (hpl : (backTo pos (starEach es X.env)).any (·.1) = false := by rfl) :
    FX X np (.Call (.Name x p) (e :: es) [] pos) (fCall F fs) := by
  refine PE.weak (pe_callG G hr hg hm hk hb ha hdb he hpl) fun σ H Q h => ?_
  obtain ⟨W, Γ, vs, ts, t, Γ', c, e, q⟩ := h
  obtain ⟨⟨us, Γ1⟩, e1, e⟩ := Option.bind_eq_some_iff.mp e
  dsimp only at e
  split at e
  · rename_i nd
    obtain ⟨ms, e2, e⟩ := Option.bind_eq_some_iff.mp e
    obtain ⟨⟨r, ms'⟩, e3, e⟩ := Option.bind_eq_some_iff.mp e
    obtain ⟨Γ2, e4, e⟩ := Option.map_eq_some_iff.mp e
    cases e
    refine ⟨W, Γ, vs, ts, us, Γ1, c, e1, fun xs H1 c1 el => ?_⟩
    obtain ⟨O, c1⟩ := c1
    obtain ⟨pr, c2⟩ := c1.args el
    exact callF c2 pr nd e2 e3 e4 q
  · cases e
end
end Fx

end

/-! Fx10: what changes a slot's list, slices, list(range), isinstance, two names at once -/
noncomputable section
namespace Fx
open PySem PySem.Spec PyProof.Rows L2

section
variable {K : PySem.W.Frag} {np : Nat} {W : Wd} {O O' : Own} {σ σ' : L2.St} {H H' : Hp} {Γ Γ' : Gm} {vs : List V} {ts : List TV}
theorem Cf.mutS {i : Nat} {m m' : MD} {v : V} (c : Cf K np W O σ H Γ vs ts) (hi : Γ[i]? = some (some m)) (ho : m.own = true) (a : Ev (· = .slot i) O H O' H') (ev : σ[i]? = some (some v)) (r : MR K O' H' (.slot i) m' v) (ho' : m'.own = true) :
    Cf K np W O' σ H' (Γ.set i (some m')) vs ts := by
  have hl : i < Γ.length := (List.getElem?_eq_some_iff.mp hi).1
  refine ⟨a.dom, fun j x e => ?_, Tm.ev (ts := ts) a (fun k z => by cases z) (fun j x e h => ?_) (Nat.le_refl _) c.tm, fun b o h n => ?_, fun b h => c.out b (a.out b h), c.wt, fun j x hj e h => ?_, by rw [List.length_set]; exact c.len⟩
  · by_cases ji : i = j
    · subst ji
      rw [List.getElem?_set_self hl] at e
      cases e
      exact ⟨v, ev, r⟩
    · rw [List.getElem?_set_ne ji] at e
      obtain ⟨w, e1, r1⟩ := c.sl j x e
      exact ⟨w, e1, r1.ev a (by simpa using fun z => ji z.symm)⟩
  · by_cases ji : i = j
    · subst ji
      exact ⟨m', List.getElem?_set_self hl, ho'⟩
    · exact ⟨x, by rw [List.getElem?_set_ne ji]; exact e, h⟩
  · obtain ⟨h1, e1⟩ := c.keep b o h n
    obtain ⟨h2, e2⟩ := a.kp b o h1 fun t q z => by
      subst z
      rw [e1] at q
      exact n i q
    exact ⟨h2, e2.trans e1⟩
  · by_cases ji : i = j
    · subst ji
      exact c.arg i m hj hi ho
    · rw [List.getElem?_set_ne ji] at e
      exact c.arg j x hj e h
theorem Cf.lstAt {i : Nat} {xs : List PyData} (c : Cf K np W O σ H Γ vs ts) (hi : Γ[i]? = some (some (.lst xs))) : ∃ a ws, σ[i]? = some (some (.ref a)) ∧ O a = some (.slot i) ∧ H a = some (.lst ws) ∧ FzA K O H xs ws := by
  obtain ⟨v, e, a, ws, rfl, oa, ha, fa⟩ := c.sl i _ hi
  exact ⟨a, ws, e, oa, ha, fa⟩
/-- a list of a slot gets other items -/
theorem Cf.relist {i : Nat} {xs ys : List PyData} {a : Addr} {ws us : List V} (c : Cf K np W O σ H Γ vs ts) (hi : Γ[i]? = some (some (.lst xs))) (ev : σ[i]? = some (some (.ref a))) (oa : O a = some (.slot i)) (fa : FzA K O H ys us) :
    Cf K np W O σ (upd H a (.lst us)) (Γ.set i (some (.lst ys))) vs ts := by
  have w := Ev.write (o := .lst us) c.dom oa
  exact c.mutS hi rfl w ev ⟨a, us, rfl, oa, upd_same, FzA.kp w.k _ _ fa⟩ rfl
def lstS (Γ : Gm) (i : Nat) : Option (List PyData) := match Γ[i]? with
  | some (some (.lst xs)) => some xs
  | _ => none
theorem lstS_to {i : Nat} {xs : List PyData} (e : lstS Γ i = some xs) : Γ[i]? = some (some (.lst xs)) := by
  unfold lstS at e
  split at e
  · rename_i h
    cases e
    exact h
  · cases e
end

/-- no temporary names a slot -/
def noAl : List TV → Bool
  | [] => true
  | .al _ :: _ => false
  | .md _ :: ts => noAl ts
theorem noAl_tsd : ∀ (ds : List PyData), noAl (tsd ds) = true
  | [] => rfl
  | _ :: ds => noAl_tsd ds
section
variable {K : PySem.W.Frag} {np : Nat} {W : Wd} {O O' : Own} {σ σ' : L2.St} {H H' : Hp} {Γ Γ' : Gm}
theorem Tm.evM {J : Tag → Prop} (a : Ev J O H O' H') : ∀ {vs : List V} {ts : List TV}, (∀ k, J (.tmp k) → ts.length ≤ k) → noAl ts = true → Tm K O H σ Γ vs ts → Tm K O' H' σ' Γ' vs ts
  | [], [], _, _, _ => True.intro
  | v :: vs, .md m :: ts, hJ, n, h => ⟨MR.ev a (fun z => by have := hJ _ z; simp at this; omega) h.1, Tm.evM a (vs := vs) (ts := ts) (fun k z => by have := hJ k z; simp at this; omega) n h.2⟩
  | _ :: _, .al _ :: _, _, n, _ => by cases n
  | [], _ :: _, _, _, h => h.elim
  | _ :: _, [], _, _, h => h.elim
/-- the top temporary is stored in a slot; the others name none -/
theorem Cf.storeT {vs : List V} {ts : List TV} {v : V} {m : MD} {i : Nat} (c : Cf K np W O σ H Γ (v :: vs) (.md m :: ts)) (na : noAl ts = true) (h : ¬ (m.own = true ∧ i < np)) : Cfg K np W (σ.set i (some v)) H (Γ.set i (some m)) vs ts := by
  have a : Ev (· = .tmp ts.length) O H (retag O (.tmp ts.length) (some (.slot i))) H := Ev.retag (by simp) c.dom
  have r : MR K (retag O (.tmp ts.length) (some (.slot i))) H (.slot i) m v := MR.move c.dom (by simp) c.top
  refine ⟨_, a.dom, fun j m' e => ?_, Tm.evM a (fun k z => by injection z with z; omega) na c.pop.tm, (c.pop.ev a (by simp) (by simp) (fun k z => by injection z with z; omega)).keep, fun b hb => c.out b (a.out b hb), c.wt, fun j m' hj e ho => ?_, by rw [List.length_set, List.length_set]; exact c.len⟩
  · by_cases ji : i = j
    · subst ji
      by_cases hl : i < Γ.length
      · rw [List.getElem?_set_self hl] at e
        cases e
        exact ⟨v, List.getElem?_set_self (by rw [← c.len]; exact hl), r⟩
      · rw [List.getElem?_eq_none (by rw [List.length_set]; omega)] at e
        cases e
    · rw [List.getElem?_set_ne ji] at e
      obtain ⟨w, e1, r1⟩ := c.sl j m' e
      exact ⟨w, by rw [List.getElem?_set_ne ji]; exact e1, r1.ev a (by simp)⟩
  · by_cases ji : i = j
    · subst ji
      by_cases hl : i < Γ.length
      · rw [List.getElem?_set_self hl] at e
        cases e
        exact absurd ⟨ho, hj⟩ h
      · rw [List.getElem?_eq_none (by rw [List.length_set]; omega)] at e
        cases e
    · rw [List.getElem?_set_ne ji] at e
      rw [List.getElem?_set_ne ji]
      exact c.arg j m' hj e ho
end

section
variable {X : Cx} {np : Nat} {pos : Pos} {e : Expr} {f fv fi : FE}
def fAppend (i : Nat) (f : FE) : FE := fun Γ => (lstS Γ i).bind fun _ => (f Γ).bind fun p => (frz p.1).bind fun d => (lstS p.2 i).bind fun xs => if xs.length < sizeLine then some (.md (.dat .none), p.2.set i (some (.lst (xs ++ [d])))) else none
theorem fx_append (i : Nat) {x : Str} {px pa pc : Pos} (he : FX X np e f) (hN : X.N[i]? = some x := by rfl) (hv : Vis X.env.scope x := by first | exact Or.inl rfl | exact Or.inr (Or.inl rfl) | exact Or.inr (Or.inr rfl)) (hd : (x == ("__debug__" : Str)) = false := by decide) (hcd : (x == ("__classdict__" : Str)) = false := by decide)
    (hs : starEach [e] X.env = (false, eval e X.env) :: starEach [] X.env := by rfl) (h1 : attributeBase (.Name x px) "append" X.env (eval (.Name x px) X.env) = eval (.Name x px) X.env := by rfl)
    (h2 : ((backTo pc (starEach [e] X.env)).all (fun x => !x.1) && (backToKw pc (keywordEach [] X.env)).all (fun x => x.1.isSome) && decide ([e].length + ([] : List Keyword).length + (if ([] : List Keyword).isEmpty then 0 else 1) < 30)) = true := by rfl)
    (h3 : (pa.endLine == pc.line) = true := by rfl) (h4 : (backTo pc (starEach [] X.env)).any (·.1) = false := by rfl) : FX X np (.Call (.Attribute (.Name x px) "append" pa) [e] [] pc) (fAppend i f) := by
  refine PE.weak (pe_bm PySem.F.plainAttrs_list PySem.F.slot_list_append PySem.F.type_list_append mt_append (pe_var hN hv hd hcd) (pa_cons he pa_nil hs) h1 h2 h3 hs h4) fun σ H Q h => ?_
  obtain ⟨W, Γ, vs, ts, t, Γ', ⟨O, c⟩, e, q⟩ := h
  obtain ⟨xs0, g0, e⟩ := Option.bind_eq_some_iff.mp e
  obtain ⟨⟨u, Γ1⟩, g1, e⟩ := Option.bind_eq_some_iff.mp e
  obtain ⟨d, g2, e⟩ := Option.bind_eq_some_iff.mp e
  obtain ⟨xs, g3, e⟩ := Option.bind_eq_some_iff.mp e
  obtain ⟨a, ws0, ev, _, ha0, _⟩ := c.lstAt (lstS_to g0)
  refine ⟨.ref a, ev, .inl ⟨rfl, ws0, .of ha0⟩, W, Γ, vs, ts, u, Γ1, ⟨O, c⟩, g1, fun y H1 c1 => ?_⟩
  obtain ⟨O1, c1⟩ := c1
  have hu : u = .md (.dat d) := frz_to g2
  subst hu
  obtain ⟨a', ws, ev', oa, ha, fa⟩ := c1.pop.lstAt (lstS_to g3)
  rw [ev] at ev'
  cases ev'
  split at e
  · rename_i hl
    cases e
    refine ⟨a, ws, y, rfl, rfl, ha, by rw [← fa.length]; exact hl, ?_⟩
    have c2 := c1.pop.relist (ws := ws) (lstS_to g3) ev oa (fa.append (.cons c1.top .nil))
    exact q _ _ ⟨O1, c2.push (t := .md (.dat .none)) (show Fz _ _ _ .none .non from .non)⟩
  · cases e
/-- xs.extend(ys), ys plain data -/
def fExtend (i : Nat) (f : FE) : FE := fun Γ => (lstS Γ i).bind fun _ => (f Γ).bind fun p => (frz p.1).bind fun d => match d with
  | .list ys => (lstS p.2 i).bind fun xs => if xs.length + ys.length ≤ sizeLine then some (.md (.dat .none), p.2.set i (some (.lst (xs ++ ys)))) else none
  | _ => none
theorem fx_extend (i : Nat) {x : Str} {px pa pc : Pos} (he : FX X np e f) (hN : X.N[i]? = some x := by rfl) (hv : Vis X.env.scope x := by first | exact Or.inl rfl | exact Or.inr (Or.inl rfl) | exact Or.inr (Or.inr rfl)) (hd : (x == ("__debug__" : Str)) = false := by decide) (hcd : (x == ("__classdict__" : Str)) = false := by decide)
    (hs : starEach [e] X.env = (false, eval e X.env) :: starEach [] X.env := by rfl) (h1 : attributeBase (.Name x px) "extend" X.env (eval (.Name x px) X.env) = eval (.Name x px) X.env := by rfl)
    (h2 : ((backTo pc (starEach [e] X.env)).all (fun x => !x.1) && (backToKw pc (keywordEach [] X.env)).all (fun x => x.1.isSome) && decide ([e].length + ([] : List Keyword).length + (if ([] : List Keyword).isEmpty then 0 else 1) < 30)) = true := by rfl)
    (h3 : (pa.endLine == pc.line) = true := by rfl) (h4 : (backTo pc (starEach [] X.env)).any (·.1) = false := by rfl) : FX X np (.Call (.Attribute (.Name x px) "extend" pa) [e] [] pc) (fExtend i f) := by
  refine PE.weak (pe_bm PySem.F.plainAttrs_list PySem.F.slot_list_extend PySem.F.type_list_extend mt_extend (pe_var hN hv hd hcd) (pa_cons he pa_nil hs) h1 h2 h3 hs h4) fun σ H Q h => ?_
  obtain ⟨W, Γ, vs, ts, t, Γ', ⟨O, c⟩, e, q⟩ := h
  obtain ⟨xs0, g0, e⟩ := Option.bind_eq_some_iff.mp e
  obtain ⟨⟨u, Γ1⟩, g1, e⟩ := Option.bind_eq_some_iff.mp e
  obtain ⟨d, g2, e⟩ := Option.bind_eq_some_iff.mp e
  obtain ⟨a, ws0, ev, _, ha0, _⟩ := c.lstAt (lstS_to g0)
  refine ⟨.ref a, ev, .inl ⟨rfl, ws0, .of ha0⟩, W, Γ, vs, ts, u, Γ1, ⟨O, c⟩, g1, fun y H1 c1 => ?_⟩
  obtain ⟨O1, c1⟩ := c1
  have hu : u = .md (.dat d) := frz_to g2
  subst hu
  split at e
  · rename_i ys
    obtain ⟨xs, g3, e⟩ := Option.bind_eq_some_iff.mp e
    obtain ⟨a', ws, ev', oa, ha, fa⟩ := c1.pop.lstAt (lstS_to g3)
    rw [ev] at ev'
    cases ev'
    split at e
    · rename_i hl
      cases e
      obtain ⟨b, zs, rfl, hb, fb, _⟩ := Fz.sqL c1.top
      refine ⟨a, b, ws, zs, rfl, rfl, ha, hb, by rw [← fa.length, ← fb.length]; exact hl, ?_⟩
      have c2 := c1.pop.relist (ws := ws) (lstS_to g3) ev oa (fa.append fb)
      exact q _ _ ⟨O1, c2.push (t := .md (.dat .none)) (show Fz _ _ _ .none .non from .non)⟩
    · cases e
  · cases e
theorem FzA.dropLast {K : PySem.W.Frag} {O : Own} {H : Hp} {ds : List PyData} {vs : List V} (h : FzA K O H ds vs) : FzA K O H ds.dropLast vs.dropLast := by
  rw [List.dropLast_eq_take, List.dropLast_eq_take, h.length]
  exact h.take _
theorem FzA.eraseIdx {K : PySem.W.Frag} {O : Own} {H : Hp} : ∀ {ds : List PyData} {vs : List V} (k : Nat), FzA K O H ds vs → FzA K O H (ds.eraseIdx k) (vs.eraseIdx k)
  | [], _, k, h => by cases h; simp; exact .nil
  | _ :: _, _, 0, h => by
    cases h with
    | cons h1 h2 => exact h2
  | _ :: _, _, k + 1, h => by
    cases h with
    | cons h1 h2 => exact .cons h1 (FzA.eraseIdx k h2)
/-- xs.pop(), xs.pop(i) -/
def fPop (i : Nat) : FE := fun Γ => (lstS Γ i).bind fun xs => xs[xs.length - 1]?.map fun d => (.md (.dat d), Γ.set i (some (.lst xs.dropLast)))
theorem fx_pop (i : Nat) {x : Str} {px pa pc : Pos} (hN : X.N[i]? = some x := by rfl) (hv : Vis X.env.scope x := by first | exact Or.inl rfl | exact Or.inr (Or.inl rfl) | exact Or.inr (Or.inr rfl)) (hd : (x == ("__debug__" : Str)) = false := by decide) (hcd : (x == ("__classdict__" : Str)) = false := by decide)
    (h1 : attributeBase (.Name x px) "pop" X.env (eval (.Name x px) X.env) = eval (.Name x px) X.env := by rfl) (h3 : (pa.endLine == pc.line) = true := by rfl) : FX X np (.Call (.Attribute (.Name x px) "pop" pa) [] [] pc) (fPop i) := by
  refine PE.weak (pe_bm0 PySem.F.plainAttrs_list PySem.F.slot_list_pop PySem.F.type_list_pop mt_pop (pe_var hN hv hd hcd) h1 h3) fun σ H Q h => ?_
  obtain ⟨W, Γ, vs, ts, t, Γ', ⟨O, c⟩, e, q⟩ := h
  obtain ⟨xs, g0, e⟩ := Option.bind_eq_some_iff.mp e
  obtain ⟨d, g1, e⟩ := Option.map_eq_some_iff.mp e
  cases e
  obtain ⟨a, ws, ev, oa, ha, fa⟩ := c.lstAt (lstS_to g0)
  obtain ⟨y, hy, ry⟩ := fa.get g1
  rw [fa.length] at hy
  refine ⟨.ref a, ev, .inl ⟨rfl, ws, .of ha⟩, a, ws, y, rfl, rfl, ha, hy, ?_⟩
  have w := Ev.write (o := .lst ws.dropLast) c.dom oa
  have c2 := c.relist (ws := ws) (lstS_to g0) ev oa fa.dropLast
  exact q _ _ ⟨O, c2.push (t := .md (.dat d)) (Fz.kp w.k _ _ ry)⟩
def ixPop (n : Nat) (i : Int) : Option Nat := if -(2 ^ 63) ≤ i ∧ i < 2 ^ 63 then seqIndex? i n else none
def fPopAt (i : Nat) (f : FE) : FE := fun Γ => (lstS Γ i).bind fun _ => (f Γ).bind fun p => (intT p.1).bind fun j => (lstS p.2 i).bind fun xs => (ixPop xs.length j).bind fun k => xs[k]?.map fun d => (.md (.dat d), p.2.set i (some (.lst (xs.eraseIdx k))))
theorem fx_popAt (i : Nat) {x : Str} {px pa pc : Pos} (he : FX X np e f) (hN : X.N[i]? = some x := by rfl) (hv : Vis X.env.scope x := by first | exact Or.inl rfl | exact Or.inr (Or.inl rfl) | exact Or.inr (Or.inr rfl)) (hd : (x == ("__debug__" : Str)) = false := by decide) (hcd : (x == ("__classdict__" : Str)) = false := by decide)
    (hs : starEach [e] X.env = (false, eval e X.env) :: starEach [] X.env := by rfl) (h1 : attributeBase (.Name x px) "pop" X.env (eval (.Name x px) X.env) = eval (.Name x px) X.env := by rfl)
    (h2 : ((backTo pc (starEach [e] X.env)).all (fun x => !x.1) && (backToKw pc (keywordEach [] X.env)).all (fun x => x.1.isSome) && decide ([e].length + ([] : List Keyword).length + (if ([] : List Keyword).isEmpty then 0 else 1) < 30)) = true := by rfl)
    (h3 : (pa.endLine == pc.line) = true := by rfl) (h4 : (backTo pc (starEach [] X.env)).any (·.1) = false := by rfl) : FX X np (.Call (.Attribute (.Name x px) "pop" pa) [e] [] pc) (fPopAt i f) := by
  refine PE.weak (pe_bm PySem.F.plainAttrs_list PySem.F.slot_list_pop PySem.F.type_list_pop mt_popAt (pe_var hN hv hd hcd) (pa_cons he pa_nil hs) h1 h2 h3 hs h4) fun σ H Q h => ?_
  obtain ⟨W, Γ, vs, ts, t, Γ', ⟨O, c⟩, e, q⟩ := h
  obtain ⟨xs0, g0, e⟩ := Option.bind_eq_some_iff.mp e
  obtain ⟨⟨u, Γ1⟩, g1, e⟩ := Option.bind_eq_some_iff.mp e
  obtain ⟨j, g2, e⟩ := Option.bind_eq_some_iff.mp e
  obtain ⟨xs, g3, e⟩ := Option.bind_eq_some_iff.mp e
  obtain ⟨k, g4, e⟩ := Option.bind_eq_some_iff.mp e
  obtain ⟨d, g5, e⟩ := Option.map_eq_some_iff.mp e
  cases e
  obtain ⟨a, ws0, ev, _, ha0, _⟩ := c.lstAt (lstS_to g0)
  refine ⟨.ref a, ev, .inl ⟨rfl, ws0, .of ha0⟩, W, Γ, vs, ts, u, Γ1, ⟨O, c⟩, g1, fun y H1 c1 => ?_⟩
  obtain ⟨O1, c1⟩ := c1
  have hu : u = .md (.dat (.int j)) := intT_to g2
  subst hu
  obtain ⟨a', ws, ev', oa, ha, fa⟩ := c1.pop.lstAt (lstS_to g3)
  rw [ev] at ev'
  cases ev'
  have ry : Fz X.K O1 H1 (.int j) y := c1.top
  cases ry
  obtain ⟨z, hz, rz⟩ := fa.get g5
  unfold ixPop at g4
  split at g4
  · rename_i hj
    refine ⟨a, ws, j, k, z, rfl, rfl, ha, hj.1, hj.2, by rw [← fa.length]; exact g4, hz, ?_⟩
    have w := Ev.write (o := .lst (ws.eraseIdx k)) c1.pop.dom oa
    have c2 := c1.pop.relist (ws := ws) (lstS_to g3) ev oa (fa.eraseIdx k)
    exact q _ _ ⟨O1, c2.push (t := .md (.dat d)) (Fz.kp w.k _ _ rz)⟩
  · cases g4
/-- xs[k] = v, a slot's list -/
def fPutIx (i : Nat) (fv fi : FE) : FS := fun Γ => (fv Γ).bind fun p => (frz p.1).bind fun d => (lstS p.2 i).bind fun _ => (fi p.2).bind fun p2 => (intT p2.1).bind fun k => (lstS p2.2 i).bind fun xs => (ixN xs.length k).map fun j => .nx (p2.2.set i (some (.lst (xs.set j d))))
theorem fs_putIx (i : Nat) {x : Str} {px ps : Pos} {v ix : Expr} (hv' : FX X np v fv) (hi' : FX X np ix fi) (hN : X.N[i]? = some x := by rfl) (hv : Vis X.env.scope x := by first | exact Or.inl rfl | exact Or.inr (Or.inl rfl) | exact Or.inr (Or.inr rfl)) (hd : (x == ("__debug__" : Str)) = false := by decide) (hcd : (x == ("__classdict__" : Str)) = false := by decide)
    (h0 : ∀ v, assign (.Subscript (.Name x px) ix ps) X.env v = (do
      let ov ← holding [v] (eval (.Name x px) X.env)
      let iv ← holding [v, ov] (eval ix X.env)
      standAt ps
      holding [v, ov, iv] (setItem ov iv v)
      release [v, ov, iv] []) := by intro _; rfl)
    (hs : swapsWithSole [.Subscript (.Name x px) ix ps] v pos.line X.env = pure false := by rfl) (hw : swappedStores [.Subscript (.Name x px) ix ps] v X.env = pure none := by rfl) (h1 : (assignEach [.Subscript (.Name x px) ix ps] X.env).map (·.2) = [assign (.Subscript (.Name x px) ix ps) X.env] := by rfl) :
    FSX X np (.Assign [.Subscript (.Name x px) ix ps] v pos) (fPutIx i fv fi) := by
  refine PS.weak (ps_asg hv' (pg_sub (pe_var hN hv hd hcd) hi' set_list h0) hs hw h1) fun D σ H h => ?_
  obtain ⟨W, Γ, vs, ds, o, c, e, q⟩ := h
  obtain ⟨⟨t1, Γ1⟩, g1, e⟩ := Option.bind_eq_some_iff.mp e
  obtain ⟨d, g2, e⟩ := Option.bind_eq_some_iff.mp e
  obtain ⟨xs0, g0, e⟩ := Option.bind_eq_some_iff.mp e
  obtain ⟨⟨t2, Γ2⟩, g3, e⟩ := Option.bind_eq_some_iff.mp e
  obtain ⟨k, g4, e⟩ := Option.bind_eq_some_iff.mp e
  obtain ⟨xs, g5, e⟩ := Option.bind_eq_some_iff.mp e
  obtain ⟨j, g6, e⟩ := Option.map_eq_some_iff.mp e
  cases e
  have h1' : t1 = .md (.dat d) := frz_to g2
  subst h1'
  have h2' : t2 = .md (.dat (.int k)) := intT_to g4
  subst h2'
  refine ⟨W, Γ, vs, tsd ds, _, Γ1, c, g1, fun y H1 c1 => ?_⟩
  obtain ⟨O1, c1⟩ := c1
  obtain ⟨a, _, hv0, _, _, _⟩ := c1.lstAt (lstS_to g0)
  refine ⟨.ref a, hv0, W, Γ1, y :: vs, _ :: tsd ds, _, Γ2, ⟨O1, c1⟩, g3, fun z H2 c2 => ?_⟩
  obtain ⟨O2, c2⟩ := c2
  obtain ⟨a', ws, ev, oa, ha, fa⟩ := c2.lstAt (lstS_to g5)
  rw [hv0] at ev
  cases ev
  have rz : Fz X.K O2 H2 (.int k) z := c2.top
  cases rz
  refine ⟨a, ws, k, j, rfl, rfl, ha, by rw [← fa.length]; exact g6, ?_⟩
  exact q σ _ ⟨O2, (c2.pop.pop.relist (ws := ws) (lstS_to g5) hv0 oa (fa.set c2.pop.top j))⟩

/-! ### slices -/
abbrev FO := Gm → Option (Option Int × Gm)
def upO (K : PySem.W.Frag) (np : Nat) (f : FO) : TO := fun σ H Q => ∃ W Γ vs ts o Γ', Cfg K np W σ H Γ vs ts ∧ f Γ = some (o, Γ') ∧ ∀ H', Cfg K np W σ H' Γ' vs ts → Q o H'
def FOX (X : Cx) (np : Nat) (e : Option Expr) (f : FO) : Prop := PO X e (upO X.K np f)
theorem PO.weak {X : Cx} {e : Option Expr} {t t' : TO} (h : PO X e t) (w : ∀ σ H Q, t' σ H Q → t σ H Q) : PO X e t' := ⟨fun pins s σ H Q I q => h.run pins s σ H Q I (w σ H Q q)⟩
def fONo : FO := fun Γ => some (none, Γ)
def fOSo (f : FE) : FO := fun Γ => (f Γ).bind fun p => (intT p.1).map fun i => (some i, p.2)
theorem fo_none : FOX X np none fONo := by
  refine PO.weak po_none fun σ H Q h => ?_
  obtain ⟨W, Γ, vs, ts, o, Γ', c, e, q⟩ := h
  cases e
  exact q H c
theorem fo_some (he : FX X np e f) : FOX X np (some e) (fOSo f) := by
  refine PO.weak (po_some he) fun σ H Q h => ?_
  obtain ⟨W, Γ, vs, ts, o, Γ', c, e, q⟩ := h
  obtain ⟨⟨t, Γ1⟩, e1, e⟩ := Option.bind_eq_some_iff.mp e
  obtain ⟨i, e2, e⟩ := Option.map_eq_some_iff.mp e
  cases e
  have ht : t = .md (.dat (.int i)) := intT_to e2
  subst ht
  refine ⟨W, Γ, vs, ts, _, Γ1, c, e1, fun v H1 c1 => ?_⟩
  obtain ⟨O, c1⟩ := c1
  have r : Fz X.K O H1 (.int i) v := c1.top
  cases r
  exact ⟨i, rfl, q H1 ⟨O, c1.pop⟩⟩
def cutL {α : Type} (xs : List α) (lo hi : Option Int) : List α := (xs.drop (HT.sIx xs.length 0 lo)).take (HT.sIx xs.length xs.length hi - HT.sIx xs.length 0 lo)
theorem FzA.cut {K : PySem.W.Frag} {O : Own} {H : Hp} {ds : List PyData} {vs : List V} (h : FzA K O H ds vs) (lo hi : Option Int) : FzA K O H (cutL ds lo hi) (cutV vs lo hi) := by
  unfold cutL cutV
  rw [h.length]
  exact (h.drop _).take _
def gSl (d : PyData) (lo hi : Option Int) : Option Res := match d with
  | .list ds => some (.new (cutL ds lo hi))
  | .tuple ds => some (.val (.tuple (cutL ds lo hi)))
  | .str z => if z.length ≤ sizeLine then some (.val (.str (cutS z lo hi))) else none
  | _ => none
def dvS (Γ : Gm) : TV → Option PyData
  | .md (.scr ns) => some (.list (ns.map .int))
  | t => dv Γ t
theorem dvS_to {Γ : Gm} {t : TV} {d : PyData} (e : dvS Γ t = some d) : (∃ ns, t = .md (.scr ns) ∧ d = .list (ns.map .int)) ∨ dv Γ t = some d := by
  unfold dvS at e
  split at e
  · cases e
    exact .inl ⟨_, rfl, rfl⟩
  · exact .inr e
def fSlice (ow : Bool) (fa : FE) (lo hi : FO) : FE := fun Γ => (fa Γ).bind fun p => (lo p.2).bind fun p1 => (hi p1.2).bind fun p2 => (dvS p2.2 p.1).bind fun d => (gSl d p1.1 p2.1).map fun r => (r.fin ow, p2.2)
def rSlA3 (K : PySem.W.Frag) : V → Option Int → Option Int → Hp → VK → Prop := fun x lo hi H Q => rSlL K x lo hi H Q ∨ (rSlA K x lo hi H Q ∨ rSlS x lo hi H Q)
theorem cutL_whole {α : Type} {xs : List α} {lo hi : Option Int} (h : HT.sIx xs.length 0 lo = 0 ∧ HT.sIx xs.length xs.length hi = xs.length) : cutL xs lo hi = xs := by
  unfold cutL
  rw [h.1, h.2]
  simp
theorem fx_slice {ow : Bool} {a : Expr} {lo hi : Option Expr} {p2 : Pos} {fa : FE} {fl fh : FO} (ha : FX X np a fa) (hl : FOX X np lo fl) (hh : FOX X np hi fh) : FX X np (.Subscript a (.Slice lo hi none p2) pos) (fSlice ow fa fl fh) := by
  refine PE.weak (pe_slice (SlR.or sl_list (SlR.or sl_tupA sl_str)) ha hl hh) fun σ H Q h => ?_
  obtain ⟨W, Γ, vs, ts, t, Γ', c, e, q⟩ := h
  obtain ⟨⟨t1, Γ1⟩, e1, e⟩ := Option.bind_eq_some_iff.mp e
  obtain ⟨⟨l, Γ2⟩, e2, e⟩ := Option.bind_eq_some_iff.mp e
  obtain ⟨⟨u, Γ3⟩, e3, e⟩ := Option.bind_eq_some_iff.mp e
  obtain ⟨d, e4, e⟩ := Option.bind_eq_some_iff.mp e
  obtain ⟨r, e5, e⟩ := Option.map_eq_some_iff.mp e
  cases e
  refine ⟨W, Γ, vs, ts, t1, Γ1, c, e1, fun x H1 c1 => ⟨W, Γ1, _, _, l, Γ2, c1, e2, fun H2 c2 => ⟨W, Γ2, _, _, u, Γ3, c2, e3, fun H3 c3 => ?_⟩⟩⟩
  obtain ⟨O, c3⟩ := c3
  have fin : ∀ v H', ResOk X.K O H3 r v H' → Q v H' := fun v H' ok => q v H' (c3.pop.res ok)
  have go : Vw X.K O H3 d x → (rSlL X.K x l u H3 Q ∨ (rSlA X.K x l u H3 Q ∨ rSlS x l u H3 Q)) := fun hv => by
    unfold gSl at e5
    split at e5
    · cases e5
      obtain ⟨a, xs, rfl, ha, fa⟩ := hv
      exact .inl ⟨a, xs, rfl, .of ha, fun p hp => okn fin hp (fa.cut l u)⟩
    · cases e5
      have hv' := hv
      obtain ⟨a, xs, rfl, ha, fa⟩ := Fz.sqT hv
      refine .inr (.inl ⟨a, xs, rfl, ha, fun hw => ?_, fun _ p hp => okt c3.dom fin hp (fa.cut l u)⟩)
      rw [← fa.length] at hw
      rw [cutL_whole hw] at fin
      exact okv c3.dom fin hv'
    · split at e5
      · rename_i hz
        cases e5
        cases hv
        exact .inr (.inr ⟨_, rfl, hz, okv c3.dom fin (.str _)⟩)
      · cases e5
    · cases e5
  rcases dvS_to e4 with ⟨ns, ht, hd⟩ | e6
  · have ht' : t1 = .md (.scr ns) := ht
    subst ht'
    subst hd
    cases e5
    obtain ⟨a, rfl, hr⟩ := (show MR X.K O H3 (.tmp ts.length) (.scr ns) x from c3.top)
    have hs : SqL X.K H3 a (ns.map .int) := by
      rcases hr with hr | hr
      · exact .inl hr.1
      · rcases hr with hr | hr
        · rcases hr with hr | ⟨o, hr⟩ <;> cases hr
        · exact .inr hr
    exact .inl ⟨a, _, rfl, hs, fun p hp => okn fin hp ((FzA.ints ns).cut l u)⟩
  · exact go (c3.view c3.top e6)
/-- xs[::-1] -/
def fRevL (ow : Bool) (fa : FE) : FE := fun Γ => (fa Γ).bind fun p => (dv p.2 p.1).bind fun d => match d with
  | .list ds => some ((Res.new ds.reverse).fin ow, p.2)
  | _ => none
theorem fx_revL {ow : Bool} {a : Expr} {k : Nat} {p1 p2 p3 : Pos} {fa : FE} (ha : FX X np a fa) : FX X np (.Subscript a (.Slice none none (some (.UnaryOp .USub (.Constant (.int 1) k p1) p2)) p3) pos) (fRevL ow fa) := by
  refine PE.weak (pe_revL ha) fun σ H Q h => ?_
  obtain ⟨W, Γ, vs, ts, t, Γ', c, e, q⟩ := h
  obtain ⟨⟨t1, Γ1⟩, e1, e⟩ := Option.bind_eq_some_iff.mp e
  obtain ⟨d, e4, e⟩ := Option.bind_eq_some_iff.mp e
  refine ⟨W, Γ, vs, ts, t1, Γ1, c, e1, fun x H1 c1 => ?_⟩
  obtain ⟨O, c1⟩ := c1
  split at e
  · cases e
    obtain ⟨a, xs, rfl, ha, fa⟩ := c1.view c1.top e4
    exact ⟨a, xs, rfl, .of ha, fun p hp => okn (fun v H' ok => q v H' (c1.pop.res ok)) hp fa.reverse⟩
  · cases e
/-- list(range(..)) -/
def rg2Ok (a b : Int) : Bool := decide (-(2 ^ 62) ≤ a ∧ a < 2 ^ 62 ∧ -(2 ^ 62) ≤ b ∧ b < 2 ^ 62 ∧ (b - a).toNat ≤ 2 ^ 24)
theorem rg2Ok_to {a b : Int} (h : rg2Ok a b = true) : RgOk a b := by
  have h' := dec1 h
  exact h'
theorem rangeV {K : PySem.W.Frag} {O : Own} {H : Hp} (a b : Int) : FzA K O H (rangeD a (b - a).toNat) (rgV a b) := by
  unfold rangeD rgV
  generalize (b - a).toNat = n
  have : ∀ l : List Nat, FzA K O H (l.map fun (i : Nat) => PyData.int (a + i)) (l.map fun i => V.int (a + (i : Nat))) := by
    intro l
    induction l with
    | nil => exact .nil
    | cons i l ih => exact .cons (.int _) ih
  exact this _
def rgA (n : Int) : Option (List PyData) := @ite _ (rg2Ok 0 n = true) (Classical.propDecidable _) (some (rangeD 0 n.toNat)) none
def rgB (i j : Int) : Option (List PyData) := @ite _ (rg2Ok i j = true) (Classical.propDecidable _) (some (rangeD i (j - i).toNat)) none
theorem rgA_to {j : Int} {l : List PyData} (h : rgA j = some l) : rg2Ok 0 j = true ∧ l = rangeD 0 j.toNat := by
  unfold rgA at h
  split at h
  · rename_i h1
    exact ⟨h1, (Option.some.inj h).symm⟩
  · cases h
theorem rgB_to {i j : Int} {l : List PyData} (h : rgB i j = some l) : rg2Ok i j = true ∧ l = rangeD i (j - i).toNat := by
  unfold rgB at h
  split at h
  · rename_i h1
    exact ⟨h1, (Option.some.inj h).symm⟩
  · cases h
def fListR1 (ow : Bool) (f : FE) : FE := fun Γ => (f Γ).bind fun p => (intT p.1).bind fun n => (rgA n).map fun l => ((Res.new l).fin ow, p.2)
theorem fx_listR1 {ow : Bool} {a : Expr} {p pr pc : Pos} {fa : FE} (hc : X.calm = true) (ml : X.mg "list" = none) (mr : X.mg "range" = none) (ha : FX X np a fa) (gl : Gl X "list" := by rfl) (gr : Gl X "range" := by rfl)
    (n1 : starEach [a] X.env = (false, eval a X.env) :: starEach [] X.env := by rfl) (n2 : starEach [.Call (.Name "range" pr) [a] [] pc] X.env = (false, eval (.Call (.Name "range" pr) [a] [] pc) X.env) :: starEach [] X.env := by rfl) :
    FX X np (.Call (.Name "list" p) [.Call (.Name "range" pr) [a] [] pc] [] pos) (fListR1 ow fa) := by
  refine PE.weak (pe_listRg hc gl ml (prg_1 gr mr ha n1) n2) fun σ H Q h => ?_
  obtain ⟨W, Γ, vs, ts, t, Γ', c, e, q⟩ := h
  obtain ⟨⟨t1, Γ1⟩, e1, e⟩ := Option.bind_eq_some_iff.mp e
  obtain ⟨n, e2, e⟩ := Option.bind_eq_some_iff.mp e
  obtain ⟨l, e3, e4⟩ := Option.map_eq_some_iff.mp e
  cases e4
  have ht : t1 = .md (.dat (.int n)) := intT_to e2
  subst ht
  obtain ⟨hn, el⟩ := rgA_to e3
  subst el
  refine ⟨W, Γ, vs, ts, _, Γ1, c, e1, fun x H1 c1 => ?_⟩
  obtain ⟨O, c1⟩ := c1
  have r : Fz X.K O H1 (.int n) x := c1.top
  cases r
  refine ⟨n, rfl, rg2Ok_to hn, fun p hp => ?_⟩
  have := rangeV (K := X.K) (O := O) (H := H1) 0 n
  rw [Int.sub_zero] at this
  exact okn (fun v H' ok => q v H' (c1.pop.res ok)) hp this
/-! ### isinstance -/
def tyN : PyData → String
  | .none => "NoneType"
  | .bool _ => "bool"
  | .int _ => "int"
  | .str _ => "str"
  | .list _ => "list"
  | .tuple _ => "tuple"
  | .dict _ => "dict"
def fIsi (T : String) (f : FE) : FE := fun Γ => (f Γ).bind fun p => (dv p.2 p.1).bind fun d => (kitB (tyN d) T).map fun b => (.md (.dat (.bool b)), p.2)
theorem Vw.ty {K : PySem.W.Frag} {O : Own} {H : Hp} {d : PyData} {v : V} (h : Vw K O H d v) : TyX K H v (.type (tyN d)) := by
  cases d with
  | none => cases h; exact .base .non
  | bool b => cases h; exact .base (.bl b)
  | int i => cases h; exact .base (.int i)
  | str x => cases h; exact .base (.str x)
  | list ds =>
    obtain ⟨a, xs, rfl, ha, _⟩ := h
    exact .base (.lst ha)
  | tuple ds =>
    have h' : Fz K O H (.tuple ds) v := h
    cases h' with
    | tup hr n ha =>
      rcases hr with hr | ⟨o, hr⟩
      · exact .base (.tup hr)
      · exact .fTuple hr
    | tupK hr ha =>
      rcases hr with hr | hr
      · rcases hr with hr | ⟨o, hr⟩ <;> cases hr
      · obtain ⟨o, its, n, h1, h2, _⟩ := hr
        exact .kTuple h1 h2
  | dict ds =>
    have h' : Fz K O H (.dict ds) v := h
    cases h' with
    | dct hr n ha => exact .fDict hr
theorem fx_isi {T : String} {x : Str} {p pt : Pos} {fa : FE} {a : Expr} (hm : X.mg "isinstance" = none) (mt : X.mg x = none) (ha : FX X np a fa) (hb : bootBuiltins x = some (.type T) := by decide +kernel) (gi : Gl X "isinstance" := by rfl) (gt : Gl X x := by rfl) (hn : x ≠ "__name__" := by decide) (hd : (x == ("__debug__" : Str)) = false := by decide)
    (hv : bootBuiltins "isinstance" = some (.builtin "isinstance") := by decide +kernel)
    (n1 : starEach [a, .Name x pt] X.env = (false, eval a X.env) :: starEach [.Name x pt] X.env := by rfl) (n2 : starEach [.Name x pt] X.env = (false, eval (.Name x pt) X.env) :: starEach [] X.env := by rfl) (hpl : (backTo pos (starEach [.Name x pt] X.env)).any (·.1) = false := by rfl) :
    FX X np (.Call (.Name "isinstance" p) [a, .Name x pt] [] pos) (fIsi T fa) := by
  refine PE.weak (pe_callB call_isi gi hm hv (pa_cons ha (pa_cons (pe_bltn (v := .ty T) gt mt hb rfl hn hd) pa_nil n2) n1) (by decide) (by decide) n1 hpl) fun σ H Q h => ?_
  obtain ⟨W, Γ, vs, ts, t, Γ', c, e, q⟩ := h
  obtain ⟨⟨t1, Γ1⟩, e1, e⟩ := Option.bind_eq_some_iff.mp e
  obtain ⟨d, e2, e⟩ := Option.bind_eq_some_iff.mp e
  obtain ⟨b, e3, e⟩ := Option.map_eq_some_iff.mp e
  cases e
  refine ⟨W, Γ, vs, ts, t1, Γ1, c, e1, fun v H1 c1 => ?_⟩
  obtain ⟨O, c1⟩ := c1
  exact ⟨v, .ty T, _, _, b, rfl, .ty T, (c1.view c1.top e2).ty, kit_ty e3, q _ _ ⟨O, c1.pop.push (.bl b)⟩⟩
/-! ### two or three names at once -/
def fPar2 (np i j : Nat) (fa fb : FE) : FS := fun Γ => (fa Γ).bind fun p => (fb p.2).bind fun p2 => match p.1, p2.1 with
  | .md m, .md m' => if (m.own = true ∧ i < np) ∨ (m'.own = true ∧ j < np) then none else some (.nx ((p2.2.set j (some m')).set i (some m)))
  | _, _ => none
theorem fs_par2 {i j : Nat} {x y : Str} {a b : Expr} {px py pt : Pos} {kt k2 pt2} {fa fb : FE} (hc : X.calm = true) (hN : X.N.Nodup) (ha : FX X np a fa) (hb : FX X np b fb) (hi : X.N[i]? = some x := by rfl) (hj : X.N[j]? = some y := by rfl) (hij : i ≠ j := by decide)
    (hx : X.env.scope.names.lookup x = some .local := by rfl) (hy : X.env.scope.names.lookup y = some .local := by rfl)
    (n1 : starEach [a, b] X.env = (false, eval a X.env) :: starEach [b] X.env := by rfl) (n2 : starEach [b] X.env = (false, eval b X.env) :: starEach [] X.env := by rfl)
    (hw : swappedStores [.Tuple [.Name x px, .Name y py] kt pt] (.Tuple [a, b] k2 pt2) X.env = pure (some [x, y]) := by rfl)
    (hs : swapsWithSole [.Tuple [.Name x px, .Name y py] kt pt] (.Tuple [a, b] k2 pt2) pos.line X.env = pure false := by rfl) :
    FSX X np (.Assign [.Tuple [.Name x px, .Name y py] kt pt] (.Tuple [a, b] k2 pt2) pos) (fPar2 np i j fa fb) := by
  refine PS.weak (ps_par hc hN hi hj hij hx hy (pa_cons ha (pa_cons hb pa_nil n2) n1) hw hs) fun D σ H h => ?_
  obtain ⟨W, Γ, vs, ds, o, c, e, q⟩ := h
  obtain ⟨⟨t1, Γ1⟩, e1, e⟩ := Option.bind_eq_some_iff.mp e
  obtain ⟨⟨t2, Γ2⟩, e2, e⟩ := Option.bind_eq_some_iff.mp e
  refine ⟨W, Γ, vs, tsd ds, t1, Γ1, c, e1, fun v H1 c1 => ⟨W, Γ1, v :: vs, t1 :: tsd ds, t2, Γ2, c1, e2, fun w H2 c2 => ?_⟩⟩
  cases t1 with
  | al k => cases e
  | md m =>
    cases t2 with
    | al k => cases e
    | md m' =>
      dsimp only at e
      split at e
      · cases e
      · rename_i hno
        cases e
        obtain ⟨O, c2⟩ := c2
        refine ⟨v, w, rfl, ?_⟩
        obtain ⟨O3, c3⟩ := c2.storeT (ts := .md m :: tsd ds) (noAl_tsd ds) (fun z => hno (.inr z))
        have c4 := c3.store (fun z => hno (.inl z))
        rw [List.set_comm _ _ hij]
        exact q _ _ c4
end
end Fx

end

/-! Fx11: the bag of draws: [cells, digits, mixed] -/
noncomputable section
namespace Fx
open PySem PySem.Spec PyProof.Rows L2

section
variable {K : PySem.W.Frag} {np : Nat} {W : Wd} {O O' : Own} {σ σ' : L2.St} {H H' : Hp} {Γ Γ' : Gm} {vs : List V} {ts : List TV}
theorem canLay_ints : ∀ (ns : List Int), PyData.canLayAll0 (ns.map .int) = true
  | [] => rfl
  | n :: ns => by
    show (PyData.canLay0 (.int n) && PyData.canLayAll0 (ns.map .int)) = true
    rw [canLay_ints ns]
    rfl
theorem depth_ints : ∀ (ns : List Int), PyData.depthAll (ns.map .int) = 0
  | [] => rfl
  | n :: ns => by
    show max (PyData.depth (.int n)) (PyData.depthAll (ns.map .int)) = 0
    rw [depth_ints ns]
    rfl
theorem shaped_ints (ns : List Int) : SeqAt.shaped (.list (ns.map .int)) = true := by
  unfold SeqAt.shaped
  rw [show PyData.canLay0 (.list (ns.map .int)) = PyData.canLayAll0 (ns.map .int) from rfl, canLay_ints, show PyData.depth (.list (ns.map .int)) = PyData.depthAll (ns.map .int) + 1 from rfl, depth_ints]
  rfl
theorem dpAll_ints : ∀ (ns : List Int), DpAll K H (ns.map V.int) (ns.map .int)
  | [] => .nil
  | n :: ns => .cons (.int n) (dpAll_ints ns)
theorem eqv_nil (ns : List Int) : PyData.eqv (.list (ns.map .int)) (.list []) = ns.isEmpty := by
  cases ns <;> rfl
def bagS (Γ : Gm) (i : Nat) : Option (List Int × Int × Int) := match Γ[i]? with
  | some (some (.bag c b m)) => some (c, b, m)
  | _ => none
theorem bagS_to {i : Nat} {c : List Int} {b m : Int} (e : bagS Γ i = some (c, b, m)) : Γ[i]? = some (some (.bag c b m)) := by
  unfold bagS at e
  split at e
  · rename_i h
    cases e
    exact h
  · cases e
theorem Cf.bagAt {i : Nat} {c : List Int} {b m : Int} (g : Cf K np W O σ H Γ vs ts) (hi : Γ[i]? = some (some (.bag c b m))) :
    ∃ x y, σ[i]? = some (some (.ref x)) ∧ x ≠ y ∧ O x = some (.slot i) ∧ O y = some (.slot i) ∧ H x = some (.lst [.ref y, .int b, .int m]) ∧ H y = some (.lst (c.map .int)) := by
  obtain ⟨v, e, x, y, rfl, ne, ox, oy, hx, hy⟩ := g.sl i _ hi
  exact ⟨x, y, e, ne, ox, oy, hx, hy⟩
end
section
variable {X : Cx} {np : Nat} {pos : Pos} {e : Expr} {f : FE}
/-- bag[1], bag[2] -/
def fBagIx (i : Nat) (k : Int) : FE := fun Γ => (bagS Γ i).bind fun p => if k = 1 then some (.md (.dat (.int p.2.1)), Γ) else if k = 2 then some (.md (.dat (.int p.2.2)), Γ) else none
theorem fx_bagIx (i : Nat) {k : Int} {x : Str} {px pk : Pos} {j} (hN : X.N[i]? = some x := by rfl) (hv : Vis X.env.scope x := by first | exact Or.inl rfl | exact Or.inr (Or.inl rfl) | exact Or.inr (Or.inr rfl)) (hd : (x == ("__debug__" : Str)) = false := by decide) (hcd : (x == ("__classdict__" : Str)) = false := by decide)
    (hs : PlainIx (.Constant (.int k) j pk) := by intro _ _; rfl) : FX X np (.Subscript (.Name x px) (.Constant (.int k) j pk) pos) (fBagIx i k) := by
  refine PE.weak (pe_ix ix_list (pe_var hN hv hd hcd) pe_int hs) fun σ H Q h => ?_
  obtain ⟨W, Γ, vs, ts, t, Γ', ⟨O, c⟩, e, q⟩ := h
  obtain ⟨⟨cs, b, m⟩, e1, e⟩ := Option.bind_eq_some_iff.mp e
  obtain ⟨a, y, ev, ne, oa, oy, ha, hy⟩ := c.bagAt (bagS_to e1)
  refine ⟨.ref a, ev, a, [.ref y, .int b, .int m], k, ?_⟩
  dsimp only at e
  split at e
  · rename_i hk
    cases e
    subst hk
    exact ⟨_, rfl, rfl, .of ha, rfl, q _ H ⟨O, c.push (t := .md (.dat (.int b))) (.int b)⟩⟩
  · split at e
    · rename_i hk
      cases e
      subst hk
      exact ⟨_, rfl, rfl, .of ha, rfl, q _ H ⟨O, c.push (t := .md (.dat (.int m))) (.int m)⟩⟩
    · cases e
/-- bag[0] != [] -/
def fBagNe (i : Nat) : FE := fun Γ => (bagS Γ i).map fun p => (.md (.dat (.bool (!p.1.isEmpty))), Γ)
theorem bagNe_read {i : Nat} {σ : L2.St} {H : Hp} {Q : VK} (h : up X.K np (fBagNe i) σ H Q) : tOp (rNeD X.K) (tOp (rIxL X.K) (tVar i) (tC (.int 0))) (tLst tNil) σ H Q := by
  obtain ⟨W, Γ, vs, ts, t, Γ', ⟨O, c⟩, e, q⟩ := h
  obtain ⟨⟨cs, b, m⟩, e1, e⟩ := Option.map_eq_some_iff.mp e
  cases e
  obtain ⟨a, y, ev, ne, oa, oy, ha, hy⟩ := c.bagAt (bagS_to e1)
  refine ⟨.ref a, ev, a, _, 0, .ref y, rfl, rfl, .of ha, rfl, Nat.zero_le _, fun p hp => ?_⟩
  have n := Ev.new (o := .lst []) c.dom hp
  have yp : y ≠ p := ne_of_none hy hp
  refine ⟨.list (cs.map .int), .list [], .lst (.of (by rw [upd_ne yp]; exact hy)) (dpAll_ints cs), .lst (.of upd_same) .nil, shaped_ints cs, rfl, ?_⟩
  rw [eqv_nil]
  exact q _ _ ⟨O, (c.ev0 n).push (t := .md (.dat (.bool (!cs.isEmpty)))) (.bl _)⟩
theorem fx_bagNe (i : Nat) {x : Str} {px pk ps pl : Pos} {j} (hu : X.A.units + 64 < cLine) (hN : X.N[i]? = some x := by rfl) (hv : Vis X.env.scope x := by first | exact Or.inl rfl | exact Or.inr (Or.inl rfl) | exact Or.inr (Or.inr rfl)) (hd : (x == ("__debug__" : Str)) = false := by decide) (hcd : (x == ("__classdict__" : Str)) = false := by decide)
    (hs : PlainIx (.Constant (.int 0) j pk) := by intro _ _; rfl) : FX X np (.Compare (.Subscript (.Name x px) (.Constant (.int 0) j pk) ps) [.NotEq] [.List [] pl] pos) (fBagNe i) :=
  PE.weak (pe_cmpR (op_neD hu) (pe_ix ix_list (pe_var hN hv hd hcd) pe_int hs) (pe_lst pa_nil) (nomark _)) fun _ _ _ h => bagNe_read h
theorem ft_bagNe (i : Nat) {x : Str} {px pk ps pl : Pos} {j} (hu : X.A.units + 64 < cLine) (hN : X.N[i]? = some x := by rfl) (hv : Vis X.env.scope x := by first | exact Or.inl rfl | exact Or.inr (Or.inl rfl) | exact Or.inr (Or.inr rfl)) (hd : (x == ("__debug__" : Str)) = false := by decide) (hcd : (x == ("__classdict__" : Str)) = false := by decide)
    (hs : PlainIx (.Constant (.int 0) j pk) := by intro _ _; rfl) : FTX X np (.Compare (.Subscript (.Name x px) (.Constant (.int 0) j pk) ps) [.NotEq] [.List [] pl] pos) (fT (fBagNe i)) := by
  refine PT.weak (pt_cmpR (op_neD hu) (pe_ix ix_list (pe_var hN hv hd hcd) pe_int hs) (pe_lst pa_nil) (nomark _)) fun σ H Q h => ?_
  exact bagNe_read (np := np) (asTest h)
/-- bag[0].pop() -/
def fBagPop (i : Nat) : FE := fun Γ => (bagS Γ i).bind fun p => p.1[p.1.length - 1]?.map fun n => (.md (.dat (.int n)), Γ.set i (some (.bag p.1.dropLast p.2.1 p.2.2)))
theorem fx_bagPop (i : Nat) {x : Str} {px pk ps pa : Pos} {j} (hN : X.N[i]? = some x := by rfl) (hv : Vis X.env.scope x := by first | exact Or.inl rfl | exact Or.inr (Or.inl rfl) | exact Or.inr (Or.inr rfl)) (hd : (x == ("__debug__" : Str)) = false := by decide) (hcd : (x == ("__classdict__" : Str)) = false := by decide)
    (hs : PlainIx (.Constant (.int 0) j pk) := by intro _ _; rfl) (h1 : attributeBase (.Subscript (.Name x px) (.Constant (.int 0) j pk) ps) "pop" X.env (eval (.Subscript (.Name x px) (.Constant (.int 0) j pk) ps) X.env) = eval (.Subscript (.Name x px) (.Constant (.int 0) j pk) ps) X.env := by rfl)
    (h3 : (pa.endLine == pos.line) = true := by rfl) : FX X np (.Call (.Attribute (.Subscript (.Name x px) (.Constant (.int 0) j pk) ps) "pop" pa) [] [] pos) (fBagPop i) := by
  refine PE.weak (pe_bm0 PySem.F.plainAttrs_list PySem.F.slot_list_pop PySem.F.type_list_pop mt_pop (pe_ix ix_list (pe_var hN hv hd hcd) pe_int hs) h1 h3) fun σ H Q h => ?_
  obtain ⟨W, Γ, vs, ts, t, Γ', ⟨O, c⟩, e, q⟩ := h
  obtain ⟨⟨cs, b, m⟩, e1, e⟩ := Option.bind_eq_some_iff.mp e
  obtain ⟨n, e2, e⟩ := Option.map_eq_some_iff.mp e
  cases e
  obtain ⟨a, y, ev, ne, oa, oy, ha, hy⟩ := c.bagAt (bagS_to e1)
  refine ⟨.ref a, ev, a, _, 0, .ref y, rfl, rfl, .of ha, rfl, .inl ⟨rfl, _, .of hy⟩, y, _, .int n, rfl, rfl, hy, ?_, ?_⟩
  · rw [List.length_map, List.getElem?_map, e2]
    rfl
  have w := Ev.write (o := .lst (cs.map V.int).dropLast) c.dom oy
  have c2 := c.mutS (m' := .bag cs.dropLast b m) (v := .ref a) (bagS_to e1) rfl w ev ⟨a, y, rfl, ne, oa, oy, by rw [upd_ne ne]; exact ha, by rw [upd_same, List.map_dropLast]⟩ rfl
  exact q _ _ ⟨O, c2.push (t := .md (.dat (.int n))) (.int n)⟩
/-- bag[1] = e, bag[2] = e -/
def fBagPut (i : Nat) (k : Int) (f : FE) : FS := fun Γ => (f Γ).bind fun p => (intT p.1).bind fun n => (bagS p.2 i).bind fun b => if k = 1 then some (.nx (p.2.set i (some (.bag b.1 n b.2.2)))) else if k = 2 then some (.nx (p.2.set i (some (.bag b.1 b.2.1 n)))) else none
theorem fs_bagPut (i : Nat) {k : Int} {x : Str} {px ps pk : Pos} {v : Expr} {j} (hv' : FX X np v f) (hN : X.N[i]? = some x := by rfl) (hv : Vis X.env.scope x := by first | exact Or.inl rfl | exact Or.inr (Or.inl rfl) | exact Or.inr (Or.inr rfl)) (hd : (x == ("__debug__" : Str)) = false := by decide) (hcd : (x == ("__classdict__" : Str)) = false := by decide)
    (h0 : ∀ v, assign (.Subscript (.Name x px) (.Constant (.int k) j pk) ps) X.env v = (do
      let ov ← holding [v] (eval (.Name x px) X.env)
      let iv ← holding [v, ov] (eval (.Constant (.int k) j pk) X.env)
      standAt ps
      holding [v, ov, iv] (setItem ov iv v)
      release [v, ov, iv] []) := by intro _; rfl)
    (hs : swapsWithSole [.Subscript (.Name x px) (.Constant (.int k) j pk) ps] v pos.line X.env = pure false := by rfl) (hw : swappedStores [.Subscript (.Name x px) (.Constant (.int k) j pk) ps] v X.env = pure none := by rfl)
    (h1 : (assignEach [.Subscript (.Name x px) (.Constant (.int k) j pk) ps] X.env).map (·.2) = [assign (.Subscript (.Name x px) (.Constant (.int k) j pk) ps) X.env] := by rfl) :
    FSX X np (.Assign [.Subscript (.Name x px) (.Constant (.int k) j pk) ps] v pos) (fBagPut i k f) := by
  refine PS.weak (ps_asg hv' (pg_sub (pe_var hN hv hd hcd) pe_int set_list h0) hs hw h1) fun D σ H h => ?_
  obtain ⟨W, Γ, vs, ds, o, c, e, q⟩ := h
  obtain ⟨⟨t1, Γ1⟩, g1, e⟩ := Option.bind_eq_some_iff.mp e
  obtain ⟨n, g2, e⟩ := Option.bind_eq_some_iff.mp e
  obtain ⟨⟨cs, b, m⟩, g3, e⟩ := Option.bind_eq_some_iff.mp e
  have h1' : t1 = .md (.dat (.int n)) := intT_to g2
  subst h1'
  refine ⟨W, Γ, vs, tsd ds, _, Γ1, c, g1, fun z H1 c1 => ?_⟩
  obtain ⟨O, c1⟩ := c1
  obtain ⟨a, y, ev, ne, oa, oy, ha, hy⟩ := c1.bagAt (bagS_to g3)
  have rz : Fz X.K O H1 (.int n) z := c1.top
  cases rz
  refine ⟨.ref a, ev, a, [.ref y, .int b, .int m], k, ?_⟩
  dsimp only at e
  split at e
  · rename_i hk
    cases e
    subst hk
    refine ⟨1, rfl, rfl, ha, rfl, ?_⟩
    have w := Ev.write (o := .lst [.ref y, .int n, .int m]) c1.dom oa
    exact q _ _ ⟨O, (c1.pop.mutS (m' := .bag cs n m) (v := .ref a) (bagS_to g3) rfl w ev ⟨a, y, rfl, ne, oa, oy, upd_same, by rw [upd_ne ne.symm]; exact hy⟩ rfl)⟩
  · split at e
    · rename_i hk
      cases e
      subst hk
      refine ⟨2, rfl, rfl, ha, rfl, ?_⟩
      have w := Ev.write (o := .lst [.ref y, .int b, .int n]) c1.dom oa
      exact q _ _ ⟨O, (c1.pop.mutS (m' := .bag cs b n) (v := .ref a) (bagS_to g3) rfl w ev ⟨a, y, rfl, ne, oa, oy, upd_same, by rw [upd_ne ne.symm]; exact hy⟩ rfl)⟩
    · cases e
/-- [cells, b, m], the cells a new list of whole numbers -/
def fMkBag (fa fb fc : FE) : FE := fun Γ => (fa Γ).bind fun p => (fb p.2).bind fun p2 => (fc p2.2).bind fun p3 => (intT p2.1).bind fun b => (intT p3.1).bind fun m => match p.1 with
  | .md (.lst ds) => (intsOf ds).map fun ns => (.md (.bag ns b m), p3.2)
  | _ => none
theorem fx_mkBag {a b c : Expr} {fa fb fc : FE} (ha : FX X np a fa) (hb : FX X np b fb) (hc : FX X np c fc) (n1 : starEach [a, b, c] X.env = (false, eval a X.env) :: starEach [b, c] X.env := by rfl) (n2 : starEach [b, c] X.env = (false, eval b X.env) :: starEach [c] X.env := by rfl)
    (n3 : starEach [c] X.env = (false, eval c X.env) :: starEach [] X.env := by rfl) : FX X np (.List [a, b, c] pos) (fMkBag fa fb fc) := by
  refine PE.weak (pe_lst (pa_cons ha (pa_cons hb (pa_cons hc pa_nil n3) n2) n1)) fun σ H Q h => ?_
  obtain ⟨W, Γ, vs, ts, t, Γ', c, e, q⟩ := h
  obtain ⟨⟨t1, Γ1⟩, e1, e⟩ := Option.bind_eq_some_iff.mp e
  obtain ⟨⟨t2, Γ2⟩, e2, e⟩ := Option.bind_eq_some_iff.mp e
  obtain ⟨⟨t3, Γ3⟩, e3, e⟩ := Option.bind_eq_some_iff.mp e
  obtain ⟨b, e4, e⟩ := Option.bind_eq_some_iff.mp e
  obtain ⟨m, e5, e⟩ := Option.bind_eq_some_iff.mp e
  have h2 : t2 = .md (.dat (.int b)) := intT_to e4
  subst h2
  have h3 : t3 = .md (.dat (.int m)) := intT_to e5
  subst h3
  refine ⟨W, Γ, vs, ts, t1, Γ1, c, e1, fun x H1 c1 => ⟨W, Γ1, _, _, _, Γ2, c1, e2, fun y H2 c2 => ⟨W, Γ2, _, _, _, Γ3, c2, e3, fun z H3 c3 => ?_⟩⟩⟩
  cases t1 with
  | al k => cases e
  | md md =>
    cases md with
    | lst ds =>
      obtain ⟨ns, e6, e⟩ := Option.map_eq_some_iff.mp e
      cases e
      obtain ⟨O, c3⟩ := c3
      have rz : Fz X.K O H3 (.int m) z := c3.top
      have ry : Fz X.K O H3 (.int b) y := c3.pop.top
      cases rz
      cases ry
      obtain ⟨a, ws, rfl, oa, ha', fa'⟩ := (show MR X.K O H3 (.tmp ts.length) (.lst ds) x from c3.pop.pop.top)
      rw [intsOf_to e6] at fa'
      rw [fa'.intsV] at ha'
      refine ⟨by show 3 ≤ sizeLine; decide, fun p hp => ?_⟩
      have n := Ev.newOwn (o := .lst [.ref a, .int b, .int m]) (t := .tmp ts.length) (by simp) c3.dom hp
      have ap : a ≠ p := ne_of_none ha' hp
      exact q _ _ ⟨_, (c3.pop.pop.pop.ev0 n).push (t := .md (.bag ns b m)) ⟨p, a, rfl, ap.symm, put_same, by rw [put_ne ap]; exact oa, upd_same, by rw [upd_ne ap]; exact ha'⟩⟩
    | _ => cases e
end
end Fx

end

/-! Fx12: defs of the text, calls by place and by names, unpacking, chains -/
noncomputable section
namespace Fx
open PySem PySem.Spec PyProof.Rows L2

/-- a def of the text that keeps its meaning F, at level j -/
structure Def (P : Program) (w : World) (K : PySem.W.Frag) (mg : Str → Option Value) (base : Heap) (j : Nat) (x : Str) (st : Stmt) (ps : List Str) (F : FF) : Prop where
  ex : ∃ f fd, Fun K x x st f fd ∧ FnG P w K mg base j f fd ps (spF K F) ∧ mg x = some (.ref f)
  bd : ∀ (kV doc pm : Value) (an : Option Addr) (cdv ct : Value) (us : List Value), us.length = ps.length → bindArgs (PySem.W.fnOf x x (defArgs st) (defBody st) (defScope st) .none kV doc pm an cdv ct) ⟨us, []⟩ = pure (ps.zip us)
def At (K : PySem.W.Frag) (mg : Str → Option Value) (x : Str) (st : Stmt) : Prop := ∃ f fd, Fun K x x st f fd ∧ mg x = some (.ref f)
theorem def_ok {P : Program} {w : World} {K : PySem.W.Frag} {mg : Str → Option Value} {base : Heap} {x : Str} {st : Stmt} {ps N : List Str} {g : FS} (k : Nat) (E : At K mg x st) (S : FnScope N ps (defScope st))
    (bd : ∀ (kV doc pm : Value) (an : Option Addr) (cdv ct : Value) (us : List Value), us.length = ps.length → bindArgs (PySem.W.fnOf x x (defArgs st) (defBody st) (defScope st) .none kV doc pm an cdv ct) ⟨us, []⟩ = pure (ps.zip us))
    (hbody : ∀ (f : Addr) (cdv : Value) (A : Around) (outer : List Env) (s : Shared) (H : Hp) (E : XK), RoomG k (A.deeper (envOfC x (defScope st) s.heap.objs.size f cdv)) →
      FSsX (cxOf CX0 P w K mg base N x (defScope st) f cdv A outer s H E).nox ps.length (defBody st) g) : Def P w K mg base (k + 1) x st ps (fnOf ps.length N.length g) := by
  obtain ⟨f, fd, F, hm⟩ := E
  exact ⟨⟨f, fd, F, fn_ok F S fun cdv A outer s H Q E hr => hbody f cdv A outer s H E hr, hm⟩, bd⟩
theorem Def.mono {P : Program} {w : World} {K : PySem.W.Frag} {mg : Str → Option Value} {base : Heap} {i j : Nat} {x : Str} {st : Stmt} {ps : List Str} {F : FF} (D : Def P w K mg base i x st ps F) (h : i ≤ j) : Def P w K mg base j x st ps F := by
  obtain ⟨⟨f, fd, a, b, c⟩, d⟩ := D
  exact ⟨⟨f, fd, a, b.mono h, c⟩, d⟩
theorem Def.imp {P : Program} {w : World} {K : PySem.W.Frag} {mg : Str → Option Value} {base : Heap} {i : Nat} {x : Str} {st : Stmt} {ps : List Str} {F G : FF} (D : Def P w K mg base i x st ps F) (h : ∀ ms r, G ms = some r → F ms = some r) : Def P w K mg base i x st ps G := by
  obtain ⟨⟨f, fd, a, b, c⟩, d⟩ := D
  refine ⟨⟨f, fd, a, b.imp fun vs H Q E q => ?_, c⟩, d⟩
  obtain ⟨O, ms, r, ms', q1, q2, q3, q4, q5, q6⟩ := q
  exact ⟨O, ms, r, ms', q1, q2, q3, q4, h _ _ q5, q6⟩

section
variable {X : Cx} {np k : Nat} {st : Stmt} {ps ks : List Str} {x : Str} {p pos : Pos} {e : Expr} {es : List Expr} {F : FF} {fs fk : FA} {kws : List Keyword}
theorem fx_callD (D : Def X.prog X.w X.K X.mg X.base k x st ps F) (hr : RoomG k X.A) (ha : FAX X np (e :: es) fs) (hg : Gl X x := by rfl) (hdb : (x == ("__debug__" : Str)) = false := by decide) (he : starEach (e :: es) X.env = (false, eval e X.env) :: starEach es X.env := by rfl) (hpl : (backTo pos (starEach es X.env)).any (·.1) = false := by rfl) :
    FX X np (.Call (.Name x p) (e :: es) [] pos) (fCall F fs) := by
  obtain ⟨⟨f, fd, Fn, G, hm⟩, bd⟩ := D
  exact fx_call G hr hm Fn.kp (Fn.binds bd) ha hg hdb he hpl

/-- keywords -/
def FKX (X : Cx) (np : Nat) (ks : List Keyword) (f : FA) : Prop := PK X ks (upA X.K np f)
theorem PK.weak {X : Cx} {e : List Keyword} {t t' : TA} (h : PK X e t) (w : ∀ σ H Q, t' σ H Q → t σ H Q) : PK X e t' := ⟨fun pos pins s σ H Q I q => h.run pos pins s σ H Q I (w σ H Q q)⟩
theorem fk_nil : FKX X np [] fANil := by
  refine PK.weak pk_nil fun σ H Q h => ?_
  obtain ⟨W, Γ, vs, ts, us, Γ', c, e, q⟩ := h
  cases e
  exact q [] H c rfl
theorem fk_cons {fa : FE} {nm : Option Str} {kp : Pos} (ha : FX X np e fa) (hr : FKX X np kws fs) : FKX X np (⟨nm, e, kp⟩ :: kws) (fACons fa fs) := by
  refine PK.weak (pk_cons ha hr) fun σ H Q h => ?_
  obtain ⟨W, Γ, vs, ts, us, Γ', c, e, q⟩ := h
  obtain ⟨⟨t1, Γ1⟩, e1, e⟩ := Option.bind_eq_some_iff.mp e
  obtain ⟨⟨us', Γ2⟩, e2, e⟩ := Option.map_eq_some_iff.mp e
  cases e
  refine ⟨W, Γ, vs, ts, t1, Γ1, c, e1, fun x H1 c1 => ⟨W, Γ1, x :: vs, t1 :: ts, us', Γ2, c1, e2, fun xs H2 c2 hl => q (x :: xs) H2 ?_ (by simp [hl])⟩⟩
  rw [List.reverse_cons, List.reverse_cons, List.append_assoc, List.append_assoc]
  exact c2
def gK (n m : Nat) (js : List Nat) (us ws : List Value) : List Value := if us.length = n ∧ ws.length = m then js.map fun j => (us ++ ws).getD j .none else []
def gKV (n m : Nat) (js : List Nat) (us ws : List V) : List V := if us.length = n ∧ ws.length = m then js.map fun j => (us ++ ws).getD j .non else []
theorem vals_getD {xs : List V} {us : List Value} (r : Vals xs us) (j : Nat) : RelV (xs.getD j .non) (us.getD j .none) := by
  rw [List.getD_eq_getElem?_getD, List.getD_eq_getElem?_getD]
  cases h : xs[j]? with
  | none =>
    rw [r.none_of h]
    rfl
  | some x =>
    obtain ⟨u, e, q⟩ := r.get h
    rw [e]
    exact q
theorem gK_rel {n m : Nat} {js : List Nat} {vs zs : List V} {us ws : List Value} (r : Vals vs us) (r' : Vals zs ws) : Vals (gKV n m js vs zs) (gK n m js us ws) := by
  unfold gKV gK
  rw [r.length, r'.length]
  split
  · have : ∀ js : List Nat, Vals (js.map fun j => (vs ++ zs).getD j .non) (js.map fun j => (us ++ ws).getD j .none) := by
      intro js
      induction js with
      | nil => exact .nil
      | cons j js ih => exact .cons (vals_getD (r.append r') j) ih
    exact this js
  · exact .nil
theorem kbinds {K : PySem.W.Frag} {fd : FuncData} {n m : Nat} {js : List Nat} (h0 : 0 < ps.length) (h : ∀ us ws : List Value, us.length = n → ws.length = m → bindArgs fd ⟨us, ks.zip ws⟩ = pure (ps.zip (js.map fun j => (us ++ ws).getD j .none))) : KBinds K fd ps ks (gK n m js) (gKV n m js) := by
  refine ⟨fun s us ws _ hl => ?_, gK_rel⟩
  unfold gK at hl ⊢
  split at hl
  · rename_i hh
    rw [if_pos hh]
    exact .of_eq (h us ws hh.1 hh.2)
  · simp at hl
    omega
theorem kw0_run {f : Addr} {fd : FuncData} {sp : Sp} {tk : TA} {g : List Value → List Value → List Value} {gV : List V → List V → List V} (G : FnG X.prog X.w X.K X.mg X.base k f fd ps sp) (hr : RoomG k X.A) (hg : Gl X x) (hm : X.mg x = some (.ref f)) (hk : PySem.W.keepIn X.K (.ref f) = true) (hb : KBinds X.K fd ps ks g gV)
    (hkw : PK X kws tk) (hall : (backToKw pos (keywordEach kws X.env)).all (·.1.isSome) = true) (hks : (backToKw pos (keywordEach kws X.env)).filterMap (·.1) = ks) (hdb : (x == ("__debug__" : Str)) = false)
    (hpl : ((backTo pos (starEach [] X.env)).any (·.1) || (backToKw pos (keywordEach kws X.env)).any (·.1.isNone)) = false) : PE X (.Call (.Name x p) [] kws pos) (fun σ H Q => tk σ H fun zs H2 => sp (gV [] zs) H2 Q E0) := by
  constructor
  intro pins s σ H Q I q
  apply wpAny_Call_Name_kw
  apply ld_glob I hg hm _ hdb
  apply PySem.W.callWith_KW0 (h₀ := X.base) I.ok.mod.kin hk hall _ hpl
  apply thn (hkw.run pos pins s σ H _ I q)
  rintro ws s2 ⟨zs, H2, I2, rz, q2⟩
  refine ⟨I2.kIn, ?_⟩
  rw [hks]
  exact callGk (us := []) (vs := []) G hr hb I2 .nil rz q2
/-- the temporaries in the parameters' order -/
def perm (js : List Nat) (us : List TV) : List TV := js.filterMap fun j => us[j]?
def permOk (js : List Nat) (us : List TV) : Bool := js.all fun j => decide (j < us.length)
def fCallK (F : FF) (m : Nat) (js : List Nat) (fs : FA) : FE := fun Γ => (fs Γ).bind fun p => if p.1.length = m ∧ permOk js p.1 = true ∧ (als (perm js p.1)).Nodup then (argsOf p.2 (perm js p.1)).bind fun ms => (F ms).bind fun r => (putArgs (perm js p.1) r.2 p.2).map fun Γ' => (.md r.1, Γ') else none
theorem perm_pair {R : V → TV → Prop} {xs : List V} {us : List TV} (h : Paired R xs us) : ∀ (js : List Nat), permOk js us = true → Paired R (js.map fun j => xs.getD j .non) (perm js us)
  | [], _ => .nil
  | j :: js, hj => by
    unfold permOk at hj
    rw [List.all_cons, Bool.and_eq_true] at hj
    have hlt : j < us.length := of_decide_eq_true hj.1
    have e : us[j]? = some us[j] := List.getElem?_eq_getElem hlt
    obtain ⟨x, hx, r⟩ := Paired.get2 h e
    unfold perm
    rw [List.filterMap_cons, e, List.map_cons, List.getD_eq_getElem?_getD, hx]
    exact .cons r (perm_pair h js hj.2)
theorem fx_callK0 {m : Nat} {js : List Nat} (D : Def X.prog X.w X.K X.mg X.base k x st ps F) (hr : RoomG k X.A) (h0 : 0 < ps.length)
    (hb : ∀ (kV doc pm : Value) (an : Option Addr) (cdv ct : Value) (us ws : List Value), us.length = 0 → ws.length = m → bindArgs (PySem.W.fnOf x x (defArgs st) (defBody st) (defScope st) .none kV doc pm an cdv ct) ⟨us, ks.zip ws⟩ = pure (ps.zip (js.map fun j => (us ++ ws).getD j .none)))
    (hkw : FKX X np kws fk) (hall : (backToKw pos (keywordEach kws X.env)).all (·.1.isSome) = true := by rfl) (hks : (backToKw pos (keywordEach kws X.env)).filterMap (·.1) = ks := by rfl) (hg : Gl X x := by rfl) (hdb : (x == ("__debug__" : Str)) = false := by decide)
    (hpl : ((backTo pos (starEach [] X.env)).any (·.1) || (backToKw pos (keywordEach kws X.env)).any (·.1.isNone)) = false := by rfl) : FX X np (.Call (.Name x p) [] kws pos) (fCallK F m js fk) := by
  obtain ⟨⟨f, fd, Fn, G, hm⟩, bd⟩ := D
  have hkb : KBinds X.K fd ps ks (gK 0 m js) (gKV 0 m js) := by
    obtain ⟨oc, od, kV, doc, pm, an, cdv, ct, osl, rfl, _, _⟩ := Fn.ex
    exact kbinds h0 (hb kV doc pm an cdv ct)
  refine PE.weak (kw0_run G hr hg hm Fn.kp hkb hkw hall hks hdb hpl) fun σ H Q h => ?_
  obtain ⟨W, Γ, vs, ts, t, Γ', c, e, q⟩ := h
  obtain ⟨⟨us, Γ1⟩, e1, e⟩ := Option.bind_eq_some_iff.mp e
  dsimp only at e
  split at e
  · rename_i hh
    obtain ⟨ms, e2, e⟩ := Option.bind_eq_some_iff.mp e
    obtain ⟨⟨r, ms'⟩, e3, e⟩ := Option.bind_eq_some_iff.mp e
    obtain ⟨Γ2, e4, e⟩ := Option.map_eq_some_iff.mp e
    cases e
    refine ⟨W, Γ, vs, ts, us, Γ1, c, e1, fun xs H1 c1 el => ?_⟩
    obtain ⟨O, c1⟩ := c1
    obtain ⟨pr, c2⟩ := c1.args el
    have e5 : gKV 0 m js [] xs = js.map fun j => xs.getD j .non := by
      unfold gKV
      rw [if_pos ⟨rfl, by rw [el]; exact hh.1⟩, List.nil_append]
    rw [e5]
    exact callF c2 (perm_pair pr js hh.2.1) hh.2.2 e2 e3 e4 q
  · cases e

/-! ### unpacking, one-place operators, chains -/
def fAsgG (f : FE) (g : FG) : FS := fun Γ => (f Γ).bind fun p => (frz p.1).bind fun d => (g d p.2).map .nx
theorem fs_asgG {tg : Expr} {f : FE} {g : FG} {is : List Nat} (he : FX X np e f) (hg : FGX X np is tg g) (hs : swapsWithSole [tg] e pos.line X.env = pure false := by rfl) (hw : swappedStores [tg] e X.env = pure none := by rfl)
    (h1 : (assignEach [tg] X.env).map (·.2) = [assign tg X.env] := by rfl) : FSX X np (.Assign [tg] e pos) (fAsgG f g) := by
  refine PS.weak (ps_asg he hg hs hw h1) fun D σ H h => ?_
  obtain ⟨W, Γ, vs, ds, o, c, e, q⟩ := h
  obtain ⟨⟨t1, Γ1⟩, e1, e⟩ := Option.bind_eq_some_iff.mp e
  obtain ⟨d, e2, e⟩ := Option.bind_eq_some_iff.mp e
  obtain ⟨Γ2, e3, e⟩ := Option.map_eq_some_iff.mp e
  cases e
  have h1' : t1 = .md (.dat d) := frz_to e2
  subst h1'
  exact ⟨W, Γ, vs, tsd ds, _, Γ1, c, e1, fun v H1 c1 => ⟨W, Γ1, vs, tsd ds, d, Γ2, c1, e3, fun σ' H' c' _ => q σ' H' c'⟩⟩
def fNeg (f : FE) : FE := fun Γ => (f Γ).bind fun p => (intT p.1).map fun i => (.md (.dat (.int (-i))), p.2)
theorem fx_neg {f : FE} (he : FX X np e f) : FX X np (.UnaryOp .USub e pos) (fNeg f) := by
  refine PE.weak (pe_un un_neg he) fun σ H Q h => ?_
  obtain ⟨W, Γ, vs, ts, t, Γ', c, e, q⟩ := h
  obtain ⟨⟨t1, Γ1⟩, e1, e⟩ := Option.bind_eq_some_iff.mp e
  obtain ⟨i, e2, e⟩ := Option.map_eq_some_iff.mp e
  cases e
  have h1' : t1 = .md (.dat (.int i)) := intT_to e2
  subst h1'
  refine ⟨W, Γ, vs, ts, _, Γ1, c, e1, fun v H1 c1 => ?_⟩
  obtain ⟨O, c1⟩ := c1
  have r : Fz X.K O H1 (.int i) v := c1.top
  cases r
  exact ⟨i, rfl, q _ H1 ⟨O, c1.pop.push (t := .md (.dat (.int (-i)))) (.int _)⟩⟩
/-- a op b op' c -/
def fChain (g g' : PyData → PyData → Option Res) (fa fb fc : FE) : FE := fun Γ => (fa Γ).bind fun p => (fb p.2).bind fun p2 => (dv p2.2 p.1).bind fun d => (dv p2.2 p2.1).bind fun e => (g d e).bind fun r => match r with
  | .val (.bool true) => (fc p2.2).bind fun p3 => (dv p3.2 p2.1).bind fun e' => (dv p3.2 p3.1).bind fun c => (g' e' c).map fun r => (r.fin false, p3.2)
  | .val (.bool false) => some (.md (.dat (.bool false)), p2.2)
  | _ => none
theorem chain_read {a b c : Expr} {fa fb fc : FE} {r r' : R2} {g g' : PyData → PyData → Option Res} (hg : Snd2 X.K r g) (hg' : Snd2 X.K r' g') {σ : L2.St} {H : Hp} {Q : VK} (h : up X.K np (fChain g g' fa fb fc) σ H Q) :
    tChain r r' (up X.K np fa) (up X.K np fb) (up X.K np fc) σ H Q := by
  obtain ⟨W, Γ, vs, ts, t, Γ', c, e, q⟩ := h
  obtain ⟨⟨t1, Γ1⟩, e1, e⟩ := Option.bind_eq_some_iff.mp e
  obtain ⟨⟨t2, Γ2⟩, e2, e⟩ := Option.bind_eq_some_iff.mp e
  obtain ⟨d1, e3, e⟩ := Option.bind_eq_some_iff.mp e
  obtain ⟨d2, e4, e⟩ := Option.bind_eq_some_iff.mp e
  obtain ⟨s, e5, e⟩ := Option.bind_eq_some_iff.mp e
  refine ⟨W, Γ, vs, ts, t1, Γ1, c, e1, fun x H1 c1 => ⟨W, Γ1, x :: vs, t1 :: ts, t2, Γ2, c1, e2, fun y H2 c2 => ?_⟩⟩
  obtain ⟨O, c2⟩ := c2
  refine hg O H2 x y d1 d2 s _ c2.dom (c2.view c2.tm.2.1 e3) (c2.view c2.tm.1 e4) e5 fun v H' ok => ?_
  split at e
  · obtain ⟨ev, rv⟩ := ok
    cases rv
    obtain ⟨⟨t3, Γ3⟩, e6, e⟩ := Option.bind_eq_some_iff.mp e
    obtain ⟨d2', e7, e⟩ := Option.bind_eq_some_iff.mp e
    obtain ⟨d3, e8, e⟩ := Option.bind_eq_some_iff.mp e
    obtain ⟨s', e9, e⟩ := Option.map_eq_some_iff.mp e
    cases e
    refine ⟨true, rfl, iteT ⟨W, Γ2, _, _, t3, Γ3, ⟨O, c2.ev0 ev⟩, e6, fun z H3 c3 => ?_⟩⟩
    obtain ⟨O3, c3⟩ := c3
    exact hg' O3 H3 y z d2' d3 s' Q c3.dom (c3.view c3.pop.top e7) (c3.view c3.top e8) e9 fun v H' ok => q v H' (c3.pop.pop.pop.res ok)
  · obtain ⟨ev, rv⟩ := ok
    cases rv
    cases e
    exact ⟨false, rfl, iteF (q _ _ ⟨O, (c2.pop.pop.ev0 ev).push (t := .md (.dat (.bool false))) (.bl _)⟩)⟩
  · cases e
theorem fx_chain {a b c : Expr} {fa fb fc : FE} {op op' : CmpOp} {r r' : R2} {g g' : PyData → PyData → Option Res} (ho : OpR X (compareOp op) r) (hg : Snd2 X.K r g) (ho' : OpR X (compareOp op') r') (hg' : Snd2 X.K r' g') (ha : FX X np a fa) (hb : FX X np b fb) (hc : FX X np c fc)
    (hm : lastMarks [op, op'] [b, c] = false := by with_unfolding_all rfl) : FX X np (.Compare a [op, op'] [b, c] pos) (fChain g g' fa fb fc) :=
  PE.weak (pe_chain ho ho' ha hb hc hm) fun _ _ _ h => chain_read (a := a) (b := b) (c := c) hg hg' h
theorem ft_chain {a b c : Expr} {fa fb fc : FE} {op op' : CmpOp} {r r' : R2} {g g' : PyData → PyData → Option Res} (ho : OpR X (compareOp op) r) (hg : Snd2 X.K r g) (ho' : OpR X (compareOp op') r') (hg' : Snd2 X.K r' g') (ha : FX X np a fa) (hb : FX X np b fb) (hc : FX X np c fc)
    (hm : lastMarks [op, op'] [b, c] = false := by with_unfolding_all rfl) : FTX X np (.Compare a [op, op'] [b, c] pos) (fT (fChain g g' fa fb fc)) := by
  refine PT.weak (pt_chain ho ho' ha hb hc hm) fun σ H Q h => ?_
  exact chain_read (np := np) (a := a) (b := b) (c := c) hg hg' (asTest h)
end
end Fx

end

set_option maxHeartbeats 1000000
/-! Fx13: list(iterator): list(reversed(x)), list(zip(x, y)) -/
noncomputable section
namespace Fx
open PySem PySem.Spec PyProof.Rows L2

abbrev listAt (h : Heap) (S : Addr) (acc : Array Value) (c : Nat) : Prop := h.get? S = some { cls := .type "list", dict := none, data := .seq acc c, slots := #[] }
/-- what list(..) asks of an iterator at r; fp: what it lives in -/
structure Src (prog : Program) (w : World) (T : String) (r : Addr) (fp : List Addr) (St : Heap → Prop) : Prop where
  ty : ∀ t : Shared, St t.heap → t.TypeIs (.ref r) T
  mem : r ∈ fp
  lt : ∀ g, St g → ∀ b ∈ fp, b < g.objs.size
  kp : ∀ g g', St g → (∀ b ∈ fp, ∀ o, g.get? b = some o → g'.get? b = some o) → St g'
  nl : (Value.type T == Value.type "list") = false
  nt : (Value.type T == Value.type "tuple") = false
  it : ∀ (B : Around) (F : Value → Shared → Prop) (t : Shared) (Q : Value → Shared → Prop), St t.heap → Q (.ref r) t → wpAny (model prog w) B (pyIter (.ref r)) Q F t
  hi : ∀ (B : Around) (F : Value → Shared → Prop) (t : Shared) (Q : Bool → Shared → Prop), St t.heap → (∀ b, Q b t) → wpAny (model prog w) B (Builtin.List.listLengthHint (.ref r)) Q F t
section
variable {prog : Program} {w : World} {A : Around} {E : Value → Shared → Prop} {s : Shared} {T : String} {r S : Addr} {fp : List Addr} {St : Heap → Prop} {R : Result → Shared → Prop}
def loopCode (S r : Addr) (res : Value) : Code := .builtin "list.extend.loop" ⟨[.ref S, .ref r, res], []⟩
theorem src_extend (C : Src prog w T r fp St) (st : St s.heap) (hS : S ∉ fp) (res : Value) {c0 : Nat} (at0 : listAt s.heap S #[] c0)
    (lp : ∀ (g : Heap) (c : Nat), St g → (∀ b o, b ≠ S → s.heap.get? b = some o → g.get? b = some o) → listAt g S #[] c → codeAny (model prog w) A (loopCode S r res) R { s with heap := g }) :
    wpAny (model prog w) A.in1 (Builtin.List.listExtendWith (.ref S) (.ref r) res) (fun fin t => match fin with | .done f => R (.ok f) t | .again c' => c'.quiet = true ∧ codeAny (model prog w) A c' R t) (fun e t => R (.error e) t) s := by
  have ne : S ≠ r := fun z => hS (z ▸ C.mem)
  unfold Builtin.List.listExtendWith
  refine wpAny_bind (wpAny_typeOf (T := T) (C.ty s st) ?_)
  have e1 : Builtin.List.listSameRef (.ref S) (.ref r) = false := by simp [Builtin.List.listSameRef, ne]
  simp only [e1, C.nl, C.nt, Bool.or_false, Bool.false_eq_true, if_false]
  refine wpAny_bind (C.it _ _ _ _ st ?_)
  refine wpAny_bind (wpAny_holding (C.hi _ _ _ _ st fun roomy => ?_))
  have q0 : (PySem.Code.builtin "list.extend.loop" ⟨[.ref S, .ref r, res], []⟩).quiet = true := plainId_quiet PySem.F.plain_extend_loop _
  refine wpAny_ite_split (fun _ => ?_) (fun _ => wpAny_pure ⟨q0, lp s.heap c0 st (fun _ _ _ e => e) at0⟩)
  refine wpAny_bind (wpAny_rule ?_)
  refine wpAny_bind ?_
  show wpAny _ _ (updateSeq S (fun a => a.push .none) >>= fun _ => updateSeq S (fun a => a.pop)) _ _ _
  refine wpAny_bind (wpAny_updateSeq at0 rfl ?_)
  have at1 := Heap.get?_update_self (Obj.mapSeq (fun a => a.push Value.none)) at0 rfl
  refine wpAny_updateSeq (hz := by seq_fits) at1 rfl ?_
  have at2 := Heap.get?_update_self (Obj.mapSeq (fun a => a.pop)) at1 rfl
  have kp2 : ∀ b o, b ≠ S → s.heap.get? b = some o → ((s.heap.update S (Obj.mapSeq (fun a => a.push Value.none))).update S (Obj.mapSeq (fun a => a.pop))).get? b = some o := fun b o nb e =>
    (Heap.get?_update_other _ _ nb.symm).trans ((Heap.get?_update_other _ _ nb.symm).trans e)
  exact wpAny_pure ⟨q0, lp _ _ (C.kp _ _ st fun b hb o e => kp2 b o (fun z => hS (z ▸ hb)) e) kp2 at2⟩
theorem src_call {Q : Value → Shared → Prop} (C : Src prog w T r fp St) (st : St s.heap)
    (lp : ∀ (R : Result → Shared → Prop) (g : Heap) (c : Nat), St g → (∀ b o, s.heap.get? b = some o → g.get? b = some o) → listAt g s.heap.objs.size #[] c → (∀ t, Q (.ref s.heap.objs.size) t → R (.ok (.ret .none)) t) →
      codeAny (model prog w) A.in1 (loopCode s.heap.objs.size r .none) R { s with heap := g }) :
    wpAny (model prog w) A (call (.type "list") [.ref r]) Q E s := by
  refine callType_codes (Q₁ := fun ob t => ob = .ref s.heap.objs.size ∧ t = { s with heap := s.heap.push { cls := .type "list", data := .seq #[] } }) PySem.F.called_list (PySem.F.typeCall_list_1 _) PySem.F.entry_list_init
    (code_list_new _ ⟨rfl, rfl⟩) fun ob t ht => ?_
  obtain ⟨e1, e2⟩ := ht
  subst e1 e2
  have at0 : (s.heap.push { cls := .type "list", data := .seq #[] }).get? s.heap.objs.size = some { cls := .type "list", data := .seq #[] } := Heap.get?_push_size _ rfl
  have hS : s.heap.objs.size ∉ fp := fun z => Nat.lt_irrefl _ (C.lt _ st _ z)
  refine ⟨⟨_, at0, rfl⟩, PySem.F.args_list_init_2 _ _, ?_⟩
  show wpAny _ _ (do let old ← Builtin.List.listItems (.ref s.heap.objs.size); Builtin.List.listUpdate (.ref s.heap.objs.size) (fun _ => #[]); letGo old.toList.reverse; Builtin.List.listExtendWith (.ref s.heap.objs.size) (.ref r) .none) _ _ _
  refine wpAny_bind ?_
  unfold Builtin.List.listItems
  refine wpAny_bind (wpAny_seqItems at0 rfl (wpAny_pure ?_))
  show wpAny _ _ (updateSeq s.heap.objs.size (fun _ => #[]) >>= fun _ => letGo (#[] : Array Value).toList.reverse >>= fun _ => Builtin.List.listExtendWith (.ref s.heap.objs.size) (.ref r) .none) _ _ _
  refine wpAny_bind (wpAny_updateSeq at0 rfl ?_)
  have at1 := Heap.get?_update_self (Obj.mapSeq (fun _ => (#[] : Array Value))) at0 rfl
  have k0 : ∀ b o, s.heap.get? b = some o → ((s.heap.push { cls := .type "list", data := .seq #[] }).update s.heap.objs.size (Obj.mapSeq (fun _ => (#[] : Array Value)))).get? b = some o := fun b o e =>
    (Heap.get?_update_other _ _ (Nat.ne_of_gt (Heap.lt_size e))).trans (Heap.get?_push_of_some _ e)
  refine wpAny_bind (wpAny_letGo ?_)
  refine src_extend (A := A.in1) C (C.kp _ _ st fun b hb o e => k0 b o e) hS .none at1 fun g c sg kg ag => ?_
  exact lp _ g c sg (fun b o e => kg b o (Nat.ne_of_lt (Heap.lt_size e)) (k0 b o e)) ag fun t q => ⟨rfl, q⟩
/-- one turn of the loop -/
theorem loop_turn {res : Value} {acc : Array Value} {c : Nat} (hz : acc.size < sizeLine) (hn : wpAny (model prog w) A.in1 (pyNext (.ref r)) (fun v t => ∃ x, v = some x ∧ listAt t.heap S acc c ∧ ∀ (g : Heap) (c' : Nat), (∀ b o, b ≠ S → t.heap.get? b = some o → g.get? b = some o) → listAt g S (acc.push x) c' → codeAny (model prog w) A (loopCode S r res) R { t with heap := g }) (fun e t => R (.error e) t) s) :
    codeAny (model prog w) A (loopCode S r res) R s := by
  refine codeAny_builtin F.entry_extend_loop ?_
  rw [Around.under_plainId F.plain_extend_loop _]
  show wpAny _ A.in1 (pyNext (.ref r) >>= _) _ _ s
  refine wpAny_bind (wpAny_mono hn (fun v t h => ?_) fun _ _ h => h)
  obtain ⟨x, ev, hl, k⟩ := h
  subst ev
  show wpAny _ A.in1 (updateSeq S (fun a => a.push x) >>= _) _ _ _
  refine wpAny_bind ?_
  refine wpAny_updateSeq hl rfl (wpAny_pure ⟨plainId_quiet F.plain_extend_loop _, k _ _ (fun b o nb e => (Heap.get?_update_other _ _ nb.symm).trans e) (Heap.get?_update_self _ hl rfl)⟩) (by omega) (by show (acc.push x).size ≤ sizeLine + 1; rw [Array.size_push]; omega)
theorem loop_last {res : Value} (hn : wpAny (model prog w) A.in1 (pyNext (.ref r)) (fun v t => v = none ∧ R (.ok (.ret res)) t) (fun e t => R (.error e) t) s) : codeAny (model prog w) A (loopCode S r res) R s := by
  refine codeAny_builtin F.entry_extend_loop ?_
  rw [Around.under_plainId F.plain_extend_loop _]
  show wpAny _ A.in1 (pyNext (.ref r) >>= _) _ _ s
  refine wpAny_bind (wpAny_mono hn (fun v t h => ?_) fun _ _ h => h)
  obtain ⟨ev, k⟩ := h
  subst ev
  exact wpAny_pure k

/-! ### reversed(list) -/
theorem src_rev {it l : Addr} {items : Array Value} {i : Int} : Src prog w "list_reverseiterator" it [it, l] (fun g => g.IsRevIter it l i ∧ g.IsList l items) where
  ty := fun t st => Heap.IsRevIter.typeIs (s := t) st.1
  mem := by simp
  lt := fun g st b hb => by
    obtain ⟨⟨o1, h1, _⟩, ⟨o2, h2, _⟩⟩ := st
    have e : b = it ∨ b = l := by simpa using hb
    rcases e with e | e
    · rw [e]; exact Heap.lt_size h1
    · rw [e]; exact Heap.lt_size h2
  kp := fun g g' st k => ⟨st.1.at fun o e => k it (by simp) o e, st.2.at fun o e => k l (by simp) o e⟩
  nl := by decide +kernel
  nt := by decide +kernel
  it := fun B F t Q st q => wpAny_pyIter_revIter (s := t) st.1 q
  hi := fun B F t Q st q => by
    have ht : t.TypeIs (.ref it) "list_reverseiterator" := Heap.IsRevIter.typeIs (s := t) st.1
    unfold Builtin.List.listLengthHint
    refine wpAny_bind (wpAny_specialOf ht RT.nolen_lri ?_)
    show wpAny _ B (specialOf (Value.ref it) (Str.ofString "__length_hint__") >>= _) _ _ _
    refine wpAny_bind (wpAny_specialOf ht RT.hint_lri ?_)
    generalize hid : ("list_reverseiterator.__length_hint__" : String) = z
    wp_delta
    rw [show splitId z = some ("list_reverseiterator", "__length_hint__") from by subst hid; decide +kernel]
    subst hid
    refine wpAny_bind (wpAny_isInstance (b := true) ht (by rw [isSubtype_type]; kernel_rfl) ?_)
    exact wpAny_pure (q _)
theorem call_list_rev {it l : Addr} {items : Array Value} {Q : Value → Shared → Prop} (hh : A.handled = none) (hi : s.heap.IsRevIter it l ((items.size : Int) - 1)) (hl : s.heap.IsList l items) (hne : l ≠ it) (hz : items.size ≤ sizeLine)
    (q : ∀ (g : Heap) (tk : Nat) (acc : Array Value) (c : Nat), (∀ b o, b ≠ it → s.heap.get? b = some o → g.get? b = some o) → listAt g s.heap.objs.size acc c → ItemsOf (fun i v => items[items.size - 1 - i]? = some v) acc items.size → Q (.ref s.heap.objs.size) { s with heap := g, toks := tk }) :
    wpAny (model prog w) A (call (.type "list") [.ref it]) Q E s := by
  have C : Src prog w "list_reverseiterator" it [it, l] (fun g => g.IsRevIter it l ((items.size : Int) - 1) ∧ g.IsList l items) := src_rev
  refine src_call C ⟨hi, hl⟩ fun R g c st kg ag fin => ?_
  have W := (Walks.listRev (prog := prog) (w := w) (A := A.in1.in1) hh it l hne items).toS
  have hSf : s.heap.objs.size ∉ [it, l] := fun z => Nat.lt_irrefl _ (C.lt _ ⟨hi, hl⟩ _ z)
  have e0 : ((items.size : Nat) : Int) - 1 - ((0 : Nat) : Int) = (items.size : Int) - 1 := by omega
  refine codeAny_extend_loopS W hz _ hSf _ items.size 0 _ _ _ rfl (Nat.zero_le _) ⟨Nat.zero_le _, by rw [e0]; exact st.1, st.2⟩ ag (ItemsOf.nil _) fun t acc c' hm ht hacc => fin t ?_
  rw [Moved.eq_with hm]
  refine q t.heap t.toks acc c' (fun b o hb e => hm.heap b o (fun hmem => ?_) (kg b o e)) ht hacc
  rcases List.mem_cons.mp hmem with e' | hmem
  · exact absurd (Heap.lt_size e) (by rw [e']; exact Nat.lt_irrefl _)
  · exact hb (List.mem_singleton.mp hmem)
end
section
variable {X : Cx}
/-- list(reversed(x)), x a list -/
def tListRev (K : PySem.W.Frag) (te : TE) : TE := fun σ H Q => te σ H fun v H1 => ∃ (a : Addr) (xs : List V), v = .ref a ∧ SqL K H1 a xs ∧ ∀ q, H1 q = none → Q (.ref q) (upd H1 q (.lst xs.reverse))
theorem pe_listRev {e : Expr} {te : TE} {p p2 pos pos2 : Pos} (hc : X.calm = true) (hm : X.mg "list" = none) (hm2 : X.mg "reversed" = none) (he : PE X e te) (hg : Gl X "list" := by rfl) (hg2 : Gl X "reversed" := by rfl)
    (n1 : starEach [e] X.env = (false, eval e X.env) :: starEach [] X.env := by rfl) (n2 : starEach [.Call (.Name "reversed" p2) [e] [] pos2] X.env = (false, eval (.Call (.Name "reversed" p2) [e] [] pos2) X.env) :: starEach [] X.env := by rfl) :
    PE X (.Call (.Name "list" p) [.Call (.Name "reversed" p2) [e] [] pos2] [] pos) (tListRev X.K te) := by
  refine ⟨fun pins s σ H Q I h => Call_ (ld_blt I hg hm boot_list (PyProof.Rows.callWith_type1 (args_cons (Call_ (ld_blt I hg2 hm2 PyProof.Rows.boot_reversed (PyProof.Rows.callWith_type1 (args_cons (thn (he.run pins s σ H _ I h) fun u t ⟨v, H1, J, rv, q⟩ => args_nil ?_) n1) n1 rfl))) n2) n2 rfl))⟩
  obtain ⟨a, xs, ev, hq, q⟩ := q
  subst ev
  obtain rfl : u = Value.ref a := rv
  obtain ⟨its, rl, pl, hz⟩ := J.list hq
  refine call_reversed_list pl.isList (args_nil ?_)
  have J2 : Inv X pins σ H1 { t with heap := t.heap.push (revObj a ((its.toArray.size : Int) - 1)) } := J.kept (t' := t.toks) fun b o e => Heap.get?_push_of_some _ e
  obtain ⟨f0, f1, f2, f3, f4, f5⟩ := J.fpOk (H' := H1) (b := t.heap.objs.size) (Nat.le_refl _) (J.hok.fresh (Nat.le_refl _))
  have hl := pl.isList
  obtain ⟨ol, hol, _⟩ := id hl
  refine call_list_rev (s := { t with heap := t.heap.push (revObj a ((its.toArray.size : Int) - 1)) }) (J.ok.hd hc) ⟨_, Heap.get?_push_size _ rfl, rfl, rfl⟩ (hl.push _) (Nat.ne_of_lt (Heap.lt_size hol)) (by rw [List.size_toArray, ← rl.length]; exact hz) fun g tk acc c kg ag ha => ?_
  have hz1 : (t.heap.push (revObj a ((its.toArray.size : Int) - 1))).objs.size = t.heap.objs.size + 1 := Heap.size_push ..
  refine ⟨.ref (t.heap.push (revObj a ((its.toArray.size : Int) - 1))).objs.size, _, J2.turnedNew (t' := tk) (ob := .lst xs.reverse) (ch := [t.heap.objs.size]) (fun b o hb e => kg b o (by simpa using hb) e) (fun b hb => ?_) (Nat.le_refl _) ?_, rfl, q _ (J2.hok.fresh (Nat.le_refl _))⟩
  · have e : b = t.heap.objs.size := by simpa using hb
    rw [e]
    exact ⟨f0, f1, f2, f3, f4, f5⟩
  · refine ⟨by rw [List.length_reverse]; exact hz, acc.toList, c, RT.vals_rev rl ha, ?_⟩
    rw [Array.toArray_toList]
    exact ag
end
end Fx

end

/-! Fx14: list(zip(x, y)) -/
noncomputable section
namespace Fx
open PySem PySem.Spec PyProof.Rows L2

section
variable {prog : Program} {w : World} {A : Around} {E : Value → Shared → Prop} {s : Shared}
theorem nolen_zip : typeLookup (.type "zip") "__len__" = pure none := by rw [typeLookup_type, builtinLookup_eq_fast]; kernel_rfl
theorem nohint_zip : typeLookup (.type "zip") "__length_hint__" = pure none := by rw [typeLookup_type, builtinLookup_eq_fast]; kernel_rfl
theorem hint_zip {z : Addr} {Q : Bool → Shared → Prop} (ht : s.TypeIs (.ref z) "zip") (q : ∀ b, Q b s) : wpAny (model prog w) A (Builtin.List.listLengthHint (.ref z)) Q E s := by
  unfold Builtin.List.listLengthHint
  refine wpAny_bind (wpAny_specialOf ht nolen_zip ?_)
  show wpAny _ A (specialOf (Value.ref z) (Str.ofString "__length_hint__") >>= _) _ _ _
  refine wpAny_bind (wpAny_specialOf ht nohint_zip ?_)
  exact wpAny_pure (q _)
/-- an iterator over a list or a tuple, as zip pulls it -/
structure Nx (prog : Program) (w : World) (i l : Addr) (xs : Array Value) (St : Nat → Heap → Prop) : Prop where
  fr : ∀ (k : Nat) (g g' : Heap), St k g → (∀ o, g.get? i = some o → g'.get? i = some o) → (∀ o, g.get? l = some o → g'.get? l = some o) → St k g'
  lt : ∀ (k : Nat) (g : Heap), St k g → i < g.objs.size ∧ l < g.objs.size
  item : ∀ (B : Around) (F : Value → Shared → Prop) (t : Shared) (k : Nat) (x : Value) (Q : Value → Shared → Prop), St k t.heap → xs[k]? = some x → (∀ g, St (k + 1) g → Heap.SameBut i t.heap g → Q x { t with heap := g }) →
    wpAny (model prog w) B (Builtin.SmallTypes.nextOf (.ref i)) Q F t
  stop : ∀ (B : Around) (F : Value → Shared → Prop) (t : Shared) (k : Nat) (Q : Value → Shared → Prop), B.handled = none → St k t.heap → xs[k]? = none → (∀ g e, Heap.ExtBut i t.heap g → (∃ o, g.get? e = some o ∧ o.cls = .type "StopIteration") → F (.ref e) { t with heap := g }) →
    wpAny (model prog w) B (Builtin.SmallTypes.nextOf (.ref i)) Q F t
theorem nx_list {i l : Addr} {xs : Array Value} (ne : l ≠ i) : Nx prog w i l xs fun k g => g.IsListIter i l k ∧ g.IsList l xs where
  fr := fun k g g' st h1 h2 => ⟨st.1.at h1, st.2.at h2⟩
  lt := fun k g st => by
    obtain ⟨⟨o1, e1, _⟩, ⟨o2, e2, _⟩⟩ := st
    exact ⟨Heap.lt_size e1, Heap.lt_size e2⟩
  item := fun B F t k x Q st hx q => wpAny_nextOf_list_item st.1 st.2 hx fun g hg sb => q g ⟨hg, st.2.extBut sb.extBut ne⟩ sb
  stop := fun B F t k Q hh st hx q => wpAny_nextOf_list_end hh st.1 st.2 hx q
theorem nx_tup {i l : Addr} {xs : Array Value} (ne : l ≠ i) : Nx prog w i l xs fun k g => g.IsTupleIter i l k ∧ g.IsTuple l xs where
  fr := fun k g g' st h1 h2 => ⟨st.1.at h1, st.2.at h2⟩
  lt := fun k g st => by
    obtain ⟨⟨o1, e1, _⟩, ⟨o2, e2, _⟩⟩ := st
    exact ⟨Heap.lt_size e1, Heap.lt_size e2⟩
  item := fun B F t k x Q st hx q => RZ.nextOf_tuple_item st.1 st.2 hx fun g hg sb => q g ⟨hg, st.2.extBut sb.extBut ne⟩ sb
  stop := fun B F t k Q hh st hx q => RZ.nextOf_tuple_end hh st.1 st.2 hx q
variable {z TI TO T i1 i2 l1 l2 : Addr} {f : Bool} {oT : Obj} {xs ys : Array Value} {x y a b : Value} {k : Nat} {S1 S2 : Nat → Heap → Prop}
theorem zh_item {Q : Value → Shared → Prop} (D : ZipApart z TI TO i1 i2 l1 l2) (N1 : Nx prog w i1 l1 xs S1) (N2 : Nx prog w i2 l2 ys S2) (hz : IsZipHeld s.heap z TI TO T f) (hT : s.heap.get? T = some oT) (hTI : IsPair s.heap TI (.ref i1) (.ref i2))
    (h1 : S1 k s.heap) (h2 : S2 k s.heap) (hx : xs[k]? = some x) (hy : ys[k]? = some y)
    (q : ∀ g, IsZipHeld g z TI TO T true → S1 (k + 1) g → S2 (k + 1) g → IsPair g s.heap.objs.size x y → g.objs.size = s.heap.objs.size + 1 → (∀ c o, c ≠ z → c ≠ i1 → c ≠ i2 → s.heap.get? c = some o → g.get? c = some o) → Q (.ref s.heap.objs.size) { s with heap := g }) :
    wpAny (model prog w) A (Builtin.«zip.__next__» ⟨[.ref z], []⟩) (fun fin t => ∃ v, fin = .done (.ret v) ∧ Q v t) E s := by
  show wpAny _ _ (field (.ref z) 2 >>= _) _ _ _
  refine wpAny_bind (wpAny_field hz rfl (x := .bool false) rfl ?_)
  show wpAny _ _ (field (.ref z) 3 >>= _) _ _ _
  refine wpAny_bind (wpAny_field hz rfl (x := .ref TI) rfl ?_)
  refine wpAny_bind (wpAny_seqItems hTI rfl ?_)
  show wpAny _ _ (Builtin.SmallTypes.ownedTupleIsFree (.ref z) >>= _) _ _ _
  refine wpAny_bind (wpAny_tupleHeld_zip hz hT fun g1 z1 b1 => ?_)
  simp only [Bool.false_eq_true, if_false]
  refine wpAny_bind ?_
  rw [← Array.forIn_toList]
  simp only [List.forIn_cons, List.forIn_nil]
  refine wpAny_bind (wpAny_bind (wpAny_holding ?_))
  show wpAny _ _ (Builtin.SmallTypes.nextOf (.ref i1) >>= _) _ _ _
  have a1 : S1 k g1 := N1.fr k _ _ h1 (fun o e => b1.extBut _ _ D.i1z e) fun o e => b1.extBut _ _ D.l1z e
  have a2 : S2 k g1 := N2.fr k _ _ h2 (fun o e => b1.extBut _ _ D.i2z e) fun o e => b1.extBut _ _ D.l2z e
  refine wpAny_bind (N1.item _ _ { s with heap := g1 } k x _ a1 hx fun g2 c1 b2 => wpAny_pure ?_)
  refine wpAny_pure ?_
  refine wpAny_bind (wpAny_bind (wpAny_holding ?_))
  show wpAny _ _ (Builtin.SmallTypes.nextOf (.ref i2) >>= _) _ _ _
  have a3 : S2 k g2 := N2.fr k _ _ a2 (fun o e => b2.extBut _ _ D.i12.symm e) fun o e => b2.extBut _ _ D.l2i1 e
  refine wpAny_bind (N2.item _ _ { s with heap := g2 } k y _ a3 hy fun g3 c2 b3 => wpAny_pure ?_)
  refine wpAny_pure (wpAny_pure ?_)
  show wpAny _ _ (newTuple [x, y] >>= _) _ _ _
  refine wpAny_bind (wpAny_newTuple ?_)
  have sz : g3.objs.size = s.heap.objs.size := by rw [b3.1, b2.1, b1.1]
  have z3 : IsZipHeld g3 z TI TO T true := b3.extBut _ _ D.i2z.symm (b2.extBut _ _ D.i1z.symm z1)
  have kp : ∀ c o, c ≠ z → c ≠ i1 → c ≠ i2 → s.heap.get? c = some o → g3.get? c = some o := fun c o n1 n2 n3 e => b3.extBut _ _ n3 (b2.extBut _ _ n2 (b1.extBut _ _ n1 e))
  have a4 : S1 (k + 1) g3 := N1.fr _ _ _ c1 (fun o e => b3.extBut _ _ D.i12 e) fun o e => b3.extBut _ _ D.l1i2 e
  refine wpAny_pure ⟨_, rfl, ?_⟩
  show Q (.ref g3.objs.size) _
  have hp : IsPair (g3.push { cls := .type "tuple", data := .seq #[x, y] }) g3.objs.size x y := Heap.get?_push_size _ rfl
  have hs : (g3.push { cls := .type "tuple", data := .seq #[x, y] }).objs.size = g3.objs.size + 1 := Heap.size_push ..
  rw [sz] at hp hs ⊢
  exact q _ (Heap.get?_push_of_some _ z3) (N1.fr _ _ _ a4 (fun o e => Heap.get?_push_of_some _ e) fun o e => Heap.get?_push_of_some _ e) (N2.fr _ _ _ c2 (fun o e => Heap.get?_push_of_some _ e) fun o e => Heap.get?_push_of_some _ e) hp hs fun c o n1 n2 n3 e => Heap.get?_push_of_some _ (kp c o n1 n2 n3 e)
theorem zh_stop {Q : Fin → Shared → Prop} (hh : A.handled = none) (D : ZipApart z TI TO i1 i2 l1 l2) (N1 : Nx prog w i1 l1 xs S1) (N2 : Nx prog w i2 l2 ys S2) (hz : IsZipHeld s.heap z TI TO T f) (hT : s.heap.get? T = some oT) (hTI : IsPair s.heap TI (.ref i1) (.ref i2))
    (h1 : S1 k s.heap) (h2 : S2 k s.heap) (hend : xs[k]? = none ∨ ys[k]? = none)
    (q : ∀ g e, (∀ c o, c ≠ z → c ≠ i1 → c ≠ i2 → s.heap.get? c = some o → g.get? c = some o) → (∃ o, g.get? e = some o ∧ o.cls = .type "StopIteration") → E (.ref e) { s with heap := g }) :
    wpAny (model prog w) A (Builtin.«zip.__next__» ⟨[.ref z], []⟩) Q E s := by
  show wpAny _ _ (field (.ref z) 2 >>= _) _ _ _
  refine wpAny_bind (wpAny_field hz rfl (x := .bool false) rfl ?_)
  show wpAny _ _ (field (.ref z) 3 >>= _) _ _ _
  refine wpAny_bind (wpAny_field hz rfl (x := .ref TI) rfl ?_)
  refine wpAny_bind (wpAny_seqItems hTI rfl ?_)
  show wpAny _ _ (Builtin.SmallTypes.ownedTupleIsFree (.ref z) >>= _) _ _ _
  refine wpAny_bind (wpAny_tupleHeld_zip hz hT fun g1 z1 b1 => ?_)
  simp only [Bool.false_eq_true, if_false]
  refine wpAny_bind ?_
  rw [← Array.forIn_toList]
  simp only [List.forIn_cons, List.forIn_nil]
  refine wpAny_bind (wpAny_bind (wpAny_holding ?_))
  show wpAny _ _ (Builtin.SmallTypes.nextOf (.ref i1) >>= _) _ _ _
  have a1 : S1 k g1 := N1.fr k _ _ h1 (fun o e => b1.extBut _ _ D.i1z e) fun o e => b1.extBut _ _ D.l1z e
  have a2 : S2 k g1 := N2.fr k _ _ h2 (fun o e => b1.extBut _ _ D.i2z e) fun o e => b1.extBut _ _ D.l2z e
  cases hx : xs[k]? with
  | none => exact wpAny_bind (N1.stop _ _ { s with heap := g1 } k _ hh a1 hx fun g2 e b2 he => q g2 e (fun c o n1 n2 _ u => b2 _ _ n2 (b1.extBut _ _ n1 u)) he)
  | some x =>
    have hy : ys[k]? = none := hend.resolve_left (by rw [hx]; exact fun u => nomatch u)
    refine wpAny_bind (N1.item _ _ { s with heap := g1 } k x _ a1 hx fun g2 c1 b2 => wpAny_pure ?_)
    refine wpAny_pure ?_
    refine wpAny_bind (wpAny_bind (wpAny_holding ?_))
    show wpAny _ _ (Builtin.SmallTypes.nextOf (.ref i2) >>= _) _ _ _
    have a3 : S2 k g2 := N2.fr k _ _ a2 (fun o e => b2.extBut _ _ D.i12.symm e) fun o e => b2.extBut _ _ D.l2i1 e
    exact wpAny_bind (N2.stop _ _ { s with heap := g2 } k _ hh a3 hy fun g3 e b3 he => q g3 e (fun c o n1 n2 n3 u => b3 _ _ n3 (b2.extBut _ _ n2 (b1.extBut _ _ n1 u))) he)
theorem zf_item {Q : Value → Shared → Prop} (D : ZipApart z TI TO i1 i2 l1 l2) (N1 : Nx prog w i1 l1 xs S1) (N2 : Nx prog w i2 l2 ys S2) (hz : IsZip s.heap z TI TO .none) (hTI : IsPair s.heap TI (.ref i1) (.ref i2)) (hTO : IsPair s.heap TO a b)
    (h1 : S1 k s.heap) (h2 : S2 k s.heap) (hx : xs[k]? = some x) (hy : ys[k]? = some y)
    (q : ∀ g, IsZipHeld g z TI TO s.heap.objs.size false → S1 (k + 1) g → S2 (k + 1) g → IsPair g s.heap.objs.size x y → g.objs.size = s.heap.objs.size + 1 → (∀ c o, c ≠ z → c ≠ TO → c ≠ i1 → c ≠ i2 → s.heap.get? c = some o → g.get? c = some o) → Q (.ref s.heap.objs.size) { s with heap := g }) :
    wpAny (model prog w) A (Builtin.«zip.__next__» ⟨[.ref z], []⟩) (fun fin t => ∃ v, fin = .done (.ret v) ∧ Q v t) E s := by
  show wpAny _ _ (field (.ref z) 2 >>= _) _ _ _
  refine wpAny_bind (wpAny_field hz rfl (x := .bool false) rfl ?_)
  show wpAny _ _ (field (.ref z) 3 >>= _) _ _ _
  refine wpAny_bind (wpAny_field hz rfl (x := .ref TI) rfl ?_)
  refine wpAny_bind (wpAny_seqItems hTI rfl ?_)
  show wpAny _ _ (Builtin.SmallTypes.ownedTupleIsFree (.ref z) >>= _) _ _ _
  refine wpAny_bind ?_
  unfold Builtin.SmallTypes.ownedTupleIsFree
  refine wpAny_bind (wpAny_field hz rfl (x := .none) rfl (wpAny_pure ?_))
  simp only [if_true]
  refine wpAny_bind (wpAny_rule ?_)
  refine wpAny_bind (wpAny_field hz rfl (x := .ref TO) rfl ?_)
  refine wpAny_bind (wpAny_setField_rec hz (by simp) fun g1 z1 b1 => ?_)
  replace z1 : IsZip g1 z TI TO .ellipsis := z1
  refine wpAny_bind ?_
  simp only [List.zipIdx_cons, List.zipIdx_nil, List.forIn_cons, List.forIn_nil]
  refine wpAny_bind (wpAny_bind (wpAny_onRaise ?_))
  show wpAny _ _ (Builtin.SmallTypes.nextOf (.ref i1) >>= _) _ _ _
  have a1 : S1 k g1 := N1.fr k _ _ h1 (fun o e => b1.extBut _ _ D.i1z e) fun o e => b1.extBut _ _ D.l1z e
  have a2 : S2 k g1 := N2.fr k _ _ h2 (fun o e => b1.extBut _ _ D.i2z e) fun o e => b1.extBut _ _ D.l2z e
  refine wpAny_bind (N1.item _ _ { s with heap := g1 } k x _ a1 hx fun g2 c1 b2 => wpAny_pure ?_)
  have t2 : IsPair g2 TO a b := b2.extBut _ _ D.TOi1 (b1.extBut _ _ D.TOz hTO)
  refine wpAny_bind (wpAny_seqItems t2 rfl ?_)
  refine wpAny_bind (wpAny_updateSeq_pair t2 fun g3 t3 b3 => ?_)
  replace t3 : IsPair g3 TO x b := t3
  refine wpAny_bind (wpAny_letGo (wpAny_pure ?_))
  refine wpAny_bind (wpAny_bind (wpAny_onRaise ?_))
  show wpAny _ _ (Builtin.SmallTypes.nextOf (.ref i2) >>= _) _ _ _
  have a3 : S2 k g3 := N2.fr k _ _ (N2.fr k _ _ a2 (fun o e => b2.extBut _ _ D.i12.symm e) fun o e => b2.extBut _ _ D.l2i1 e) (fun o e => b3.extBut _ _ D.TOi2.symm e) fun o e => b3.extBut _ _ D.l2TO e
  refine wpAny_bind (N2.item _ _ { s with heap := g3 } k y _ a3 hy fun g4 c2 b4 => wpAny_pure ?_)
  have t4 : IsPair g4 TO x b := b4.extBut _ _ D.TOi2 t3
  refine wpAny_bind (wpAny_seqItems t4 rfl ?_)
  refine wpAny_bind (wpAny_updateSeq_pair t4 fun g5 t5 b5 => ?_)
  replace t5 : IsPair g5 TO x y := t5
  refine wpAny_bind (wpAny_letGo (wpAny_pure (wpAny_pure ?_)))
  refine wpAny_bind (wpAny_seqItems t5 rfl ?_)
  refine wpAny_bind (wpAny_newTuple ?_)
  have sz : g5.objs.size = s.heap.objs.size := by rw [b5.1, b4.1, b3.1, b2.1, b1.1]
  have z5 : IsZip g5 z TI TO .ellipsis := b5.extBut _ _ D.TOz.symm (b4.extBut _ _ D.i2z.symm (b3.extBut _ _ D.TOz.symm (b2.extBut _ _ D.i1z.symm z1)))
  have k5 : ∀ c o, c ≠ z → c ≠ TO → c ≠ i1 → c ≠ i2 → s.heap.get? c = some o → g5.get? c = some o := fun c o n1 n2 n3 n4 e => b5.extBut _ _ n2 (b4.extBut _ _ n4 (b3.extBut _ _ n2 (b2.extBut _ _ n3 (b1.extBut _ _ n1 e))))
  have d1 : S1 (k + 1) g5 := N1.fr _ _ _ (N1.fr _ _ _ (N1.fr _ _ _ c1 (fun o e => b3.extBut _ _ D.TOi1.symm e) fun o e => b3.extBut _ _ D.l1TO e) (fun o e => b4.extBut _ _ D.i12 e) fun o e => b4.extBut _ _ D.l1i2 e) (fun o e => b5.extBut _ _ D.TOi1.symm e) fun o e => b5.extBut _ _ D.l1TO e
  have d2 : S2 (k + 1) g5 := N2.fr _ _ _ c2 (fun o e => b5.extBut _ _ D.TOi2.symm e) fun o e => b5.extBut _ _ D.l2TO e
  have zl : z < g5.objs.size := Heap.lt_size z5
  show wpAny _ _ (Builtin.SmallTypes.ownedTupleHandOut (.ref z) (.ref g5.objs.size) >>= _) _ _ _
  refine wpAny_bind ?_
  unfold Builtin.SmallTypes.ownedTupleHandOut
  have z6 : IsZip (g5.push { cls := .type "tuple", data := .seq #[x, y] }) z TI TO .ellipsis := Heap.get?_push_of_some _ z5
  refine wpAny_bind (wpAny_setField_rec z6 (by simp) fun g7 z7 b7 => ?_)
  replace z7 : IsZip g7 z TI TO (rawInt g5.objs.size) := z7
  refine wpAny_setField_rec z7 (by simp) fun g8 z8 b8 => ?_
  replace z8 : IsZip g8 z TI TO (rawInt g5.objs.size) := z8
  have rise : ∀ c o, c ≠ z → g5.get? c = some o → g8.get? c = some o := fun c o n1 e => b8.extBut _ _ n1 (b7.extBut _ _ n1 (Heap.get?_push_of_some _ e))
  have p8 : IsPair g8 g5.objs.size x y := b8.extBut _ _ (Nat.ne_of_gt zl) (b7.extBut _ _ (Nat.ne_of_gt zl) (Heap.get?_push_size _ rfl))
  have s8 : g8.objs.size = g5.objs.size + 1 := by rw [b8.1, b7.1, Heap.size_push]
  rw [sz] at z8 p8 s8
  refine wpAny_pure ⟨_, rfl, ?_⟩
  show Q (.ref g5.objs.size) _
  rw [sz]
  exact q g8 z8 (N1.fr _ _ _ d1 (fun o e => rise _ o D.i1z e) fun o e => rise _ o D.l1z e) (N2.fr _ _ _ d2 (fun o e => rise _ o D.i2z e) fun o e => rise _ o D.l2z e) p8 s8 fun c o n1 n2 n3 n4 e => rise c o n1 (k5 c o n1 n2 n3 n4 e)
theorem zf_stop {Q : Fin → Shared → Prop} (hh : A.handled = none) (D : ZipApart z TI TO i1 i2 l1 l2) (N1 : Nx prog w i1 l1 xs S1) (N2 : Nx prog w i2 l2 ys S2) (hz : IsZip s.heap z TI TO .none) (hTI : IsPair s.heap TI (.ref i1) (.ref i2)) (hTO : IsPair s.heap TO a b)
    (h1 : S1 k s.heap) (h2 : S2 k s.heap) (hend : xs[k]? = none ∨ ys[k]? = none)
    (q : ∀ g e, (∀ c o, c ≠ z → c ≠ TO → c ≠ i1 → c ≠ i2 → s.heap.get? c = some o → g.get? c = some o) → (∃ o, g.get? e = some o ∧ o.cls = .type "StopIteration") → E (.ref e) { s with heap := g }) :
    wpAny (model prog w) A (Builtin.«zip.__next__» ⟨[.ref z], []⟩) Q E s := by
  show wpAny _ _ (field (.ref z) 2 >>= _) _ _ _
  refine wpAny_bind (wpAny_field hz rfl (x := .bool false) rfl ?_)
  show wpAny _ _ (field (.ref z) 3 >>= _) _ _ _
  refine wpAny_bind (wpAny_field hz rfl (x := .ref TI) rfl ?_)
  refine wpAny_bind (wpAny_seqItems hTI rfl ?_)
  show wpAny _ _ (Builtin.SmallTypes.ownedTupleIsFree (.ref z) >>= _) _ _ _
  refine wpAny_bind ?_
  unfold Builtin.SmallTypes.ownedTupleIsFree
  refine wpAny_bind (wpAny_field hz rfl (x := .none) rfl (wpAny_pure ?_))
  simp only [if_true]
  refine wpAny_bind (wpAny_rule ?_)
  refine wpAny_bind (wpAny_field hz rfl (x := .ref TO) rfl ?_)
  refine wpAny_bind (wpAny_setField_rec hz (by simp) fun g1 z1 b1 => ?_)
  replace z1 : IsZip g1 z TI TO .ellipsis := z1
  refine wpAny_bind ?_
  simp only [List.zipIdx_cons, List.zipIdx_nil, List.forIn_cons, List.forIn_nil]
  refine wpAny_bind (wpAny_bind (wpAny_onRaise ?_))
  show wpAny _ _ (Builtin.SmallTypes.nextOf (.ref i1) >>= _) _ _ _
  have a1 : S1 k g1 := N1.fr k _ _ h1 (fun o e => b1.extBut _ _ D.i1z e) fun o e => b1.extBut _ _ D.l1z e
  have a2 : S2 k g1 := N2.fr k _ _ h2 (fun o e => b1.extBut _ _ D.i2z e) fun o e => b1.extBut _ _ D.l2z e
  cases hx : xs[k]? with
  | none =>
    refine wpAny_bind (N1.stop _ _ { s with heap := g1 } k _ hh a1 hx fun g2 e b2 he => ?_)
    obtain ⟨oe, hoe, hce⟩ := he
    have z2 : IsZip g2 z TI TO .ellipsis := b2 _ _ D.i1z.symm z1
    have ez : e ≠ z := fun u => by subst u; rw [z2] at hoe; cases hoe; simp at hce
    exact wpAny_setField_rec z2 (by simp) fun g3 _ b3 => q g3 e (fun c o n1 _ n3 _ u => b3.extBut _ _ n1 (b2 _ _ n3 (b1.extBut _ _ n1 u))) ⟨oe, b3.extBut _ _ ez hoe, hce⟩
  | some x =>
    have hy : ys[k]? = none := hend.resolve_left (by rw [hx]; exact fun u => nomatch u)
    refine wpAny_bind (N1.item _ _ { s with heap := g1 } k x _ a1 hx fun g2 c1 b2 => wpAny_pure ?_)
    have t2 : IsPair g2 TO a b := b2.extBut _ _ D.TOi1 (b1.extBut _ _ D.TOz hTO)
    refine wpAny_bind (wpAny_seqItems t2 rfl ?_)
    refine wpAny_bind (wpAny_updateSeq_pair t2 fun g3 t3 b3 => ?_)
    refine wpAny_bind (wpAny_letGo (wpAny_pure ?_))
    refine wpAny_bind (wpAny_bind (wpAny_onRaise ?_))
    show wpAny _ _ (Builtin.SmallTypes.nextOf (.ref i2) >>= _) _ _ _
    have a3 : S2 k g3 := N2.fr k _ _ (N2.fr k _ _ a2 (fun o e => b2.extBut _ _ D.i12.symm e) fun o e => b2.extBut _ _ D.l2i1 e) (fun o e => b3.extBut _ _ D.TOi2.symm e) fun o e => b3.extBut _ _ D.l2TO e
    refine wpAny_bind (N2.stop _ _ { s with heap := g3 } k _ hh a3 hy fun g4 e b4 he => ?_)
    obtain ⟨oe, hoe, hce⟩ := he
    have z4 : IsZip g4 z TI TO .ellipsis := b4 _ _ D.i2z.symm (b3.extBut _ _ D.TOz.symm (b2.extBut _ _ D.i1z.symm z1))
    have ez : e ≠ z := fun u => by subst u; rw [z4] at hoe; cases hoe; simp at hce
    exact wpAny_setField_rec z4 (by simp) fun g5 _ b5 => q g5 e (fun c o n1 n2 n3 n4 u => b5.extBut _ _ n1 (b4 _ _ n4 (b3.extBut _ _ n2 (b2.extBut _ _ n3 (b1.extBut _ _ n1 u))))) ⟨oe, b5.extBut _ _ ez hoe, hce⟩

/-- a zip that has given k pairs out; S: the list that holds them -/
def ZAt (z TI TO i1 i2 l1 l2 S : Addr) (S1 S2 : Nat → Heap → Prop) (k : Nat) (g : Heap) : Prop :=
  IsPair g TI (.ref i1) (.ref i2) ∧ S1 k g ∧ S2 k g ∧ ((IsZip g z TI TO .none ∧ ∃ a b, IsPair g TO a b) ∨ ∃ T f o, (T ≠ S ∧ T ≠ z ∧ T ≠ i1 ∧ T ≠ i2) ∧ IsZipHeld g z TI TO T f ∧ g.get? T = some o)
variable {S : Addr}
theorem ZAt.kp {g g' : Heap} (N1 : Nx prog w i1 l1 xs S1) (N2 : Nx prog w i2 l2 ys S2) (st : ZAt z TI TO i1 i2 l1 l2 S S1 S2 k g) (nS : S ∉ [z, TI, TO, i1, i2, l1, l2]) (kp : ∀ b o, b ≠ S → g.get? b = some o → g'.get? b = some o) : ZAt z TI TO i1 i2 l1 l2 S S1 S2 k g' := by
  simp only [List.mem_cons, List.not_mem_nil, or_false, not_or] at nS
  obtain ⟨n1, n2, n3, n4, n5, n6, n7⟩ := nS
  obtain ⟨p, s1, s2, hz⟩ := st
  refine ⟨kp _ _ (Ne.symm n2) p, N1.fr _ _ _ s1 (fun o e => kp _ _ (Ne.symm n4) e) fun o e => kp _ _ (Ne.symm n6) e, N2.fr _ _ _ s2 (fun o e => kp _ _ (Ne.symm n5) e) fun o e => kp _ _ (Ne.symm n7) e, ?_⟩
  rcases hz with ⟨hz, a, b, ht⟩ | ⟨T, f, o, nT, hz, ht⟩
  · exact .inl ⟨kp _ _ (Ne.symm n1) hz, a, b, kp _ _ (Ne.symm n3) ht⟩
  · exact .inr ⟨T, f, o, nT, kp _ _ (Ne.symm n1) hz, kp _ _ nT.1 ht⟩
theorem za_next {Q : Option Value → Shared → Prop} (D : ZipApart z TI TO i1 i2 l1 l2) (N1 : Nx prog w i1 l1 xs S1) (N2 : Nx prog w i2 l2 ys S2) (st : ZAt z TI TO i1 i2 l1 l2 S S1 S2 k s.heap) (hS : S < s.heap.objs.size) (hx : xs[k]? = some x) (hy : ys[k]? = some y)
    (q : ∀ g, ZAt z TI TO i1 i2 l1 l2 S S1 S2 (k + 1) g → IsPair g s.heap.objs.size x y → g.objs.size = s.heap.objs.size + 1 → (∀ c o, c ∉ [z, TO, i1, i2] → s.heap.get? c = some o → g.get? c = some o) → Q (some (.ref s.heap.objs.size)) { s with heap := g }) :
    wpAny (model prog w) A (pyNext (.ref z)) Q E s := by
  obtain ⟨p, s1, s2, hz⟩ := st
  have nS : s.heap.objs.size ≠ S := Nat.ne_of_gt hS
  have m1 : s.heap.objs.size ≠ i1 := Nat.ne_of_gt (N1.lt _ _ s1).1
  have m2 : s.heap.objs.size ≠ i2 := Nat.ne_of_gt (N2.lt _ _ s2).1
  rcases hz with ⟨hz, a, b, ht⟩ | ⟨T, f, o, nT, hz, ht⟩
  · have hty : s.TypeIs (.ref z) "zip" := ⟨_, hz, rfl⟩
    have m0 : s.heap.objs.size ≠ z := Nat.ne_of_gt (Heap.lt_size hz)
    unfold pyNext
    refine wpAny_bind (wpAny_attempt (wpAny_callSpecial?_slot (name := Str.ofString "__next__") hty F.slot_zip_next (wpAny_call_entry F.slot_zip_next hty F.entry_zip_next (zf_item D N1 N2 hz p ht s1 s2 hx hy fun g z1 c1 c2 pp sz kp => wpAny_pure (q g ⟨?_, c1, c2, .inr ⟨_, _, _, ⟨nS, m0, m1, m2⟩, z1, pp⟩⟩ pp sz fun c o hc e => ?_)) (F.args_zip_next_1 _))))
    · exact kp _ _ D.TIz D.TITO D.TIi1 D.TIi2 p
    · simp only [List.mem_cons, List.not_mem_nil, or_false, not_or] at hc
      exact kp c o hc.1 hc.2.1 hc.2.2.1 hc.2.2.2 e
  · have hty : s.TypeIs (.ref z) "zip" := ⟨_, hz, rfl⟩
    unfold pyNext
    refine wpAny_bind (wpAny_attempt (wpAny_callSpecial?_slot (name := Str.ofString "__next__") hty F.slot_zip_next (wpAny_call_entry F.slot_zip_next hty F.entry_zip_next (zh_item D N1 N2 hz ht p s1 s2 hx hy fun g z1 c1 c2 pp sz kp => wpAny_pure (q g ⟨?_, c1, c2, .inr ⟨T, true, o, nT, z1, kp _ _ nT.2.1 nT.2.2.1 nT.2.2.2 ht⟩⟩ pp sz fun c o hc e => ?_)) (F.args_zip_next_1 _))))
    · exact kp _ _ D.TIz D.TIi1 D.TIi2 p
    · simp only [List.mem_cons, List.not_mem_nil, or_false, not_or] at hc
      exact kp c o hc.1 hc.2.2.1 hc.2.2.2 e
theorem za_stop {Q : Option Value → Shared → Prop} (hh : A.handled = none) (D : ZipApart z TI TO i1 i2 l1 l2) (N1 : Nx prog w i1 l1 xs S1) (N2 : Nx prog w i2 l2 ys S2) (st : ZAt z TI TO i1 i2 l1 l2 S S1 S2 k s.heap) (hend : xs[k]? = none ∨ ys[k]? = none)
    (q : ∀ g, (∀ c o, c ∉ [z, TO, i1, i2] → s.heap.get? c = some o → g.get? c = some o) → Q none { s with heap := g }) :
    wpAny (model prog w) A (pyNext (.ref z)) Q E s := by
  obtain ⟨p, s1, s2, hz⟩ := st
  rcases hz with ⟨hz, a, b, ht⟩ | ⟨T, f, o, nT, hz, ht⟩
  · have hty : s.TypeIs (.ref z) "zip" := ⟨_, hz, rfl⟩
    unfold pyNext
    refine wpAny_bind (wpAny_attempt (wpAny_callSpecial?_slot (name := Str.ofString "__next__") hty F.slot_zip_next (wpAny_call_entry F.slot_zip_next hty F.entry_zip_next (zf_stop hh D N1 N2 hz p ht s1 s2 hend fun g e kp he => ?_) (F.args_zip_next_1 _))))
    obtain ⟨o, ho, hc⟩ := he
    refine wpAny_bind (wpAny_isInstance (T := "StopIteration") (b := true) ⟨o, ho, hc⟩ isSubtype_stop (wpAny_pure (q g fun c o hc e => ?_)))
    simp only [List.mem_cons, List.not_mem_nil, or_false, not_or] at hc
    exact kp c o hc.1 hc.2.1 hc.2.2.1 hc.2.2.2 e
  · have hty : s.TypeIs (.ref z) "zip" := ⟨_, hz, rfl⟩
    unfold pyNext
    refine wpAny_bind (wpAny_attempt (wpAny_callSpecial?_slot (name := Str.ofString "__next__") hty F.slot_zip_next (wpAny_call_entry F.slot_zip_next hty F.entry_zip_next (zh_stop hh D N1 N2 hz ht p s1 s2 hend fun g e kp he => ?_) (F.args_zip_next_1 _))))
    obtain ⟨o, ho, hc⟩ := he
    refine wpAny_bind (wpAny_isInstance (T := "StopIteration") (b := true) ⟨o, ho, hc⟩ isSubtype_stop (wpAny_pure (q g fun c o hc e => ?_)))
    simp only [List.mem_cons, List.not_mem_nil, or_false, not_or] at hc
    exact kp c o hc.1 hc.2.2.1 hc.2.2.2 e
/-- the list's items: references to new pairs, one behind the other -/
def PairsAt (g : Heap) (B : Nat) (Ts : List Addr) (ps : List (Value × Value)) : Prop := Ts.Pairwise (fun a b => a < b) ∧ (∀ t ∈ Ts, B ≤ t) ∧ Paired (fun t p => IsPair g t p.1 p.2) Ts ps
theorem Paired.snoc {α β : Type} {R : α → β → Prop} {a : α} {b : β} : ∀ {l : List α} {m : List β}, Paired R l m → R a b → Paired R (l ++ [a]) (m ++ [b])
  | _, _, .nil, r => .cons r .nil
  | _, _, .cons r t, q => .cons r (Paired.snoc t q)
theorem Paired.memL {α β : Type} {R : α → β → Prop} {a : α} : ∀ {l : List α} {m : List β}, Paired R l m → a ∈ l → ∃ b, R a b
  | _, _, .nil, h => by cases h
  | _, _, .cons r t, h => by
    rcases List.mem_cons.mp h with e | h
    · subst e; exact ⟨_, r⟩
    · exact Paired.memL t h
theorem PairsAt.kp {g g' : Heap} {B : Nat} {Ts : List Addr} {ps : List (Value × Value)} (h : PairsAt g B Ts ps) (kp : ∀ b o, B ≤ b → g.get? b = some o → g'.get? b = some o) : PairsAt g' B Ts ps := by
  refine ⟨h.1, h.2.1, ?_⟩
  obtain ⟨h1, h2, h3⟩ := h
  clear h1
  induction h3 with
  | nil => exact .nil
  | cons r t ih => exact .cons (kp _ _ (h2 _ List.mem_cons_self) r) (ih fun t ht => h2 t (List.mem_cons_of_mem _ ht))
theorem PairsAt.lt {g : Heap} {B : Nat} {Ts : List Addr} {ps : List (Value × Value)} (h : PairsAt g B Ts ps) : ∀ t ∈ Ts, t < g.objs.size := fun t ht => by
  obtain ⟨p, r⟩ := Paired.memL h.2.2 ht
  exact Heap.lt_size r
theorem zip_loop {res : Value} {R : Result → Shared → Prop} {B : Nat} (hh : A.handled = none) (D : ZipApart z TI TO i1 i2 l1 l2) (N1 : Nx prog w i1 l1 xs S1) (N2 : Nx prog w i2 l2 ys S2) (nS : S ∉ [z, TI, TO, i1, i2, l1, l2]) (hz : xs.size ≤ sizeLine) :
    ∀ (n k : Nat) (s : Shared) (acc : Array Value) (c : Nat) (Ts : List Addr), (xs.toList.zip ys.toList).length - k = n → k ≤ (xs.toList.zip ys.toList).length → B ≤ s.heap.objs.size → S < B → (∀ b ∈ [z, TO, i1, i2], b < B) → ZAt z TI TO i1 i2 l1 l2 S S1 S2 k s.heap → listAt s.heap S acc c →
      acc.toList = Ts.map Value.ref → PairsAt s.heap B Ts ((xs.toList.zip ys.toList).take k) →
      (∀ g acc' c' Ts', (∀ b o, b ∉ [S, z, TO, i1, i2] → s.heap.get? b = some o → g.get? b = some o) → listAt g S acc' c' → acc'.toList = Ts'.map Value.ref → PairsAt g B Ts' (xs.toList.zip ys.toList) → R (.ok (.ret res)) { s with heap := g }) →
      codeAny (model prog w) A (loopCode S z res) R s := by
  intro n
  induction n with
  | zero =>
    intro k s acc c Ts hn hk hB hSB hfp st at0 ea pa fin
    have ek : k = (xs.toList.zip ys.toList).length := by omega
    have hend : xs[k]? = none ∨ ys[k]? = none := by
      rw [List.length_zip] at ek
      rcases Nat.le_total xs.toList.length ys.toList.length with h | h
      · refine .inl (Array.getElem?_eq_none ?_)
        rw [← Array.length_toList]; omega
      · refine .inr (Array.getElem?_eq_none ?_)
        rw [← Array.length_toList]; omega
    refine loop_last (za_stop (A := A.in1) hh D N1 N2 st hend fun g kp => ⟨rfl, ?_⟩)
    have hSz : S ∉ [z, TO, i1, i2] := fun h => nS (by simp only [List.mem_cons, List.not_mem_nil, or_false] at h ⊢; rcases h with h | h | h | h <;> simp [h])
    refine fin g acc c Ts (fun b o hb e => kp b o (fun h => hb (List.mem_cons_of_mem _ h)) e) (kp _ _ hSz at0) ea ?_
    have et : (xs.toList.zip ys.toList).take k = xs.toList.zip ys.toList := by rw [ek, List.take_length]
    rw [et] at pa
    exact pa.kp fun b o hb e => kp b o (fun h => Nat.lt_irrefl _ (Nat.lt_of_lt_of_le (hfp b h) hb)) e
  | succ n ih =>
    intro k s acc c Ts hn hk hB hSB hfp st at0 ea pa fin
    have hlt : k < (xs.toList.zip ys.toList).length := by omega
    have hl := hlt
    rw [List.length_zip] at hl
    have hkx : k < xs.size := by rw [← Array.length_toList]; omega
    have hky : k < ys.size := by rw [← Array.length_toList]; omega
    have hx : xs[k]? = some xs[k] := Array.getElem?_eq_getElem hkx
    have hy : ys[k]? = some ys[k] := Array.getElem?_eq_getElem hky
    have hp : (xs.toList.zip ys.toList)[k]? = some (xs[k], ys[k]) := by
      rw [List.getElem?_zip_eq_some]
      exact ⟨by rw [Array.getElem?_toList]; exact hx, by rw [Array.getElem?_toList]; exact hy⟩
    have et : (xs.toList.zip ys.toList).take (k + 1) = (xs.toList.zip ys.toList).take k ++ [(xs[k], ys[k])] := by rw [List.take_add_one, hp]; rfl
    have hSz : S ∉ [z, TO, i1, i2] := fun h => nS (by simp only [List.mem_cons, List.not_mem_nil, or_false] at h ⊢; rcases h with h | h | h | h <;> simp [h])
    have la : acc.size = k := by
      rw [← Array.length_toList, ea, List.length_map, Paired.len2 pa.2.2, List.length_take]
      omega
    refine loop_turn (by omega) (za_next (A := A.in1) D N1 N2 st (Nat.lt_of_lt_of_le hSB hB) hx hy fun g st1 pp sz kp => ⟨_, rfl, kp _ _ hSz at0, fun g' c' kp' at' => ?_⟩)
    have hg : s.heap.objs.size + 1 ≤ g'.objs.size := Heap.lt_size (kp' _ _ (Nat.ne_of_gt (Nat.lt_of_lt_of_le hSB hB)) pp)
    have kB : ∀ b o, B ≤ b → s.heap.get? b = some o → g.get? b = some o := fun b o hb e => kp b o (fun h => Nat.lt_irrefl _ (Nat.lt_of_lt_of_le (hfp b h) hb)) e
    have kS : ∀ b o, B ≤ b → g.get? b = some o → g'.get? b = some o := fun b o hb e => kp' b o (fun h => Nat.lt_irrefl _ (Nat.lt_of_lt_of_le (h ▸ hSB) hb)) e
    refine ih (k + 1) { s with heap := g' } (acc.push (.ref s.heap.objs.size)) c' (Ts ++ [s.heap.objs.size]) (by omega) hlt (by show B ≤ g'.objs.size; omega) hSB hfp (st1.kp N1 N2 nS kp') at' (by rw [Array.toList_push, ea, List.map_append]; rfl) ?_ fun g2 acc2 c2 Ts2 kp2 at2 ea2 pa2 => ?_
    · rw [et]
      have pa' := (pa.kp kB).kp kS
      refine ⟨List.pairwise_append.mpr ⟨pa.1, List.pairwise_singleton _ _, fun a ha b hb => ?_⟩, fun t ht => ?_, Paired.snoc pa'.2.2 (kS _ _ hB pp)⟩
      · have eb : b = s.heap.objs.size := by simpa using hb
        rw [eb]
        exact pa.lt a ha
      · rcases List.mem_append.mp ht with h | h
        · exact pa.2.1 t h
        · have eb : t = s.heap.objs.size := by simpa using h
          rw [eb]; exact hB
    · refine fin g2 acc2 c2 Ts2 (fun b o hb e => kp2 b o hb (kp' b o (fun h => hb (by simp [h])) (kp b o (fun h => hb (List.mem_cons_of_mem _ h)) e))) at2 ea2 pa2
/-- list(a zip that is new) -/
theorem call_list_zip {Q : Value → Shared → Prop} (hh : A.handled = none) (D : ZipApart z TI TO i1 i2 l1 l2) (N1 : Nx prog w i1 l1 xs S1) (N2 : Nx prog w i2 l2 ys S2) (hzi : IsZip s.heap z TI TO .none) (hTI : IsPair s.heap TI (.ref i1) (.ref i2)) (hTO : IsPair s.heap TO a b) (h1 : S1 0 s.heap) (h2 : S2 0 s.heap) (hz : xs.size ≤ sizeLine)
    (q : ∀ g acc c Ts, (∀ b o, b ∉ [z, TO, i1, i2] → s.heap.get? b = some o → g.get? b = some o) → listAt g s.heap.objs.size acc c → acc.toList = Ts.map Value.ref → PairsAt g (s.heap.objs.size + 1) Ts (xs.toList.zip ys.toList) → Q (.ref s.heap.objs.size) { s with heap := g }) :
    wpAny (model prog w) A (call (.type "list") [.ref z]) Q E s := by
  have l1' := N1.lt _ _ h1
  have l2' := N2.lt _ _ h2
  have lz : z < s.heap.objs.size := Heap.lt_size hzi
  have lI : TI < s.heap.objs.size := Heap.lt_size hTI
  have lO : TO < s.heap.objs.size := Heap.lt_size hTO
  have hlt : ∀ b ∈ [z, TI, TO, i1, i2, l1, l2], b < s.heap.objs.size := fun b hb => by
    simp only [List.mem_cons, List.not_mem_nil, or_false] at hb
    rcases hb with h | h | h | h | h | h | h <;> rw [h]
    · exact lz
    · exact lI
    · exact lO
    · exact l1'.1
    · exact l2'.1
    · exact l1'.2
    · exact l2'.2
  have nS : s.heap.objs.size ∉ [z, TI, TO, i1, i2, l1, l2] := fun h => Nat.lt_irrefl _ (hlt _ h)
  have C : Src prog w "zip" z [z, TI, TO, i1, i2, l1, l2] (fun g => IsZip g z TI TO .none ∧ IsPair g TI (.ref i1) (.ref i2) ∧ IsPair g TO a b ∧ S1 0 g ∧ S2 0 g) := {
    ty := fun t st => ⟨_, st.1, rfl⟩
    mem := by simp
    lt := fun g st b hb => by
      obtain ⟨g1, g2, g3, g4, g5⟩ := st
      simp only [List.mem_cons, List.not_mem_nil, or_false] at hb
      rcases hb with h | h | h | h | h | h | h <;> rw [h]
      · exact Heap.lt_size g1
      · exact Heap.lt_size g2
      · exact Heap.lt_size g3
      · exact (N1.lt _ _ g4).1
      · exact (N2.lt _ _ g5).1
      · exact (N1.lt _ _ g4).2
      · exact (N2.lt _ _ g5).2
    kp := fun g g' st k => ⟨k z (by simp) _ st.1, k TI (by simp) _ st.2.1, k TO (by simp) _ st.2.2.1, N1.fr _ _ _ st.2.2.2.1 (fun o e => k i1 (by simp) o e) fun o e => k l1 (by simp) o e, N2.fr _ _ _ st.2.2.2.2 (fun o e => k i2 (by simp) o e) fun o e => k l2 (by simp) o e⟩
    nl := by decide +kernel
    nt := by decide +kernel
    it := fun B F t Q st q => wpAny_pyIter_zip st.1 q
    hi := fun B F t Q st q => hint_zip ⟨_, st.1, rfl⟩ q }
  refine src_call C ⟨hzi, hTI, hTO, h1, h2⟩ fun R g c st kg ag fin => ?_
  have hg : s.heap.objs.size < g.objs.size := Heap.lt_size ag
  refine zip_loop (A := A.in1) (B := s.heap.objs.size + 1) hh D N1 N2 nS hz _ 0 { s with heap := g } #[] c [] rfl (Nat.zero_le _) hg (Nat.lt_succ_self _) (fun b hb => ?_) ⟨st.2.1, st.2.2.2.1, st.2.2.2.2, .inl ⟨st.1, a, b, st.2.2.1⟩⟩ ag rfl ⟨List.Pairwise.nil, fun t ht => (by cases ht), by rw [List.take_zero]; exact .nil⟩ fun g' acc c' Ts kp at' ea pa => fin _ (q g' acc c' Ts (fun b o hb e => kp b o (fun h => ?_) (kg b o e)) at' ea pa)
  · exact Nat.lt_succ_of_lt (hlt b (by simp only [List.mem_cons, List.not_mem_nil, or_false] at hb ⊢; rcases hb with h | h | h | h <;> simp [h]))
  · rcases List.mem_cons.mp h with h | h
    · exact absurd (Heap.lt_size e) (by rw [h]; exact Nat.lt_irrefl _)
    · exact hb h
end
end Fx

end

/-! Fx15: the rules for list(zip(x, y)), list(reversed(x)), ranges, enumerate, zip -/
noncomputable section
namespace Fx
open PySem PySem.Spec PyProof.Rows L2

def updL (H : Hp) : List (Addr × HO) → Hp
  | [] => H
  | p :: r => updL (upd H p.1 p.2) r
theorem updL_ne {b : Addr} : ∀ {l : List (Addr × HO)} {H : Hp}, b ∉ l.map (·.1) → updL H l b = H b
  | [], _, _ => rfl
  | p :: r, H, h => by
    have h' : b ≠ p.1 ∧ b ∉ r.map (·.1) := by simpa using h
    show updL (upd H p.1 p.2) r b = H b
    rw [updL_ne h'.2, upd_ne h'.1]
theorem updL_at {p : Addr × HO} : ∀ {l : List (Addr × HO)} {H : Hp}, (l.map (·.1)).Nodup → p ∈ l → updL H l p.1 = some p.2
  | q :: r, H, nd, h => by
    have nd' := List.nodup_cons.mp (show (q.1 :: r.map (·.1)).Nodup from nd)
    show updL (upd H q.1 q.2) r p.1 = some p.2
    rcases List.mem_cons.mp h with e | h
    · subst e
      rw [updL_ne nd'.1, upd_same]
    · exact updL_at nd'.2 h
section
variable {X : Cx} {pins : List (Addr × Obj)} {σ : L2.St}
/-- many new objects at once -/
theorem Inv.many {g : Heap} {tk : Nat} : ∀ (news : List (Addr × HO)) (s : Shared) (H : Hp), Inv X pins σ H s → (∀ b u, s.heap.get? b = some u → g.get? b = some u) → (news.map (·.1)).Nodup → (∀ p ∈ news, s.heap.get? p.1 = none ∧ H p.1 = none) →
    (∀ p ∈ news, ∀ (H' : Hp) (G : Heap), G.get? p.1 = g.get? p.1 → ObjOk X.prog X.w H' G p.1 p.2) → Inv X pins σ (updL H news) { s with heap := g, toks := tk }
  | [], s, H, I, k, _, _, _ => I.kept k
  | p :: r, s, H, I, k, nd, fr, ok => by
    have nd' := List.nodup_cons.mp (show (p.1 :: r.map (·.1)).Nodup from nd)
    obtain ⟨G, g1, g2⟩ := restrict g fun b => (s.heap.get? b).isSome || b == p.1
    have gp : G.get? p.1 = g.get? p.1 := g1 _ (by simp)
    have kG : ∀ b u, s.heap.get? b = some u → G.get? b = some u := fun b u e => by rw [g1 b (by simp [e])]; exact k b u e
    have I1 : Inv X pins σ (upd H p.1 p.2) { s with heap := G, toks := tk } := I.laidN kG (fr p List.mem_cons_self).1 (fr p List.mem_cons_self).2 (ok p List.mem_cons_self _ _ gp)
    have I2 := Inv.many (g := g) (tk := tk) r { s with heap := G, toks := tk } (upd H p.1 p.2) I1 (fun b u e => by
      by_cases h : ((s.heap.get? b).isSome || b == p.1) = true
      · rw [← g1 b h]; exact e
      · have := g2 b (by simpa using h)
        rw [show G.get? b = some u from e] at this
        cases this) nd'.2 (fun q hq => by
      have nq : q.1 ≠ p.1 := fun z => nd'.1 (z ▸ List.mem_map_of_mem hq)
      obtain ⟨f1, f2⟩ := fr q (List.mem_cons_of_mem _ hq)
      exact ⟨g2 _ (by simp [f1, nq]), by rw [upd_ne nq]; exact f2⟩) fun q hq => ok q (List.mem_cons_of_mem _ hq)
    exact I2
end
/-- a new list of new pairs -/
def NewPairs (H H2 : Hp) (p : Addr) (xs ys : List V) : Prop := H p = none ∧ (∀ b o, H b = some o → H2 b = some o) ∧ ∃ Ts : List Addr, H2 p = some (.lst (Ts.map V.ref)) ∧ Paired (fun t q => t ≠ p ∧ H t = none ∧ H2 t = some (.tup [q.1, q.2])) Ts (xs.zip ys)
def tListZip (K : PySem.W.Frag) (ta : TA) : TE := fun σ H Q => ta σ H fun vs H1 => ∃ a b xs ys, vs = [.ref a, .ref b] ∧ ((SqL K H1 a xs ∧ SqL K H1 b ys) ∨ (SqT K H1 a xs ∧ SqT K H1 b ys)) ∧ ∀ p H2, NewPairs H1 H2 p xs ys → Q (.ref p) H2
theorem vals_zip {xs ys : List V} {us ws : List Value} (r : Vals xs us) (r' : Vals ys ws) : Paired (fun (p : V × V) (q : Value × Value) => RelV p.1 q.1 ∧ RelV p.2 q.2) (xs.zip ys) (us.zip ws) := by
  induction r generalizing ys ws with
  | nil => exact .nil
  | cons h t ih =>
    cases r' with
    | nil => exact .nil
    | cons h' t' => exact .cons ⟨h, h'⟩ (ih t')
theorem Paired.comp {α β γ : Type} {R : α → β → Prop} {S : γ → β → Prop} : ∀ {l : List α} {m : List β} {n : List γ}, Paired R l m → Paired S n m → Paired (fun a c => ∃ b, R a b ∧ S c b) l n
  | _, _, _, .nil, h => by cases h; exact .nil
  | _, _, _, .cons r t, h => by
    cases h with
    | cons r' t' => exact .cons ⟨_, r, r'⟩ (Paired.comp t t')
theorem Paired.ofGet {α β : Type} {R : α → β → Prop} : ∀ {l : List α} {m : List β}, l.length = m.length → (∀ (i : Nat) (a : α) (b : β), l[i]? = some a → m[i]? = some b → R a b) → Paired R l m
  | [], [], _, _ => .nil
  | [], _ :: _, e, _ => by simp at e
  | _ :: _, [], e, _ => by simp at e
  | a :: l, b :: m, e, h => .cons (h 0 a b rfl rfl) (Paired.ofGet (by simpa using e) fun i a b h1 h2 => h (i + 1) a b (by simpa using h1) (by simpa using h2))
section
variable {X : Cx} {pins : List (Addr × Obj)} {σ : L2.St} {H1 : Hp} {t : Shared}
theorem newPairs_fin {Q : VK} {B : Addr} {xs ys : List V} {us ws : List Value} {g : Heap} {acc : Array Value} {c : Nat} {Ts : List Addr} {S : Addr} (J : Inv X pins σ H1 t) (kp : ∀ b o, t.heap.get? b = some o → g.get? b = some o) (hS : t.heap.objs.size ≤ S) (hz : xs.length ≤ sizeLine)
    (ag : listAt g S acc c) (ea : acc.toList = Ts.map Value.ref) (pa : PairsAt g (S + 1) Ts (us.zip ws)) (r : Vals xs us) (r' : Vals ys ws) (q : ∀ p H2, NewPairs H1 H2 p xs ys → Q (.ref p) H2) :
    EP X pins σ Q (.ref S) { t with heap := g } := by
  have pz := Paired.comp pa.2.2 (vals_zip r r')
  have hlen : Ts.length = (xs.zip ys).length := Paired.len2 pz
  let news : List (Addr × HO) := (S, .lst (Ts.map V.ref)) :: (Ts.zip (xs.zip ys)).map fun p => (p.1, .tup [p.2.1, p.2.2])
  have e1 : ((Ts.zip (xs.zip ys)).map fun p => ((p.1, HO.tup [p.2.1, p.2.2]) : Addr × HO)).map (·.1) = Ts := by
    rw [List.map_map]
    show (Ts.zip (xs.zip ys)).map Prod.fst = Ts
    exact List.map_fst_zip (by omega)
  have nd : (news.map (·.1)).Nodup := by
    show (S :: ((Ts.zip (xs.zip ys)).map fun p => ((p.1, HO.tup [p.2.1, p.2.2]) : Addr × HO)).map (·.1)).Nodup
    rw [e1]
    refine List.nodup_cons.mpr ⟨fun h => Nat.lt_irrefl _ (pa.2.1 S h), List.Pairwise.imp (fun {a b} (h : a < b) => Nat.ne_of_lt h) pa.1⟩
  have up : ∀ p ∈ news, t.heap.objs.size ≤ p.1 := fun p hp => by
    have hm : p.1 ∈ S :: Ts := by
      have := List.mem_map_of_mem (f := fun x : Addr × HO => x.1) hp
      have e2 : news.map (·.1) = S :: Ts := by
        show S :: ((Ts.zip (xs.zip ys)).map fun p => ((p.1, HO.tup [p.2.1, p.2.2]) : Addr × HO)).map (·.1) = _
        rw [e1]
      rw [← e2]; exact this
    rcases List.mem_cons.mp hm with h | h
    · rw [h]; exact hS
    · have := pa.2.1 _ h
      omega
  have fr : ∀ p ∈ news, t.heap.get? p.1 = none ∧ H1 p.1 = none := fun p hp => by
    refine ⟨?_, J.hok.fresh (up p hp)⟩
    cases e : t.heap.get? p.1 with
    | none => rfl
    | some o => exact absurd (Heap.lt_size e) (Nat.not_lt.mpr (up p hp))
  have J2 := Inv.many (g := g) (tk := t.toks) news t H1 J kp nd fr fun p hp H' G eg => by
    rcases List.mem_cons.mp hp with h | h
    · subst h
      refine ⟨?_, acc.toList, c, ?_, ?_⟩
      · rw [List.length_map, hlen, List.length_zip]; omega
      · rw [ea]; exact vals_refs _
      · rw [Array.toArray_toList]; exact eg.trans ag
    · obtain ⟨⟨T, x, y⟩, hm, rfl⟩ := List.mem_map.mp h
      obtain ⟨i, hi⟩ := List.mem_iff_getElem?.mp hm
      obtain ⟨h1, h2⟩ := List.getElem?_zip_eq_some.mp hi
      obtain ⟨T', eT, b, hp1, hr1, hr2⟩ := Paired.get2 pz h2
      have : T' = T := by rw [show Ts[i]? = some T' from eT] at h1; exact Option.some.inj h1
      subst this
      exact ⟨by show 2 ≤ sizeLine; decide, [b.1, b.2], .cons hr1 (.cons hr2 .nil), ⟨_, (show G.get? _ = _ from eg).trans hp1, rfl, _, rfl⟩⟩
  refine ⟨.ref S, updL H1 news, J2, rfl, q S _ ⟨J.hok.fresh hS, fun b o e => ?_, Ts, ?_, ?_⟩⟩
  · refine (updL_ne fun h => ?_).trans e
    obtain ⟨p, hp, hb⟩ := List.mem_map.mp h
    rw [← hb, (fr p hp).2] at e
    cases e
  · exact updL_at (p := (S, HO.lst (Ts.map V.ref))) nd List.mem_cons_self
  · refine Paired.ofGet hlen fun i T pq h1 h2 => ?_
    have hT : T ∈ Ts := List.mem_iff_getElem?.mpr ⟨i, h1⟩
    have hm : ((T, HO.tup [pq.1, pq.2]) : Addr × HO) ∈ news := by
      refine List.mem_cons_of_mem _ (List.mem_map.mpr ⟨(T, pq), ?_, rfl⟩)
      exact List.mem_iff_getElem?.mpr ⟨i, List.getElem?_zip_eq_some.mpr ⟨h1, h2⟩⟩
    have h3 := pa.2.1 T hT
    exact ⟨Nat.ne_of_gt h3, (fr _ hm).2, updL_at (p := (T, HO.tup [pq.1, pq.2])) nd hm⟩
theorem pe_listZip {e e2 : Expr} {ta : TA} {p p2 pos pos2 : Pos} (hc : X.calm = true) (hm : X.mg "list" = none) (hm2 : X.mg "zip" = none) (ha : PA X [e, e2] ta) (hg : Gl X "list" := by rfl) (hg2 : Gl X "zip" := by rfl)
    (hs : starEach [e, e2] X.env = (false, eval e X.env) :: starEach [e2] X.env := by rfl) (hpl : (backTo pos2 (starEach [e2] X.env)).any (·.1) = false := by rfl) (n2 : starEach [.Call (.Name "zip" p2) [e, e2] [] pos2] X.env = (false, eval (.Call (.Name "zip" p2) [e, e2] [] pos2) X.env) :: starEach [] X.env := by rfl) :
    PE X (.Call (.Name "list" p) [.Call (.Name "zip" p2) [e, e2] [] pos2] [] pos) (tListZip X.K ta) := by
  refine ⟨fun pins s σ H Q I h => Call_ (ld_blt I hg hm boot_list (PyProof.Rows.callWith_type1 (args_cons (Call_ (ld_blt I hg2 hm2 PyProof.Rows.boot_zip (PyProof.Rows.callWith_type1 (thn (ha.run pos2 pins s σ H _ I h) fun us t ⟨vs, H1, J, rv, q⟩ => ?_) hs hpl))) n2) n2 rfl))⟩
  obtain ⟨a, b, xs, ys, ev, hq, q⟩ := q
  subst ev
  cases rv with
  | cons r rr =>
    cases rr with
    | cons r' rr =>
      cases rr
      cases r
      cases r'
      rcases hq with ⟨qx, qy⟩ | ⟨qx, qy⟩
      · obtain ⟨us, rx, p1, z1⟩ := J.list qx
        obtain ⟨ws, ry, p3, z2⟩ := J.list qy
        refine call_zip_2 p1.isList p3.isList fun g hz hTI hTO h1 h2 hsz hk => args_nil ?_
        have J2 : Inv X pins σ H1 { t with heap := g } := J.kept (t' := t.toks) hk
        have ne1 : a ≠ t.heap.objs.size := Nat.ne_of_lt p1.lt
        have ne2 : b ≠ t.heap.objs.size + 1 := Nat.ne_of_lt (Nat.lt_succ_of_lt p3.lt)
        refine call_list_zip (s := { t with heap := g }) (J.ok.hd hc) (PySem.W.ktu_apart t.heap.objs.size a b p1.lt p3.lt) (nx_list (xs := us.toArray) ne1) (nx_list (xs := ws.toArray) ne2) hz hTI hTO ⟨h1, p1.isList.at fun o e => hk _ o e⟩ ⟨h2, p3.isList.at fun o e => hk _ o e⟩ (by rw [List.size_toArray, ← rx.length]; exact z1) fun g2 acc c Ts kp ag ea pa => ?_
        refine newPairs_fin (t := t) (g := g2) (B := a) (us := us) (ws := ws) J (fun b o e => kp b o (fun h => ?_) (hk b o e)) (by show t.heap.objs.size ≤ g.objs.size; omega) z1 ag ea pa rx ry q
        have := Heap.lt_size e
        simp only [List.mem_cons, List.not_mem_nil, or_false] at h
        rcases h with h | h | h | h <;> rw [h] at this
        · exact absurd this (Nat.not_lt.mpr (Nat.le_add_right _ _))
        · exact absurd this (Nat.not_lt.mpr (Nat.le_add_right _ _))
        · exact Nat.lt_irrefl _ this
        · exact absurd this (Nat.not_lt.mpr (Nat.le_add_right _ _))
      · obtain ⟨us, rx, p1, z1⟩ := J.tuple qx
        obtain ⟨ws, ry, p3, z2⟩ := J.tuple qy
        obtain ⟨o1, ho1, _⟩ := id p1
        obtain ⟨o2, ho2, _⟩ := id p3
        have p1' : t.heap.IsTuple a us.toArray := p1
        have p3' : t.heap.IsTuple b ws.toArray := p3
        refine RZ.call_zipT p1' p3' fun g hz hTI hTO h1 h2 hsz hk => args_nil ?_
        have ne1 : a ≠ t.heap.objs.size := Nat.ne_of_lt (Heap.lt_size ho1)
        have ne2 : b ≠ t.heap.objs.size + 1 := Nat.ne_of_lt (Nat.lt_succ_of_lt (Heap.lt_size ho2))
        refine call_list_zip (s := { t with heap := g }) (J.ok.hd hc) (PySem.W.ktu_apart t.heap.objs.size a b (Heap.lt_size ho1) (Heap.lt_size ho2)) (nx_tup (xs := us.toArray) ne1) (nx_tup (xs := ws.toArray) ne2) hz hTI hTO ⟨h1, p1'.at fun o e => hk _ o e⟩ ⟨h2, p3'.at fun o e => hk _ o e⟩ (by rw [List.size_toArray, ← rx.length]; exact z1) fun g2 acc c Ts kp ag ea pa => ?_
        refine newPairs_fin (t := t) (g := g2) (B := a) (us := us) (ws := ws) J (fun b o e => kp b o (fun h => ?_) (hk b o e)) (by show t.heap.objs.size ≤ g.objs.size; omega) z1 ag ea pa rx ry q
        have := Heap.lt_size e
        simp only [List.mem_cons, List.not_mem_nil, or_false] at h
        rcases h with h | h | h | h <;> rw [h] at this
        · exact absurd this (Nat.not_lt.mpr (Nat.le_add_right _ _))
        · exact absurd this (Nat.not_lt.mpr (Nat.le_add_right _ _))
        · exact Nat.lt_irrefl _ this
        · exact absurd this (Nat.not_lt.mpr (Nat.le_add_right _ _))
end
end Fx

end

/-! Fx16: list(reversed(x)), list(zip(x, y)), tuples and lists of ranges, enumerate, zip, sorted(set(x)) -/
noncomputable section
namespace Fx
open PySem PySem.Spec PyProof.Rows L2

section
variable {X : Cx} {np : Nat} {pos : Pos}
def fListRev (ow : Bool) (f : FE) : FE := fun Γ => (f Γ).bind fun p => (dv p.2 p.1).bind fun d => match d with
  | .list ds => some ((Res.new ds.reverse).fin ow, p.2)
  | _ => none
theorem fx_listRev {ow : Bool} {a : Expr} {fa : FE} {p p2 pos2 : Pos} (hc : X.calm = true) (ml : X.mg "list" = none) (mr : X.mg "reversed" = none) (ha : FX X np a fa) (hg : Gl X "list" := by rfl) (hg2 : Gl X "reversed" := by rfl)
    (n1 : starEach [a] X.env = (false, eval a X.env) :: starEach [] X.env := by rfl) (n2 : starEach [.Call (.Name "reversed" p2) [a] [] pos2] X.env = (false, eval (.Call (.Name "reversed" p2) [a] [] pos2) X.env) :: starEach [] X.env := by rfl) :
    FX X np (.Call (.Name "list" p) [.Call (.Name "reversed" p2) [a] [] pos2] [] pos) (fListRev ow fa) := by
  refine PE.weak (pe_listRev hc ml mr ha hg hg2 n1 n2) fun σ H Q h => ?_
  obtain ⟨W, Γ, vs, ts, t, Γ', c, e, q⟩ := h
  obtain ⟨⟨t1, Γ1⟩, e1, e⟩ := Option.bind_eq_some_iff.mp e
  obtain ⟨d, e2, e⟩ := Option.bind_eq_some_iff.mp e
  split at e
  · rename_i ds
    cases e
    refine ⟨W, Γ, vs, ts, _, Γ1, c, e1, fun x H1 c1 => ?_⟩
    obtain ⟨O, c1⟩ := c1
    obtain ⟨a, xs, rfl, ha, fa⟩ := c1.view c1.top e2
    exact ⟨a, xs, rfl, .of ha, fun p hp => okn (fun v H' ok => q v H' (c1.pop.res ok)) hp fa.reverse⟩
  · cases e
def fListZip (ow : Bool) (fs : FA) : FE := fun Γ => (fs Γ).bind fun p => (dvs p.2 p.1).bind fun ds => match ds with
  | [.list as, .list bs] => some ((Res.new (zipD as bs)).fin ow, p.2)
  | [.tuple as, .tuple bs] => some ((Res.new (zipD as bs)).fin ow, p.2)
  | _ => none
theorem zip_frozen {K : PySem.W.Frag} {O : Own} {H H2 : Hp} {p : Addr} {as bs : List PyData} {xs ys : List V} (fa : FzA K O H as xs) (fb : FzA K O H bs ys) (kp : Kp O H O H2) (hT : ∀ t, t ≠ p → H t = none → O t = none) : ∀ {Ts : List Addr}, Paired (fun t q => t ≠ p ∧ H t = none ∧ H2 t = some (.tup [q.1, q.2])) Ts (xs.zip ys) → FzA K O H2 (zipD as bs) (Ts.map V.ref) := by
  intro Ts h
  have hl : Ts.length = (xs.zip ys).length := Paired.len2 h
  refine FzA.of_get ?_ fun i d v e1 e2 => ?_
  · unfold zipD
    rw [List.length_map, List.length_map, hl, List.length_zip, List.length_zip, fa.length, fb.length]
  · obtain ⟨x, y, g1, g2, rfl⟩ := zipD_get e1
    obtain ⟨u, eu, ru⟩ := fa.get g1
    obtain ⟨w, ew, rw'⟩ := fb.get g2
    have ez : (xs.zip ys)[i]? = some (u, w) := List.getElem?_zip_eq_some.mpr ⟨eu, ew⟩
    obtain ⟨T, eT, h0, h1, h2⟩ := Paired.get2 h ez
    rw [List.getElem?_map, show Ts[i]? = some T from eT] at e2
    cases e2
    exact .tup (.inl h2) (hT T h0 h1) (.cons (Fz.kp kp _ _ ru) (.cons (Fz.kp kp _ _ rw') .nil))
theorem Cf.newZip {K : PySem.W.Frag} {W : Wd} {O : Own} {σ : L2.St} {H H2 : Hp} {Γ : Gm} {vs : List V} {ts : List TV} {ow : Bool} {p : Addr} {as bs : List PyData} {xs ys : List V} (c : Cf K np W O σ H Γ vs ts) (fa : FzA K O H as xs) (fb : FzA K O H bs ys) (n : NewPairs H H2 p xs ys) :
    Cfg K np W σ H2 Γ (.ref p :: vs) ((Res.new (zipD as bs)).fin ow :: ts) := by
  obtain ⟨hp, kp, Ts, h2, pr⟩ := n
  have k0 : Kp O H O H2 := fun b o e n => ⟨kp b o e, n⟩
  have dom2 : ∀ b t, O b = some t → H2 b ≠ none := fun b t q => by
    cases z : H b with
    | none => exact absurd z (c.dom b t q)
    | some o => rw [kp b o z]; exact fun z => by cases z
  cases ow with
  | false =>
    have a0 : Ev J0 O H O H2 := ⟨fun b o e _ => ⟨kp b o e, rfl⟩, dom2, fun _ h => h⟩
    exact ⟨O, (c.ev0 a0).push (.lst h2 (own_none c.dom hp) (zip_frozen fa fb k0 (fun t _ h => own_none c.dom h) pr))⟩
  | true =>
    have n1 : ∀ b o, H b = some o → put O p (.tmp ts.length) b = O b := fun b o e => put_ne (ne_of_none e hp)
    have k1 : Kp O H (put O p (.tmp ts.length)) H := fun b o e n => ⟨e, (n1 b o e).trans n⟩
    have a1 : Ev J0 O H (put O p (.tmp ts.length)) H2 := by
      refine ⟨fun b o e _ => ⟨kp b o e, n1 b o e⟩, fun b t q => ?_, fun b q => ?_⟩
      · by_cases e : b = p
        · rw [e, h2]; exact fun z => by cases z
        · rw [put_ne e] at q; exact dom2 b t q
      · by_cases e : b = p
        · rw [e, put_same] at q; cases q
        · rwa [put_ne e] at q
    refine ⟨_, (c.ev0 a1).push ⟨p, _, rfl, put_same, h2, ?_⟩⟩
    exact zip_frozen (p := p) (FzA.kp k1 _ _ fa) (FzA.kp k1 _ _ fb) (fun b o e n => ⟨kp b o e, n⟩) (fun t h0 h => by rw [put_ne h0]; exact own_none c.dom h) pr
theorem fx_listZip {ow : Bool} {e e2 : Expr} {fs : FA} {p p2 pos2 : Pos} (hc : X.calm = true) (ml : X.mg "list" = none) (mz : X.mg "zip" = none) (ha : FAX X np [e, e2] fs) (hg : Gl X "list" := by rfl) (hg2 : Gl X "zip" := by rfl)
    (hs : starEach [e, e2] X.env = (false, eval e X.env) :: starEach [e2] X.env := by rfl) (hpl : (backTo pos2 (starEach [e2] X.env)).any (·.1) = false := by rfl) (n2 : starEach [.Call (.Name "zip" p2) [e, e2] [] pos2] X.env = (false, eval (.Call (.Name "zip" p2) [e, e2] [] pos2) X.env) :: starEach [] X.env := by rfl) :
    FX X np (.Call (.Name "list" p) [.Call (.Name "zip" p2) [e, e2] [] pos2] [] pos) (fListZip ow fs) := by
  refine PE.weak (pe_listZip hc ml mz ha hg hg2 hs hpl n2) fun σ H Q h => ?_
  obtain ⟨W, Γ, vs, ts, t, Γ', c, e, q⟩ := h
  obtain ⟨⟨us, Γ1⟩, e1, e⟩ := Option.bind_eq_some_iff.mp e
  obtain ⟨ds, e2, e⟩ := Option.bind_eq_some_iff.mp e
  refine ⟨W, Γ, vs, ts, us, Γ1, c, e1, fun xs H1 c1 el => ?_⟩
  obtain ⟨O, c1⟩ := c1
  obtain ⟨pr, c2⟩ := c1.args el
  have vw := c2.views pr e2
  split at e
  · cases e
    obtain ⟨x, y, rfl, ⟨a, us, rfl, ha, fa⟩, ⟨b, ws, rfl, hb, fb⟩⟩ := vw.two
    exact ⟨a, b, us, ws, rfl, .inl ⟨.of ha, .of hb⟩, fun p H2 n => q _ H2 (c2.newZip fa fb n)⟩
  · cases e
    obtain ⟨x, y, rfl, h1, h2⟩ := vw.two
    obtain ⟨a, us, rfl, ha, fa⟩ := Fz.sqT h1
    obtain ⟨b, ws, rfl, hb, fb⟩ := Fz.sqT h2
    exact ⟨a, b, us, ws, rfl, .inr ⟨ha, hb⟩, fun p H2 n => q _ H2 (c2.newZip fa fb n)⟩
  · cases e

/-! ### ranges -/
def fTupR1 (f : FE) : FE := fun Γ => (f Γ).bind fun p => (intT p.1).bind fun n => (rgA n).map fun l => (.md (.dat (.tuple l)), p.2)
theorem fx_tupR1 {a : Expr} {p pr pc : Pos} {fa : FE} (hc : X.calm = true) (ml : X.mg "tuple" = none) (mr : X.mg "range" = none) (ha : FX X np a fa) (gl : Gl X "tuple" := by rfl) (gr : Gl X "range" := by rfl)
    (n1 : starEach [a] X.env = (false, eval a X.env) :: starEach [] X.env := by rfl) (n2 : starEach [.Call (.Name "range" pr) [a] [] pc] X.env = (false, eval (.Call (.Name "range" pr) [a] [] pc) X.env) :: starEach [] X.env := by rfl) :
    FX X np (.Call (.Name "tuple" p) [.Call (.Name "range" pr) [a] [] pc] [] pos) (fTupR1 fa) := by
  refine PE.weak (pe_tupRg hc gl ml (prg_1 gr mr ha n1) n2) fun σ H Q h => ?_
  obtain ⟨W, Γ, vs, ts, t, Γ', c, e, q⟩ := h
  obtain ⟨⟨t1, Γ1⟩, e1, e⟩ := Option.bind_eq_some_iff.mp e
  obtain ⟨n, e2, e⟩ := Option.bind_eq_some_iff.mp e
  obtain ⟨l, e3, e4⟩ := Option.map_eq_some_iff.mp e
  cases e4
  have ht : t1 = .md (.dat (.int n)) := intT_to e2
  subst ht
  obtain ⟨hn, el⟩ := rgA_to e3
  subst el
  refine ⟨W, Γ, vs, ts, _, Γ1, c, e1, fun x H1 c1 => ?_⟩
  obtain ⟨O, c1⟩ := c1
  have r : Fz X.K O H1 (.int n) x := c1.top
  cases r
  refine ⟨n, rfl, rg2Ok_to hn, fun p hp => ?_⟩
  have fz := rangeV (K := X.K) (O := O) (H := H1) 0 n
  rw [Int.sub_zero] at fz
  exact okt c1.dom (fun v H' ok => q v H' (c1.pop.res (ow := false) ok)) hp fz
def fTupR2 (fa fb : FE) : FE := fun Γ => (fa Γ).bind fun p => (fb p.2).bind fun p2 => (intT p.1).bind fun i => (intT p2.1).bind fun j => (rgB i j).map fun l => (.md (.dat (.tuple l)), p2.2)
def fListR2 (ow : Bool) (fa fb : FE) : FE := fun Γ => (fa Γ).bind fun p => (fb p.2).bind fun p2 => (intT p.1).bind fun i => (intT p2.1).bind fun j => (rgB i j).map fun l => ((Res.new l).fin ow, p2.2)
section
variable {a b : Expr} {p pr pc : Pos} {fa fb : FE}
theorem fx_tupR2 (hc : X.calm = true) (ml : X.mg "tuple" = none) (mr : X.mg "range" = none) (ha : FX X np a fa) (hb : FX X np b fb) (gl : Gl X "tuple" := by rfl) (gr : Gl X "range" := by rfl)
    (n0 : starEach [a, b] X.env = (false, eval a X.env) :: starEach [b] X.env := by rfl) (n1 : starEach [b] X.env = (false, eval b X.env) :: starEach [] X.env := by rfl) (hp : (backTo pc (starEach [b] X.env)).any (·.1) = false := by rfl) (n2 : starEach [.Call (.Name "range" pr) [a, b] [] pc] X.env = (false, eval (.Call (.Name "range" pr) [a, b] [] pc) X.env) :: starEach [] X.env := by rfl) :
    FX X np (.Call (.Name "tuple" p) [.Call (.Name "range" pr) [a, b] [] pc] [] pos) (fTupR2 fa fb) := by
  refine PE.weak (pe_tupRg hc gl ml (prg_2 gr mr ha hb n0 n1 hp) n2) fun σ H Q h => ?_
  obtain ⟨W, Γ, vs, ts, t, Γ', c, e, q⟩ := h
  obtain ⟨⟨t1, Γ1⟩, e1, e⟩ := Option.bind_eq_some_iff.mp e
  obtain ⟨⟨t2, Γ2⟩, e2, e⟩ := Option.bind_eq_some_iff.mp e
  obtain ⟨i, e3, e⟩ := Option.bind_eq_some_iff.mp e
  obtain ⟨j, e4, e5⟩ := Option.bind_eq_some_iff.mp e
  have h1 : t1 = .md (.dat (.int i)) := intT_to e3
  have h2 : t2 = .md (.dat (.int j)) := intT_to e4
  subst h1 h2
  obtain ⟨l, e6, e7⟩ := Option.map_eq_some_iff.mp e5
  cases e7
  obtain ⟨hn, el⟩ := rgB_to e6
  subst el
  refine ⟨W, Γ, vs, ts, _, Γ1, c, e1, fun x H1 c1 => ⟨W, Γ1, _, _, _, Γ2, c1, e2, fun y H2 c2 => ?_⟩⟩
  obtain ⟨O, c2⟩ := c2
  have r : Fz X.K O H2 (.int j) y := c2.top
  have r' : Fz X.K O H2 (.int i) x := c2.pop.top
  cases r
  cases r'
  exact ⟨i, j, rfl, rfl, rg2Ok_to hn, fun p hp => okt c2.dom (fun v H' ok => q v H' (c2.pop.pop.res (ow := false) ok)) hp (rangeV i j)⟩
theorem fx_listR2 {ow : Bool} (hc : X.calm = true) (ml : X.mg "list" = none) (mr : X.mg "range" = none) (ha : FX X np a fa) (hb : FX X np b fb) (gl : Gl X "list" := by rfl) (gr : Gl X "range" := by rfl)
    (n0 : starEach [a, b] X.env = (false, eval a X.env) :: starEach [b] X.env := by rfl) (n1 : starEach [b] X.env = (false, eval b X.env) :: starEach [] X.env := by rfl) (hp : (backTo pc (starEach [b] X.env)).any (·.1) = false := by rfl) (n2 : starEach [.Call (.Name "range" pr) [a, b] [] pc] X.env = (false, eval (.Call (.Name "range" pr) [a, b] [] pc) X.env) :: starEach [] X.env := by rfl) :
    FX X np (.Call (.Name "list" p) [.Call (.Name "range" pr) [a, b] [] pc] [] pos) (fListR2 ow fa fb) := by
  refine PE.weak (pe_listRg hc gl ml (prg_2 gr mr ha hb n0 n1 hp) n2) fun σ H Q h => ?_
  obtain ⟨W, Γ, vs, ts, t, Γ', c, e, q⟩ := h
  obtain ⟨⟨t1, Γ1⟩, e1, e⟩ := Option.bind_eq_some_iff.mp e
  obtain ⟨⟨t2, Γ2⟩, e2, e⟩ := Option.bind_eq_some_iff.mp e
  obtain ⟨i, e3, e⟩ := Option.bind_eq_some_iff.mp e
  obtain ⟨j, e4, e5⟩ := Option.bind_eq_some_iff.mp e
  have h1 : t1 = .md (.dat (.int i)) := intT_to e3
  have h2 : t2 = .md (.dat (.int j)) := intT_to e4
  subst h1 h2
  obtain ⟨l, e6, e7⟩ := Option.map_eq_some_iff.mp e5
  cases e7
  obtain ⟨hn, el⟩ := rgB_to e6
  subst el
  refine ⟨W, Γ, vs, ts, _, Γ1, c, e1, fun x H1 c1 => ⟨W, Γ1, _, _, _, Γ2, c1, e2, fun y H2 c2 => ?_⟩⟩
  obtain ⟨O, c2⟩ := c2
  have r : Fz X.K O H2 (.int j) y := c2.top
  have r' : Fz X.K O H2 (.int i) x := c2.pop.top
  cases r
  cases r'
  exact ⟨i, j, rfl, rfl, rg2Ok_to hn, fun p hp => okn (fun v H' ok => q v H' (c2.pop.pop.res ok)) hp (rangeV i j)⟩
end

/-! ### zip that is walked -/
def fZip (fs : FA) : FI := fun Γ => (fs Γ).bind fun p => match p.1 with
  | [.md (.dat (.list as)), .md (.dat (.list bs))] => some (zipD as bs, p.2)
  | [.md (.dat (.tuple as)), .md (.dat (.tuple bs))] => some (zipD as bs, p.2)
  | _ => none
theorem fi_zip {e e2 : Expr} {fs : FA} {p tpos : Pos} {elts : List Expr} {kk : Nat} (hm : X.mg "zip" = none) (ha : FAX X np [e, e2] fs) (hg : Gl X "zip" := by rfl) (hs : starEach [e, e2] X.env = (false, eval e X.env) :: starEach [e2] X.env := by rfl) (hpl : (backTo pos (starEach [e2] X.env)).any (·.1) = false := by rfl) :
    FIX X np (.Tuple elts kk tpos) (.Call (.Name "zip" p) [e, e2] [] pos) (fZip fs) := by
  refine PI.weak (RZ.pi_zipA hg hm ha hs hpl) fun σ H R h => ?_
  obtain ⟨W, Γ, vs, ts, items, Γ', c, e, q⟩ := h
  obtain ⟨⟨us, Γ1⟩, e1, e⟩ := Option.bind_eq_some_iff.mp e
  refine ⟨W, Γ, vs, ts, us, Γ1, c, e1, fun xs H1 c1 el => ?_⟩
  obtain ⟨O, c1⟩ := c1
  dsimp only at e
  split at e
  · cases e
    match xs, el with
    | [x, y], _ =>
      have cc : Cf X.K np W O σ H1 Γ' (y :: x :: vs) (.md (.dat (.list _)) :: .md (.dat (.list _)) :: ts) := c1
      have r1 : Fz X.K O H1 _ y := cc.top
      have r2 : Fz X.K O H1 _ x := cc.pop.top
      obtain ⟨a, us, rfl, ha, fa, _⟩ := r2.sqL
      obtain ⟨b, ws, rfl, hb, fb, _⟩ := r1.sqL
      exact ⟨a, b, us, ws, rfl, .inl ⟨.of ha, .of hb, q _ _ _ cc.pop.pop (itf_zip r2 r1)⟩⟩
  · cases e
    match xs, el with
    | [x, y], _ =>
      have cc : Cf X.K np W O σ H1 Γ' (y :: x :: vs) (.md (.dat (.tuple _)) :: .md (.dat (.tuple _)) :: ts) := c1
      have r1 : Fz X.K O H1 _ y := cc.top
      have r2 : Fz X.K O H1 _ x := cc.pop.top
      obtain ⟨a, us, rfl, ha, fa⟩ := r2.sqT
      obtain ⟨b, ws, rfl, hb, fb⟩ := r1.sqT
      exact ⟨a, b, us, ws, rfl, .inr ⟨ha, hb, q _ _ _ cc.pop.pop (itf_zipT r2 r1)⟩⟩
  · cases e
end
end Fx

end

/-! Fx17: dicts with whole numbers and texts as keys; sorted(set(x)) -/
noncomputable section
namespace Fx
open PySem PySem.Spec PyProof.Rows L2

def kD : Key → PyData
  | .inl i => .int i
  | .inr x => .str x
def kOf : PyData → Option Key
  | .int i => some (.inl i)
  | .str x => some (.inr x)
  | _ => none
theorem kOf_kD (k : Key) : kOf (kD k) = some k := by cases k <;> rfl
theorem kOf_to {d : PyData} {k : Key} (h : kOf d = some k) : d = kD k := by
  unfold kOf at h
  split at h
  · cases h; rfl
  · cases h; rfl
  · cases h
def valD (kvs : List (Key × PyData)) (k : Key) : Option PyData := (kvs.find? fun p => decide (p.1 = k)).map (·.2)
def putD (kvs : List (Key × PyData)) (k : Key) (d : PyData) : List (Key × PyData) := if (kvs.any fun p => decide (p.1 = k)) = true then kvs.map (fun p => if p.1 = k then (p.1, d) else p) else kvs ++ [(k, d)]
def pairsD (kvs : List (Key × PyData)) : List (PyData × PyData) := kvs.map fun p => (kD p.1, p.2)
def keysD : List (PyData × PyData) → Option (List (Key × PyData))
  | [] => some []
  | p :: r => (kOf p.1).bind fun k => (keysD r).map fun l => (k, p.2) :: l
theorem keysD_pairs (kvs : List (Key × PyData)) : keysD (pairsD kvs) = some kvs := by
  induction kvs with
  | nil => rfl
  | cons p r ih =>
    show (kOf (kD p.1)).bind (fun k => (keysD (pairsD r)).map fun l => (k, p.2) :: l) = _
    rw [kOf_kD, ih]
    rfl
section
variable {K : PySem.W.Frag} {O : Own} {H : Hp} {kvs : List (Key × PyData)} {ws : List (Key × V)}
theorem kD_fz {k : Key} {v : V} (h : Fz K O H (kD k) v) : v = kV k := by
  cases k with
  | inl i => cases h; rfl
  | inr x => cases h; rfl
theorem fz_kD (k : Key) : Fz K O H (kD k) (kV k) := by
  cases k with
  | inl i => exact .int i
  | inr x => exact .str x
theorem kV_inj {a b : Key} (h : kV a = kV b) : a = b := by
  cases a <;> cases b <;> cases h <;> rfl
theorem PDict.val (h : PDict K O H kvs ws) (k : Key) : (∀ d, valD kvs k = some d → ∃ v, valV ws k = some v ∧ Fz K O H d v) ∧ (valD kvs k = none → valV ws k = none) := by
  unfold PDict at h
  induction h with
  | nil => exact ⟨fun d e => (by cases e), fun _ => rfl⟩
  | @cons p q l m r t ih =>
    by_cases e : p.1 = k
    · have e' : q.1 = k := r.1.symm.trans e
      have a1 : valD (p :: l) k = some p.2 := by simp [valD, e]
      rw [a1, valV_pos e']
      exact ⟨fun d h => (by cases h; exact ⟨_, rfl, r.2⟩), fun h => (by cases h)⟩
    · have e' : ¬ q.1 = k := fun z => e (r.1.trans z)
      have a1 : valD (p :: l) k = valD l k := by simp [valD, e]
      rw [a1, valV_neg e']
      exact ih
theorem PDict.any (h : PDict K O H kvs ws) (k : Key) : (kvs.any fun p => decide (p.1 = k)) = (ws.any fun p => decide (p.1 = k)) := by
  unfold PDict at h
  induction h with
  | nil => rfl
  | @cons p q l m r t ih => rw [List.any_cons, List.any_cons, ih, r.1]
theorem PDict.put (h : PDict K O H kvs ws) (k : Key) {d : PyData} {v : V} (r : Fz K O H d v) : PDict K O H (putD kvs k d) (putK ws k v) := by
  unfold putD putK
  rw [h.any k]
  split
  · unfold PDict at h ⊢
    rename_i hh
    clear hh
    induction h with
    | nil => exact .nil
    | @cons p q l m r0 t ih =>
      rw [List.map_cons, List.map_cons]
      refine .cons ?_ ih
      by_cases e : p.1 = k
      · rw [if_pos e, if_pos (r0.1.symm.trans e)]
        exact ⟨r0.1, r⟩
      · rw [if_neg e, if_neg fun z => e (r0.1.trans z)]
        exact r0
  · unfold PDict at h ⊢
    exact Paired.snoc h ⟨rfl, r⟩
theorem PDict.frz (h : PDict K O H kvs ws) : FzD K O H (pairsD kvs) ws := by
  unfold PDict at h
  induction h with
  | nil => exact .nil
  | @cons p q l m r t ih =>
    show FzD K O H ((kD p.1, p.2) :: pairsD l) _
    obtain ⟨q1, q2⟩ := q
    obtain ⟨rfl, r2⟩ := r
    exact .cons (fz_kD _) r2 ih
theorem pdict_of : ∀ {ds : List (PyData × PyData)} {ws : List (Key × V)} {kvs : List (Key × PyData)}, FzD K O H ds ws → keysD ds = some kvs → PDict K O H kvs ws
  | [], _, _, h, e => by
    cases h
    cases e
    exact .nil
  | p :: r, _, _, h, e => by
    obtain ⟨e0, d0⟩ := p
    obtain ⟨k, e1, e⟩ := Option.bind_eq_some_iff.mp e
    obtain ⟨l, e2, e⟩ := Option.map_eq_some_iff.mp e
    cases e
    have e1' := kOf_to e1
    dsimp only at e1'
    subst e1'
    cases h with
    | cons h1 h2 h3 => exact .cons ⟨(kV_inj (kD_fz h1)).symm, h2⟩ (pdict_of h3 e2)
theorem PDict.length (h : PDict K O H kvs ws) : kvs.length = ws.length := Paired.len2 h
theorem PDict.keys (h : PDict K O H kvs ws) : ws.map (·.1) = kvs.map (·.1) := by
  unfold PDict at h
  induction h with
  | nil => rfl
  | @cons p q l m r t ih => rw [List.map_cons, List.map_cons, ih, r.1]
end
/-- what a value holds as a dict -/
def dkM : MD → Option (List (Key × PyData))
  | .dcK kvs => some kvs
  | .dat (.dict ds) => keysD ds
  | _ => none
def dkT (Γ : Gm) : TV → Option (List (Key × PyData))
  | .md m => dkM m
  | .al i => match Γ[i]? with
    | some (some m) => dkM m
    | _ => none
section
variable {K : PySem.W.Frag} {np : Nat} {W : Wd} {O O' : Own} {σ σ' : L2.St} {H H' : Hp} {Γ Γ' : Gm} {vs : List V} {ts : List TV}
theorem dkM_at {t : Tag} {m : MD} {v : V} {kvs : List (Key × PyData)} (r : MR K O H t m v) (e : dkM m = some kvs) : ∃ a ws, v = .ref a ∧ Rd H a (.dK ws) ∧ PDict K O H kvs ws := by
  cases m with
  | dcK l =>
    cases e
    obtain ⟨a, ws, rfl, _, h1, h2⟩ := r
    exact ⟨a, ws, rfl, .inl h1, h2⟩
  | dat d =>
    cases d with
    | dict ds =>
      have r' : Fz K O H (.dict ds) v := r
      cases r' with
      | dct hr n fd => exact ⟨_, _, rfl, .inr ⟨_, hr⟩, pdict_of fd e⟩
    | _ => cases e
  | _ => cases e
theorem Cf.dkAt (c : Cf K np W O σ H Γ vs ts) {t : TV} {g : Tag} {v : V} {kvs : List (Key × PyData)} (r : TR K O H σ Γ g t v) (e : dkT Γ t = some kvs) : ∃ a ws, v = .ref a ∧ Rd H a (.dK ws) ∧ PDict K O H kvs ws := by
  cases t with
  | md m => exact dkM_at r e
  | al i =>
    obtain ⟨e1, m, e2, _⟩ := r
    obtain ⟨v', e3, r'⟩ := c.sl i m e2
    rw [e1] at e3
    cases e3
    simp only [dkT, e2] at e
    exact dkM_at r' e
end
section
variable {X : Cx} {np : Nat} {pos pos' apos : Pos} {o i x : Expr} {fo fi fx : FE}
/-- {} -/
def fDNewK : FE := fun Γ => some (.md (.dcK []), Γ)
theorem fx_dnewK : FX X np (.Dict [] [] pos) fDNewK := by
  refine PE.weak pe_dnewK fun σ H Q h => ?_
  obtain ⟨W, Γ, vs, ts, t, Γ', ⟨O, c⟩, e, q⟩ := h
  cases e
  intro p hp
  have n := Ev.newOwn (o := .dK []) (t := .tmp ts.length) (by simp) c.dom hp
  exact q _ _ ⟨_, (c.ev0 n).push ⟨p, [], rfl, put_same, upd_same, .nil⟩⟩
/-- d[k] -/
def fDGet (fo fi : FE) : FE := fun Γ => (fo Γ).bind fun p => (fi p.2).bind fun p2 => (dkT p2.2 p.1).bind fun kvs => (frz p2.1).bind fun kd => (kOf kd).bind fun k => (valD kvs k).map fun d => (.md (.dat d), p2.2)
theorem fx_dget (hu : X.A.units + 1 < cLine) (ho : FX X np o fo) (hi : FX X np i fi) (hs : NoSl i := by intro _ _; rfl) : FX X np (.Subscript o i pos) (fDGet fo fi) := by
  refine PE.weak (pe_dget hu ho hi hs) fun σ H Q h => ?_
  obtain ⟨W, Γ, vs, ts, t, Γ', c, e, q⟩ := h
  obtain ⟨⟨t1, Γ1⟩, e1, e⟩ := Option.bind_eq_some_iff.mp e
  obtain ⟨⟨t2, Γ2⟩, e2, e⟩ := Option.bind_eq_some_iff.mp e
  obtain ⟨kvs, e3, e⟩ := Option.bind_eq_some_iff.mp e
  obtain ⟨kd, e4, e⟩ := Option.bind_eq_some_iff.mp e
  obtain ⟨k, e5, e⟩ := Option.bind_eq_some_iff.mp e
  obtain ⟨d, e6, e⟩ := Option.map_eq_some_iff.mp e
  cases e
  refine ⟨W, Γ, vs, ts, t1, Γ1, c, e1, fun x H1 c1 => ⟨W, Γ1, _, _, t2, Γ2, c1, e2, fun y H2 c2 => ?_⟩⟩
  obtain ⟨O, c2⟩ := c2
  have h2 : t2 = .md (.dat kd) := frz_to e4
  subst h2
  have h3 := kOf_to e5
  subst h3
  obtain ⟨a, ws, rfl, ha, pd⟩ := c2.dkAt c2.pop.top e3
  obtain ⟨v, ev, rv⟩ := (pd.val k).1 d e6
  exact ⟨a, v, rfl, .inl ⟨ws, k, ha, kD_fz c2.top, ev.symm⟩, q v H2 ⟨O, c2.pop.pop.push (t := .md (.dat d)) rv⟩⟩
/-- k in d, k not in d -/
def fDIn (neg : Bool) (fi fo : FE) : FE := fun Γ => (fi Γ).bind fun p => (fo p.2).bind fun p2 => (dkT p2.2 p2.1).bind fun kvs => (frz p.1).bind fun kd => (kOf kd).map fun k => (.md (.dat (.bool ((valD kvs k).isSome != neg))), p2.2)
theorem din_read {neg : Bool} {σ : L2.St} {H : Hp} {Q : VK} (h : up X.K np (fDIn neg fi fo) σ H Q) : up X.K np fi σ H fun y H1 => up X.K np fo σ H1 fun x H2 => ∃ a o, x = .ref a ∧ DGet H2 a y o ∧ Q (.bl (o.isSome != neg)) H2 := by
  obtain ⟨W, Γ, vs, ts, t, Γ', c, e, q⟩ := h
  obtain ⟨⟨t1, Γ1⟩, e1, e⟩ := Option.bind_eq_some_iff.mp e
  obtain ⟨⟨t2, Γ2⟩, e2, e⟩ := Option.bind_eq_some_iff.mp e
  obtain ⟨kvs, e3, e⟩ := Option.bind_eq_some_iff.mp e
  obtain ⟨kd, e4, e⟩ := Option.bind_eq_some_iff.mp e
  obtain ⟨k, e5, e⟩ := Option.map_eq_some_iff.mp e
  cases e
  refine ⟨W, Γ, vs, ts, t1, Γ1, c, e1, fun y H1 c1 => ⟨W, Γ1, _, _, t2, Γ2, c1, e2, fun x H2 c2 => ?_⟩⟩
  obtain ⟨O, c2⟩ := c2
  have h2 : t1 = .md (.dat kd) := frz_to e4
  subst h2
  have h3 := kOf_to e5
  subst h3
  obtain ⟨a, ws, rfl, ha, pd⟩ := c2.dkAt c2.top e3
  have es : (valV ws k).isSome = (valD kvs k).isSome := by
    cases z : valD kvs k with
    | none => rw [(pd.val k).2 z]; rfl
    | some d => obtain ⟨v, ev, _⟩ := (pd.val k).1 d z; rw [ev]; rfl
  refine ⟨a, valV ws k, rfl, .inl ⟨ws, k, ha, kD_fz c2.pop.top, rfl⟩, ?_⟩
  rw [es]
  exact q _ H2 ⟨O, c2.pop.pop.push (t := .md (.dat (.bool ((valD kvs k).isSome != neg)))) (.bl _)⟩
theorem fx_din (hu : X.A.units + 1 < cLine) (hi : FX X np i fi) (ho : FX X np o fo) (hm : behindInMarks .In o = false := by rfl) : FX X np (.Compare i [.In] [o] pos) (fDIn false fi fo) :=
  PE.weak (pe_cmp (pc_din hu hi ho) hm) fun _ _ _ h => by
    have := din_read (neg := false) h
    simp only [Bool.bne_false] at this
    exact this
theorem ft_din (hu : X.A.units + 1 < cLine) (hi : FX X np i fi) (ho : FX X np o fo) (hm : behindInMarks .In o = false := by rfl) : FTX X np (.Compare i [.In] [o] pos) (fT (fDIn false fi fo)) :=
  PT.weak (pt_cmp (pc_din hu hi ho) hm) fun _ _ _ h => by
    have := din_read (neg := false) (np := np) (asTest h)
    simp only [Bool.bne_false] at this
    exact this
theorem fx_dnotin (hu : X.A.units + 1 < cLine) (hi : FX X np i fi) (ho : FX X np o fo) (hm : behindInMarks .NotIn o = false := by rfl) : FX X np (.Compare i [.NotIn] [o] pos) (fDIn true fi fo) :=
  PE.weak (pe_cmp (pc_dnotin hu hi ho) hm) fun _ _ _ h => by
    have := din_read (neg := true) h
    simp only [Bool.bne_true] at this
    exact this
theorem ft_dnotin (hu : X.A.units + 1 < cLine) (hi : FX X np i fi) (ho : FX X np o fo) (hm : behindInMarks .NotIn o = false := by rfl) : FTX X np (.Compare i [.NotIn] [o] pos) (fT (fDIn true fi fo)) :=
  PT.weak (pt_cmp (pc_dnotin hu hi ho) hm) fun _ _ _ h => by
    have := din_read (neg := true) (np := np) (asTest h)
    simp only [Bool.bne_true] at this
    exact this
/-- d.get(k, x) -/
def fDGet2 (fo fi fx : FE) : FE := fun Γ => (fo Γ).bind fun p => (dkT p.2 p.1).bind fun _ => (fi p.2).bind fun p2 => (fx p2.2).bind fun p3 => (dkT p3.2 p.1).bind fun kvs => (frz p2.1).bind fun kd => (frz p3.1).bind fun xd => (kOf kd).map fun k => (.md (.dat ((valD kvs k).getD xd)), p3.2)
theorem fx_dget2 (hu : X.A.units + 1 < cLine) (ho : FX X np o fo) (hi : FX X np i fi) (hx : FX X np x fx) (m : M2 X o "get" apos i x pos := by exact ⟨rfl, rfl, rfl, rfl⟩) : FX X np (.Call (.Attribute o "get" apos) [i, x] [] pos) (fDGet2 fo fi fx) := by
  refine PE.weak (pe_dget2 hu ho hi hx m) fun σ H Q h => ?_
  obtain ⟨W, Γ, vs, ts, t, Γ', c, e, q⟩ := h
  obtain ⟨⟨t1, Γ1⟩, e1, e⟩ := Option.bind_eq_some_iff.mp e
  obtain ⟨kvs0, e0, e⟩ := Option.bind_eq_some_iff.mp e
  obtain ⟨⟨t2, Γ2⟩, e2, e⟩ := Option.bind_eq_some_iff.mp e
  obtain ⟨⟨t3, Γ3⟩, e3, e⟩ := Option.bind_eq_some_iff.mp e
  obtain ⟨kvs, e4, e⟩ := Option.bind_eq_some_iff.mp e
  obtain ⟨kd, e5, e⟩ := Option.bind_eq_some_iff.mp e
  obtain ⟨xd, e6, e⟩ := Option.bind_eq_some_iff.mp e
  obtain ⟨k, e7, e⟩ := Option.map_eq_some_iff.mp e
  cases e
  have h2 : t2 = .md (.dat kd) := frz_to e5
  have h3 : t3 = .md (.dat xd) := frz_to e6
  subst h2 h3
  have h4 := kOf_to e7
  subst h4
  refine ⟨W, Γ, vs, ts, t1, Γ1, c, e1, fun z H1 c1 => ?_⟩
  obtain ⟨O1, c1⟩ := c1
  obtain ⟨a, ws, rfl, ha, pd⟩ := c1.dkAt c1.top e0
  refine ⟨a, rfl, .inl ⟨ws, ha⟩, W, Γ1, _, _, _, Γ2, ⟨O1, c1⟩, e2, fun y H2 c2 => ⟨W, Γ2, _, _, _, Γ3, c2, e3, fun w H3 c3 => ?_⟩⟩
  obtain ⟨O, c3⟩ := c3
  obtain ⟨a', ws', ea, ha', pd'⟩ := c3.dkAt c3.pop.pop.top e4
  cases ea
  refine ⟨valV ws' k, .inl ⟨ws', k, ha', kD_fz c3.pop.top, rfl⟩, ?_⟩
  cases z : valD kvs k with
  | none =>
    rw [(pd'.val k).2 z]
    exact q _ H3 ⟨O, by rw [z]; exact c3.pop.pop.pop.push (t := .md (.dat xd)) c3.top⟩
  | some d =>
    obtain ⟨v, ev, rv⟩ := (pd'.val k).1 d z
    rw [ev]
    exact q _ H3 ⟨O, by rw [z]; exact c3.pop.pop.pop.push (t := .md (.dat d)) rv⟩
def dcS (Γ : Gm) (i : Nat) : Option (List (Key × PyData)) := match Γ[i]? with
  | some (some (.dcK kvs)) => some kvs
  | _ => none
theorem dcS_to {Γ : Gm} {i : Nat} {kvs : List (Key × PyData)} (e : dcS Γ i = some kvs) : Γ[i]? = some (some (.dcK kvs)) := by
  unfold dcS at e
  split at e
  · rename_i h
    cases e
    exact h
  · cases e
/-- d[k] = x, d a slot's own -/
def fDPut (j : Nat) (fx fi : FE) : FS := fun Γ => (fx Γ).bind fun p => (dcS p.2 j).bind fun _ => (fi p.2).bind fun p2 => (frz p.1).bind fun xd => (frz p2.1).bind fun kd => (kOf kd).bind fun k => (dcS p2.2 j).bind fun kvs => if kvs.length < sizeLine then some (.nx (p2.2.set j (some (.dcK (putD kvs k xd))))) else none
theorem fs_dput (j : Nat) {n : Str} {px : Pos} (hu : X.A.units + 1 < cLine) (hx : FX X np x fx) (hi : FX X np i fi) (hN : X.N[j]? = some n := by rfl) (hv : Vis X.env.scope n := by first | exact Or.inl rfl | exact Or.inr (Or.inl rfl) | exact Or.inr (Or.inr rfl)) (hd : (n == ("__debug__" : Str)) = false := by decide) (hcd : (n == ("__classdict__" : Str)) = false := by decide)
    (hs : swapsWith x (some (.Subscript (.Name n px) i pos')) pos.line X.env = pure false := by rfl) : FSX X np (.Assign [.Subscript (.Name n px) i pos'] x pos) (fDPut j fx fi) := by
  refine PS.weak (ps_dput hu (pe_var hN hv hd hcd) hi hx hs) fun D σ H h => ?_
  obtain ⟨W, Γ, vs, ds, o, c, e, q⟩ := h
  obtain ⟨⟨t1, Γ1⟩, e1, e⟩ := Option.bind_eq_some_iff.mp e
  obtain ⟨kvs0, e0, e⟩ := Option.bind_eq_some_iff.mp e
  obtain ⟨⟨t2, Γ2⟩, e2, e⟩ := Option.bind_eq_some_iff.mp e
  obtain ⟨xd, e3, e⟩ := Option.bind_eq_some_iff.mp e
  obtain ⟨kd, e4, e⟩ := Option.bind_eq_some_iff.mp e
  obtain ⟨k, e5, e⟩ := Option.bind_eq_some_iff.mp e
  obtain ⟨kvs, e6, e7⟩ := Option.bind_eq_some_iff.mp e
  have h1 : t1 = .md (.dat xd) := frz_to e3
  have h2 : t2 = .md (.dat kd) := frz_to e4
  subst h1 h2
  have h4 := kOf_to e5
  subst h4
  split at e7
  · rename_i hl
    cases e7
    refine ⟨W, Γ, vs, tsd ds, _, Γ1, c, e1, fun y H1 c1 => ?_⟩
    obtain ⟨O1, c1⟩ := c1
    obtain ⟨v0, hv0, a, _, rfl, _, _, _⟩ := c1.sl j _ (dcS_to e0)
    refine ⟨.ref a, hv0, W, Γ1, y :: vs, _ :: tsd ds, _, Γ2, ⟨O1, c1⟩, e2, fun z H2 c2 => ?_⟩
    obtain ⟨O2, c2⟩ := c2
    obtain ⟨v, ev, a', ws, rfl, oa, ha, pd⟩ := c2.sl j _ (dcS_to e6)
    rw [hv0] at ev
    cases ev
    refine ⟨a, _, rfl, .inl ⟨ws, k, ha, kD_fz c2.top, by rw [← pd.length]; exact hl, rfl⟩, ?_⟩
    have w := Ev.write (o := .dK (putK ws k y)) c2.dom oa
    exact q σ _ ⟨O2, c2.pop.pop.mutS (dcS_to e6) rfl w hv0 ⟨a, _, rfl, oa, upd_same, (pd.put k c2.pop.top).kp w.k⟩ rfl⟩
  · cases e7
/-- a dict of a slot that is changed no more (no step of the program) -/
def fFrzD (i : Nat) (g : FS) : FS := fun Γ => (dcS Γ i).bind fun kvs => g (Γ.set i (some (.dat (.dict (pairsD kvs)))))
theorem PSs.lockS {ss : List Stmt} {t : TS} (h : PSs X ss t) : PSs X ss (fun D σ H => t D σ H ∨ ∃ d kvs, H d = some (.dK kvs) ∧ ∀ od, t D σ (upd H d (.frz od (.dK kvs)))) := by
  refine ⟨fun pins s σ H D I hw => ?_⟩
  rcases hw with hw | ⟨d, kvs, hd, hw⟩
  · exact h.run pins s σ H D I hw
  · obtain ⟨od, I1⟩ := I.lock hd True.intro
    exact h.run pins s σ _ D I1 (hw od)
theorem Cf.freezeD {K : PySem.W.Frag} {W : Wd} {O : Own} {σ : L2.St} {H : Hp} {Γ : Gm} {vs : List V} {ds : List PyData} {i : Nat} {kvs : List (Key × PyData)} (c : Cf K np W O σ H Γ vs (tsd ds)) (e : Γ[i]? = some (some (.dcK kvs))) :
    ∃ a ws, H a = some (.dK ws) ∧ ∀ od, Cfg K np W σ (upd H a (.frz od (.dK ws))) (Γ.set i (some (.dat (.dict (pairsD kvs))))) vs (tsd ds) := by
  obtain ⟨v, hv, a, ws, rfl, oa, ha, pd⟩ := c.sl i _ e
  refine ⟨a, ws, ha, fun od => ?_⟩
  have hl : i < Γ.length := (List.getElem?_eq_some_iff.mp e).1
  have ev : Ev (· = .slot i) O H (retag O (.slot i) none) (upd H a (.frz od (.dK ws))) := (Ev.write (o := .frz od (.dK ws)) c.dom oa).trans (Ev.retag (by simp) (Ev.write (o := .frz od (.dK ws)) c.dom oa).dom)
  refine ⟨_, ev.dom, fun j m' e' => ?_, Tm.evD ev.k c.tm, fun b o h n => ?_, fun b hb => c.out b (ev.out b hb), c.wt, fun j m' hj e' ho => ?_, by rw [List.length_set]; exact c.len⟩
  · by_cases ji : i = j
    · subst ji
      rw [List.getElem?_set_self hl] at e'
      cases e'
      exact ⟨_, hv, .dct upd_same (retag_of oa) (pd.kp ev.k).frz⟩
    · rw [List.getElem?_set_ne ji] at e'
      obtain ⟨w, e1, r1⟩ := c.sl j m' e'
      exact ⟨w, e1, r1.ev ev (by simpa using fun z => ji z.symm)⟩
  · obtain ⟨h1, e1⟩ := c.keep b o h n
    obtain ⟨h2, e2⟩ := ev.kp b o h1 fun t q z => by
      subst z
      rw [e1] at q
      exact n i q
    exact ⟨h2, e2.trans e1⟩
  · by_cases ji : i = j
    · subst ji
      rw [List.getElem?_set_self hl] at e'
      cases e'
      cases ho
    · rw [List.getElem?_set_ne ji] at e'
      exact c.arg j m' hj e' ho
theorem fss_frzD (i : Nat) {ss : List Stmt} {g : FS} (h1 : FSsX X np ss g) : FSsX X np ss (fFrzD i g) := by
  refine PSs.weak (PSs.lockS h1) fun D σ H h => ?_
  obtain ⟨W, Γ, vs, ds, o, ⟨O, c⟩, e, q⟩ := h
  obtain ⟨kvs, e1, e⟩ := Option.bind_eq_some_iff.mp e
  obtain ⟨a, ws, ha, cc⟩ := c.freezeD (dcS_to e1)
  exact .inr ⟨a, ws, ha, fun od => ⟨W, _, vs, ds, o, cc od, e, q⟩⟩
/-- for k in d, d changed no more -/
def fKeys (f : FE) : FI := fun Γ => (f Γ).bind fun p => match p.1 with
  | .md (.dat (.dict ds)) => some (ds.map (·.1), p.2)
  | _ => none
theorem fi_keys {tg e : Expr} {f : FE} (he : FX X np e f) : FIX X np tg e (fKeys f) := by
  refine PI.weak (pi_keys he) fun σ H R h => ?_
  obtain ⟨W, Γ, vs, ts, items, Γ', c, e, q⟩ := h
  obtain ⟨⟨t, Γ1⟩, e1, e⟩ := Option.bind_eq_some_iff.mp e
  dsimp only at e
  split at e
  · rename_i ds
    cases e
    refine ⟨W, Γ, vs, ts, _, _, c, e1, fun v H1 c1 => ?_⟩
    obtain ⟨O, c1⟩ := c1
    have r : Fz X.K O H1 (.dict ds) v := c1.top
    cases r with
    | @dct a od kvs _ hr n fd =>
      exact ⟨a, od, rfl, .inl ⟨kvs, hr, q _ _ _ c1.pop (itf_keys hr n fd)⟩⟩
  · cases e
end
end Fx

end

set_option maxHeartbeats 3200000
/-! Fx18: sorted(set(x)), x a list of whole numbers; sorted(d), len(d) -/
noncomputable section
namespace Fx
open PySem PySem.Spec PyProof.Rows L2

/-- each once, where it is met first -/
def dd (ns : List Int) : List Int := ns.foldl (fun acc k => if k ∈ acc then acc else acc ++ [k]) []
theorem dd_snoc (ns : List Int) (k : Int) : dd (ns ++ [k]) = if k ∈ dd ns then dd ns else dd ns ++ [k] := by
  unfold dd
  rw [List.foldl_append]
  rfl
theorem snoc_ind {α : Type} {P : List α → Prop} (h0 : P []) (h1 : ∀ l a, P l → P (l ++ [a])) (l : List α) : P l := by
  have go : ∀ l : List α, P l.reverse := by
    intro l
    induction l with
    | nil => exact h0
    | cons a l ih => rw [List.reverse_cons]; exact h1 _ _ ih
  have := go l.reverse
  rwa [List.reverse_reverse] at this
theorem dd_nodup_mem (ns : List Int) : (dd ns).Nodup ∧ (∀ k, k ∈ dd ns ↔ k ∈ ns) := by
  refine snoc_ind (P := fun ns => (dd ns).Nodup ∧ (∀ k, k ∈ dd ns ↔ k ∈ ns)) ⟨List.nodup_nil, fun k => Iff.rfl⟩ (fun ns k ih => ?_) ns
  obtain ⟨h1, h2⟩ := ih
  rw [dd_snoc]
  split
  · rename_i hk
    refine ⟨h1, fun j => ?_⟩
    rw [h2, List.mem_append, List.mem_singleton]
    exact ⟨.inl, fun h => h.elim id fun e => e ▸ (h2 k).mp hk⟩
  · rename_i hk
    refine ⟨List.nodup_append.mpr ⟨h1, List.nodup_cons.mpr ⟨by simp, List.nodup_nil⟩, fun a ha b hb => by rw [List.mem_singleton.mp hb]; exact fun z => hk (z ▸ ha)⟩, fun j => ?_⟩
    rw [List.mem_append, List.mem_append, h2]
/-- the members in order -/
def srtS (ns : List Int) : List Int := srtI (dd ns)
theorem srtS_of {ns ys : List Int} (h1 : ys.Pairwise (· < ·)) (h2 : ∀ k, k ∈ ys ↔ k ∈ ns) : ys = srtS ns := by
  obtain ⟨d1, d2⟩ := dd_nodup_mem ns
  have nd : ys.Nodup := List.Pairwise.imp (fun {a b} (h : a < b) => Int.ne_of_lt h) h1
  have pm : ys.Perm (dd ns) := (List.perm_ext_iff_of_nodup nd d1).mpr fun k => (h2 k).trans (d2 k).symm
  exact up_unique (pm.trans (srtI_perm _).symm) (List.Pairwise.imp (fun {a b} (h : a < b) => Int.le_of_lt h) h1) (srtI_up _)
section
variable {P : Program} {w : World} {A : Around} {E : Value → Shared → Prop} {s : Shared}
abbrev newSet (w : World) : Obj := { cls := .type "set", dict := none, data := .set #[] 0 (.fresh 0 0 (!w.params.followText "set-order")) }
/-- set(a list of whole numbers) -/
theorem call_setI {l : Addr} {items : Array Value} {ns : List Int} {Q : Value → Shared → Prop} (hh : A.handled = none) (hl : s.heap.IsList l items) (hi : Vals (ns.map V.int) items.toList) (hb : ns.length + 1 < scanBound)
    (q : ∀ (g : Heap) (tk c : Nat), SetR w g s.heap.objs.size (fun k => decide (k ∈ ns)) c → c ≤ ns.length → (∀ b o, s.heap.get? b = some o → g.get? b = some o) → Q (.ref s.heap.objs.size) { s with heap := g, toks := tk }) :
    wpAny (model P w) A (call (.type "set") [.ref l]) Q E s := by
  have sz : items.size = ns.length := by
    have := hi.length
    rw [List.length_map, Array.length_toList] at this
    exact this.symm
  obtain ⟨c, tl, hmro⟩ := F.called_set.mro
  have hmade := F.called_set.made
  have hsub := F.called_set.sub
  refine wpAny_call (codeAny_of_tree ?_)
  show wpAny _ _ (callAny (.type "set") _) _ _ _
  refine wpAny_pure ⟨Code.quiet_builtin _ (by decide +kernel), codeAny_builtin F.entry_type_call ?_⟩
  rw [Around.under_plain (weight_type_call_type "set" [.ref l] []) rfl]
  have n1 := F.called_set.notType
  have n2 := F.called_set.canCreate
  have n3 := F.typeCall_set_1 (.ref l)
  repeat (any_goals (first | assumption | wp_step))
  refine codeAny_mono (L2.code_set_led1 (.ref l) (E := E) (Q₁ := fun ob t => ob = .ref s.heap.objs.size ∧ t = { s with heap := s.heap.push (newSet w) }) ⟨rfl, rfl⟩) fun r t hr => ?_
  cases r with
  | error e => exact hr
  | ok fl =>
    cases fl with
    | ret ob =>
      obtain ⟨e1, e2⟩ := hr
      subst e1 e2
      have at0 : (s.heap.push (newSet w)).get? s.heap.objs.size = some (newSet w) := Heap.get?_push_size _ rfl
      have ty0 : Shared.TypeIs { s with heap := s.heap.push (newSet w) } (.ref s.heap.objs.size) "set" := ⟨_, at0, rfl⟩
      have hli := F.called_set.init.lookup
      have hbi := F.called_set.init.bind (.ref s.heap.objs.size)
      repeat (any_goals (first | assumption | wp_step))
      refine codeAny_mono (codeAny_call_builtin (R := wants (fun r t => r = .none ∧ ∃ g tk c, t = { s with heap := g, toks := tk } ∧ SetR w g s.heap.objs.size (fun k => decide (k ∈ ns)) c ∧ c ≤ ns.length ∧ (∀ b o, s.heap.get? b = some o → g.get? b = some o)) E) F.called_set.init.plain F.entry_set_init (check_set_init_1 ty0 ?_)) fun r2 t2 hr2 => ?_
      · obtain ⟨ol, hol, hcl, nl, hdl⟩ := hl
        obtain ⟨oc, od, odat, osl⟩ := ol
        simp only at hcl hdl
        subst hcl hdl
        have hol1 : (s.heap.push (newSet w)).get? l = some { cls := .type "list", dict := od, data := .seq items nl, slots := osl } := Heap.get?_push_of_some _ hol
        have m1 := F.sub_list_set
        have m2 := F.sub_list_frozenset
        have m3 : (Value.type "list" == Value.type "dict") = false := by decide
        have hl1 : (s.heap.push (newSet w)).IsList l items := ⟨_, hol1, rfl, nl, rfl⟩
        unfold Builtin.«set.__init__» noKeywords Builtin.Frozenset.updateFrom
        generalize hPI : pyIter = PI
        wp_walk
        subst hPI
        refine wpAny_pyIter_list hl1 ?_
        refine wpAny_bind (wpAny_runValue ?_)
        have lS : l < s.heap.objs.size := Heap.lt_size hol
        have h3 : A.in1.in1.in1.handled = none := by simp [hh]
        have z1 : (s.heap.push (newSet w)).objs.size = s.heap.objs.size + 1 := Heap.size_push ..
        have ne : l ≠ (s.heap.push (newSet w)).objs.size := by rw [z1]; exact Nat.ne_of_lt (Nat.lt_succ_of_lt lS)
        have nin : s.heap.objs.size ∉ [(s.heap.push (newSet w)).objs.size, l] := by
          rw [z1]
          simp only [List.mem_cons, List.not_mem_nil, or_false, not_or]
          exact ⟨Nat.ne_of_lt (Nat.lt_succ_self _), Nat.ne_of_gt lS⟩
        have hv : ∀ (i : Nat) (v : Value), items[i]? = some v → ∃ k t, ns[i]? = some k ∧ v = .int k t := fun i v e => by
          have e' : items.toList[i]? = some v := by rw [Array.getElem?_toList]; exact e
          cases z : (ns.map V.int)[i]? with
          | none =>
            have := hi.none_of z
            rw [e'] at this
            cases this
          | some x =>
            obtain ⟨u, eu, ru⟩ := hi.get z
            rw [e'] at eu
            cases eu
            rw [List.getElem?_map] at z
            obtain ⟨k, ek, ekx⟩ := Option.map_eq_some_iff.mp z
            subst ekx
            obtain ⟨t, et⟩ := ru
            exact ⟨k, t, ek, et⟩
        refine L2.set_update_ints ((Walks.list h3 _ l ne items).toS) s.heap.objs.size nin ns sz hb hv (items.size - 0) 0 _ (by omega) (Nat.zero_le _) ⟨⟨_, Heap.get?_push_size _ rfl, rfl, rfl⟩, (hl1.push _)⟩ ⟨0, Nat.le_refl 0, L2.setR_new_at (Heap.get?_push_of_some _ at0)⟩ fun t3 c3 mv hc3 hS3 => ?_
        obtain ⟨g3, gn, dr, tk3, os3⟩ := t3
        have eg : gn = s.gens := mv.gens
        have ed : dr = s.drawn := mv.drawn
        have eo : os3 = s.os := mv.os
        subst eg ed eo
        show wpAny _ _ _ _ _ _
        refine wpAny_pure ?_
        show wpAny _ _ (ret Value.none) _ _ _
        rw [sz] at hc3
        refine wpAny_pure ⟨rfl, g3, tk3, c3, rfl, hS3, hc3, fun b o e => ?_⟩
        have b0 : b < s.heap.objs.size := Heap.lt_size e
        have b2 : b ≠ (s.heap.push (newSet w)).objs.size := by rw [z1]; exact Nat.ne_of_lt (Nat.lt_succ_of_lt b0)
        exact mv.heap b o (by simp only [List.mem_cons, List.mem_singleton, List.not_mem_nil, or_false, not_or]; exact ⟨Nat.ne_of_lt b0, b2⟩) (Heap.get?_push_of_some _ (Heap.get?_push_of_some _ e))
      · cases r2 with
        | error e => exact hr2
        | ok fl2 =>
          cases fl2 with
          | ret r =>
            obtain ⟨e1, g, tk, c3, e2, hS, hc3, hk⟩ := hr2
            subst e1 e2
            repeat (any_goals (first | assumption | wp_step))
            exact q _ _ _ hS hc3 hk
          | _ => exact hr2.elim
    | _ => exact hr.elim
end
section
variable {X : Cx}
def rSetL (K : PySem.W.Frag) (w : World) : List V → Hp → VK → Prop := fun xs H Q => ∃ (a : Addr) (ns : List Int), xs = [V.ref a] ∧ SqL K H a (ns.map V.int) ∧ ns.length + 1 < scanBound ∧
  ∀ p c, c ≤ ns.length → H p = none → Q (.ref p) (upd H p (SetO w p (fun k => decide (k ∈ ns)) c))
theorem cr_setL (hc : X.calm = true) : CallR X (.type "set") (rSetL X.K X.w) := by
  intro pins s σ H xs us Q I r h
  obtain ⟨a, ns, rfl, hl, hb, q⟩ := h
  rw [Vals.ref1 r]
  obtain ⟨its, rv, p', hz⟩ := I.list hl
  refine call_setI (I.ok.hd hc) p'.isList (by simpa using rv) hb fun g tk c hS hc' k => ?_
  exact ⟨.ref _, _, I.laid (t' := tk) k (Nat.le_refl _) (setO_new hS), rfl, q _ c hc' (I.hok.fresh (Nat.le_refl _))⟩
end
end Fx

end

/-! Fx19: sorted of sets and dicts, len of a dict, many names at once, calls with an owned value, try -/
noncomputable section
namespace Fx
open PySem PySem.Spec PyProof.Rows L2

section
variable {X : Cx} {np : Nat} {pos : Pos} {e : Expr} {f : FE}
/-- sorted(set(x)) -/
def fSortSet (ow : Bool) (f : FE) : FE := fun Γ => (f Γ).bind fun p => (dv p.2 p.1).bind fun d => match d with
  | .list ds => (intsOf ds).bind fun ns => if ns.length < 64 then some ((Res.new ((srtS ns).map .int)).fin ow, p.2) else none
  | _ => none
theorem fx_sortSet {ow : Bool} {p p2 pos2 : Pos} (hc : X.calm = true) (ms : X.mg "sorted" = none) (mt : X.mg "set" = none) (he : FX X np e f) (gs : Gl X "sorted" := by rfl) (gt : Gl X "set" := by rfl)
    (n1 : starEach [e] X.env = (false, eval e X.env) :: starEach [] X.env := by rfl) (n2 : starEach [.Call (.Name "set" p2) [e] [] pos2] X.env = (false, eval (.Call (.Name "set" p2) [e] [] pos2) X.env) :: starEach [] X.env := by rfl) :
    FX X np (.Call (.Name "sorted" p) [.Call (.Name "set" p2) [e] [] pos2] [] pos) (fSortSet ow f) := by
  refine PE.weak (pe_callB (cr_sortedSet hc) gs ms (by decide +kernel) (pa_cons (pe_callTy (cr_setL hc) gt mt (by decide +kernel) (pa_cons he pa_nil n1) (by decide) (by decide) n1 rfl) pa_nil n2) (by decide) (by decide) n2 rfl) fun σ H Q h => ?_
  obtain ⟨W, Γ, vs, ts, t, Γ', c, e, q⟩ := h
  obtain ⟨⟨t1, Γ1⟩, e1, e⟩ := Option.bind_eq_some_iff.mp e
  obtain ⟨d, e2, e⟩ := Option.bind_eq_some_iff.mp e
  split at e
  · rename_i ds
    obtain ⟨ns, e3, e⟩ := Option.bind_eq_some_iff.mp e
    split at e
    · rename_i hl
      cases e
      refine ⟨W, Γ, vs, ts, t1, Γ1, c, e1, fun v H1 c1 => ?_⟩
      obtain ⟨O, c1⟩ := c1
      obtain ⟨a, xs, rfl, ha, fa⟩ := c1.view c1.top e2
      rw [intsOf_to e3] at fa
      rw [fa.intsV] at ha
      refine ⟨a, ns, rfl, .of ha, by unfold scanBound; omega, fun s c hcl hs => ?_⟩
      have n := Ev.new (o := SetO X.w s (fun k => decide (k ∈ ns)) c) c1.dom hs
      refine ⟨s, _, c, rfl, upd_same, by omega, fun ys r hy hm _ hr => ?_⟩
      have ey : ys = srtS ns := srtS_of hy fun k => by rw [hm]; exact decide_eq_true_iff
      rw [ey]
      exact okn (fun v H' ok => q v H' ((c1.pop.ev0 n).res ok)) hr (FzA.ints _)
    · cases e
  · cases e
/-- sorted(d), len(d) -/
def intK : List (Key × PyData) → Option (List Int)
  | [] => some []
  | (.inl i, _) :: r => (intK r).map fun l => i :: l
  | _ :: _ => none
theorem intK_to : ∀ {kvs : List (Key × PyData)} {ns : List Int}, intK kvs = some ns → kvs.map (·.1) = ns.map Sum.inl
  | [], ns, e => by cases e; rfl
  | (.inl i, d) :: r, ns, e => by
    obtain ⟨l, e1, e2⟩ := Option.map_eq_some_iff.mp e
    subst e2
    rw [List.map_cons, List.map_cons, intK_to e1]
  | (.inr _, _) :: _, _, e => by cases e
def fSortD (ow : Bool) (f : FE) : FE := fun Γ => (f Γ).bind fun p => (dkT p.2 p.1).bind fun kvs => (intK kvs).bind fun ns => if ns.length < 64 then some ((Res.new ((srtI ns).map .int)).fin ow, p.2) else none
theorem fx_sortD {ow : Bool} {p : Pos} (hc : X.calm = true) (ms : X.mg "sorted" = none) (he : FX X np e f) (gs : Gl X "sorted" := by rfl) (n1 : starEach [e] X.env = (false, eval e X.env) :: starEach [] X.env := by rfl) :
    FX X np (.Call (.Name "sorted" p) [e] [] pos) (fSortD ow f) := by
  refine PE.weak (pe_callB (call_sortedDI hc) gs ms (by decide +kernel) (pa_cons he pa_nil n1) (by decide) (by decide) n1 rfl) fun σ H Q h => ?_
  obtain ⟨W, Γ, vs, ts, t, Γ', c, e, q⟩ := h
  obtain ⟨⟨t1, Γ1⟩, e1, e⟩ := Option.bind_eq_some_iff.mp e
  obtain ⟨kvs, e2, e⟩ := Option.bind_eq_some_iff.mp e
  obtain ⟨ns, e3, e⟩ := Option.bind_eq_some_iff.mp e
  split at e
  · rename_i hl
    cases e
    refine ⟨W, Γ, vs, ts, t1, Γ1, c, e1, fun v H1 c1 => ?_⟩
    obtain ⟨O, c1⟩ := c1
    obtain ⟨a, ws, rfl, ha, pd⟩ := c1.dkAt c1.top e2
    refine ⟨a, ws, ns, rfl, ha, pd.keys.trans (intK_to e3), hl, fun ys r hp hy hr => ?_⟩
    have ey : ys = srtI ns := up_unique (hp.trans (srtI_perm _).symm) hy (srtI_up _)
    rw [ey]
    exact okn (fun v H' ok => q v H' (c1.pop.res ok)) hr (FzA.ints _)
  · cases e
def rLenD : List V → Hp → VK → Prop := fun xs H Q => ∃ a kvs, xs = [V.ref a] ∧ Rd H a (.dK kvs) ∧ Q (.int kvs.length) H
theorem cr_lenD : CallR X (.builtin "len") rLenD := by
  intro pins s σ H xs us Q I r h
  obtain ⟨a, kvs, rfl, ha, q⟩ := h
  rw [Vals.ref1 r]
  exact d_len I ha fun t s' I' => ⟨.int kvs.length, H, I', ⟨t, rfl⟩, q⟩
def fLenD (f : FE) : FE := fun Γ => (f Γ).bind fun p => (dkT p.2 p.1).map fun kvs => (.md (.dat (.int kvs.length)), p.2)
theorem fx_lenD {p : Pos} (ms : X.mg "len" = none) (he : FX X np e f) (gs : Gl X "len" := by rfl) (n1 : starEach [e] X.env = (false, eval e X.env) :: starEach [] X.env := by rfl) :
    FX X np (.Call (.Name "len" p) [e] [] pos) (fLenD f) := by
  refine PE.weak (pe_callB cr_lenD gs ms (by decide +kernel) (pa_cons he pa_nil n1) (by decide) (by decide) n1 rfl) fun σ H Q h => ?_
  obtain ⟨W, Γ, vs, ts, t, Γ', c, e, q⟩ := h
  obtain ⟨⟨t1, Γ1⟩, e1, e⟩ := Option.bind_eq_some_iff.mp e
  obtain ⟨kvs, e2, e⟩ := Option.map_eq_some_iff.mp e
  cases e
  refine ⟨W, Γ, vs, ts, t1, Γ1, c, e1, fun v H1 c1 => ?_⟩
  obtain ⟨O, c1⟩ := c1
  obtain ⟨a, ws, rfl, ha, pd⟩ := c1.dkAt c1.top e2
  refine ⟨a, ws, rfl, ha, ?_⟩
  rw [← pd.length]
  exact q _ _ ⟨O, c1.pop.push (t := .md (.dat (.int kvs.length))) (.int _)⟩

/-! ### many names at once -/
def setAll : List Nat → List V → L2.St → L2.St
  | i :: is, v :: vs, σ => setAll is vs (σ.set i (some v))
  | _, _, σ => σ
theorem setAll_comm {i : Nat} {v : V} : ∀ {is : List Nat} {vs : List V} {σ : L2.St}, i ∉ is → setAll is vs (σ.set i (some v)) = (setAll is vs σ).set i (some v)
  | [], _, _, _ => rfl
  | j :: is, [], _, _ => rfl
  | j :: is, w :: vs, σ, h => by
    have h' : i ≠ j ∧ i ∉ is := by simpa using h
    show setAll is vs ((σ.set i (some v)).set j (some w)) = _
    rw [List.set_comm _ _ h'.1, setAll_comm h'.2]
    rfl
theorem setAll_snoc {i : Nat} {v : V} : ∀ {is : List Nat} {vs : List V} {σ : L2.St}, is.length = vs.length → setAll (is ++ [i]) (vs ++ [v]) σ = (setAll is vs σ).set i (some v)
  | [], [], _, _ => rfl
  | j :: is, w :: vs, σ, h => by
    show setAll (is ++ [i]) (vs ++ [v]) (σ.set j (some w)) = _
    rw [setAll_snoc (by simpa using h)]
    rfl
  | [], _ :: _, _, h => by simp at h
  | _ :: _, [], _, h => by simp at h
theorem setAll_rev : ∀ {is : List Nat} {vs : List V} {σ : L2.St}, is.Nodup → is.length = vs.length → setAll is.reverse vs.reverse σ = setAll is vs σ
  | [], [], _, _, _ => rfl
  | i :: is, v :: vs, σ, nd, h => by
    have nd' := List.nodup_cons.mp nd
    have hl : is.length = vs.length := by simpa using h
    rw [List.reverse_cons, List.reverse_cons, setAll_snoc (by rw [List.length_reverse, List.length_reverse]; exact hl), setAll_rev nd'.2 hl]
    show _ = setAll is vs (σ.set i (some v))
    rw [setAll_comm nd'.1]
  | [], _ :: _, _, _, h => by simp at h
  | _ :: _, [], _, _, h => by simp at h
def putM (np : Nat) : List Nat → List TV → Gm → Option Gm
  | [], [], Γ => some Γ
  | i :: is, .md m :: us, Γ => if m.own = true ∧ i < np then none else putM np is us (Γ.set i (some m))
  | _, _, _ => none
theorem putM_noAl {np : Nat} : ∀ {is : List Nat} {us : List TV} {Γ Γ' : Gm}, putM np is us Γ = some Γ' → noAl us = true ∧ is.length = us.length
  | [], [], _, _, _ => ⟨rfl, rfl⟩
  | i :: is, .md m :: us, Γ, Γ', e => by
    unfold putM at e
    split at e
    · cases e
    · obtain ⟨h1, h2⟩ := putM_noAl e
      exact ⟨h1, by simp [h2]⟩
  | [], _ :: _, _, _, e => by cases e
  | _ :: _, [], _, _, e => by cases e
  | _ :: _, .al _ :: _, _, _, e => by cases e
theorem noAl_append : ∀ {us ts : List TV}, noAl us = true → noAl ts = true → noAl (us ++ ts) = true
  | [], _, _, h => h
  | .md m :: us, _, h, g => noAl_append (us := us) h g
  | .al _ :: _, _, h, _ => by cases h
theorem Cf.storeAll {K : PySem.W.Frag} {W : Wd} {H : Hp} {vs : List V} {ds : List PyData} : ∀ {is : List Nat} {us : List TV} {xs : List V} {O : Own} {σ : L2.St} {Γ Γ' : Gm}, Cf K np W O σ H Γ (xs ++ vs) (us ++ tsd ds) → xs.length = us.length → putM np is us Γ = some Γ' → Cfg K np W (setAll is xs σ) H Γ' vs (tsd ds)
  | [], [], [], O, σ, Γ, Γ', c, _, e => by cases e; exact ⟨O, c⟩
  | i :: is, .md m :: us, x :: xs, O, σ, Γ, Γ', c, hl, e => by
    unfold putM at e
    split at e
    · cases e
    · rename_i hno
      obtain ⟨na, _⟩ := putM_noAl e
      obtain ⟨O2, c2⟩ := (show Cf K np W O σ H Γ (x :: (xs ++ vs)) (.md m :: (us ++ tsd ds)) from c).storeT (noAl_append na (noAl_tsd ds)) hno
      exact Cf.storeAll (is := is) (us := us) (xs := xs) c2 (by simpa using hl) e
  | [], [], _ :: _, _, _, _, _, _, hl, _ => by simp at hl
  | [], _ :: _, _, _, _, _, _, _, _, e => by cases e
  | _ :: _, [], _, _, _, _, _, _, _, e => by cases e
  | _ :: _, .al _ :: _, _, _, _, _, _, _, _, e => by cases e
  | _ :: _, .md _ :: _, [], _, _, _, _, _, hl, _ => by simp at hl
def fMulti (np : Nat) (is : List Nat) (fs : FA) : FS := fun Γ => (fs Γ).bind fun p => (putM np is.reverse p.1.reverse p.2).map .nx
def FMX (X : Cx) (es : List Expr) (is : List Nat) : Prop := PGs X es (fun vs σ H Q => vs.length = is.length ∧ Q (setAll is vs σ) H)
theorem fm_nil : FMX X [] [] := PGs.weak pgs_nil fun vs σ H Q h => by
  obtain ⟨hl, q⟩ := h
  have : vs = [] := List.length_eq_zero_iff.mp (by simpa using hl)
  subst this
  exact ⟨rfl, q⟩
theorem fm_cons {i : Nat} {is : List Nat} {x : Str} {es : List Expr} (h : FMX X es is) (hN : X.N.Nodup) (hi : X.N[i]? = some x := by rfl) (hx : Loc X.env.scope x := by first | exact Or.inl rfl | exact Or.inr rfl) (hf : X.fn x = true ∨ X.env.scope.names.lookup x = some .local := by first | exact .inl rfl | exact .inr rfl | assumption)
    (hs : (assignEach (.Name x pos :: es) X.env).map (·.2) = assign (.Name x pos) X.env :: (assignEach es X.env).map (·.2) := by rfl) : FMX X (.Name x pos :: es) (i :: is) :=
  PGs.weak (pgs_cons (pg_name hN hi hx hf) h hs) fun vs σ H Q hh => by
    obtain ⟨hl, q⟩ := hh
    cases vs with
    | nil => simp at hl
    | cons v vs => exact ⟨v, vs, rfl, by simpa using hl, q⟩
theorem fs_multi {es as : List Expr} {is : List Nat} {fs : FA} {pt pt2 : Pos} {kt k2} (hc : X.calm = true) (ha : FAX X np as fs) (hm : FMX X es is) (nd : is.Nodup := by decide) (hn : (assignEach es X.env).length = is.length := by rfl) (hst : (assignEach es X.env).findIdx? (·.1) = none := by rfl) (h64 : is.length ≤ 64 := by decide)
    (hs : swapsWithSole [.Tuple es kt pt] (.Tuple as k2 pt2) pos.line X.env = pure false := by rfl) (hw : swappedStores [.Tuple es kt pt] (.Tuple as k2 pt2) X.env = pure none := by rfl) (h1 : (assignEach [.Tuple es kt pt] X.env).map (·.2) = [assign (.Tuple es kt pt) X.env] := by rfl) :
    FSX X np (.Assign [.Tuple es kt pt] (.Tuple as k2 pt2) pos) (fMulti np is fs) := by
  refine PS.weak (ps_asg (pe_tup ha) (pg_tup hc hm hn hst) hs hw h1) fun D σ H h => ?_
  obtain ⟨W, Γ, vs, ds, o, c, e, q⟩ := h
  obtain ⟨⟨us, Γ1⟩, e1, e⟩ := Option.bind_eq_some_iff.mp e
  obtain ⟨Γ2, e2, e⟩ := Option.map_eq_some_iff.mp e
  cases e
  refine ⟨W, Γ, vs, tsd ds, us, Γ1, c, e1, fun xs H1 c1 el => ?_⟩
  obtain ⟨O, c1⟩ := c1
  have hlen := (putM_noAl e2).2
  rw [List.length_reverse, List.length_reverse] at hlen
  refine ⟨by rw [el, ← hlen, sizeLine_eq]; omega, fun p hp => ⟨p, xs, rfl, .inl (.inl upd_same), by rw [el, hlen], ?_⟩⟩
  have n := Ev.new (o := .tup xs) c1.dom hp
  refine ⟨by rw [el, hlen], ?_⟩
  have r := Cf.storeAll (c1.ev0 n) (by rw [List.length_reverse, List.length_reverse]; exact el) e2
  rw [setAll_rev nd (by rw [el, hlen])] at r
  exact q _ _ r
theorem fs_par3 {i j l : Nat} {x y z : Str} {a b c : Expr} {fs : FA} {px py pz pt : Pos} {kt k2 pt2} (hc : X.calm = true) (hN : X.N.Nodup) (ha : FAX X np [a, b, c] fs) (hi : X.N[i]? = some x := by rfl) (hj : X.N[j]? = some y := by rfl) (hl : X.N[l]? = some z := by rfl) (nd : [i, j, l].Nodup := by decide)
    (hx : X.env.scope.names.lookup x = some .local := by rfl) (hy : X.env.scope.names.lookup y = some .local := by rfl) (hz : X.env.scope.names.lookup z = some .local := by rfl)
    (hw : swappedStores [.Tuple [.Name x px, .Name y py, .Name z pz] kt pt] (.Tuple [a, b, c] k2 pt2) X.env = pure (some [x, y, z]) := by rfl)
    (hs : swapsWithSole [.Tuple [.Name x px, .Name y py, .Name z pz] kt pt] (.Tuple [a, b, c] k2 pt2) pos.line X.env = pure false := by rfl) :
    FSX X np (.Assign [.Tuple [.Name x px, .Name y py, .Name z pz] kt pt] (.Tuple [a, b, c] k2 pt2) pos) (fMulti np [i, j, l] fs) := by
  have d := nd
  simp only [List.nodup_cons, List.mem_cons, List.not_mem_nil, or_false, not_or] at d
  refine PS.weak (ps_par3 hc hN hi hj hl d.1.1 d.1.2 d.2.1 hx hy hz ha hw hs) fun D σ H h => ?_
  obtain ⟨W, Γ, vs, ds, o, c, e, q⟩ := h
  obtain ⟨⟨us, Γ1⟩, e1, e⟩ := Option.bind_eq_some_iff.mp e
  obtain ⟨Γ2, e2, e⟩ := Option.map_eq_some_iff.mp e
  cases e
  refine ⟨W, Γ, vs, tsd ds, us, Γ1, c, e1, fun xs H1 c1 el => ?_⟩
  obtain ⟨O, c1⟩ := c1
  have hlen := (putM_noAl e2).2
  rw [List.length_reverse, List.length_reverse] at hlen
  have r := Cf.storeAll c1 (by rw [List.length_reverse, List.length_reverse]; exact el) e2
  rw [setAll_rev nd (by rw [el, hlen])] at r
  match xs, (el.trans hlen.symm : xs.length = 3) with
  | [u, v, w], _ => exact ⟨u, v, w, rfl, q _ _ r⟩

/-! ### a call whose one argument is a value that nobody else has -/
def bk1 : List (Option MD) → Bool
  | [some m] => m.own
  | _ => false
def fCallO (np : Nat) (F : FF) (f : FE) : FE := fun Γ => (f Γ).bind fun p => match p.1 with
  | .md m => (F [m]).bind fun r => if m.own = true ∧ bk1 r.2 = true ∧ np ≤ p.2.length then some (.md r.1, p.2) else none
  | _ => none
section
variable {K : PySem.W.Frag} {W : Wd} {O O' : Own} {σ : L2.St} {H H' : Hp} {Γ Γ' : Gm} {vs : List V} {ts : List TV}
theorem Tm.alLt : ∀ {vs : List V} {ts : List TV} {i : Nat}, Tm K O H σ Γ vs ts → TV.al i ∈ ts → i < Γ.length
  | _, [], _, _, h => by cases h
  | v :: vs, t :: ts, i, hh, h => by
    rcases List.mem_cons.mp h with e | h
    · subst e
      obtain ⟨_, m, e, _⟩ := hh.1
      exact (List.getElem?_eq_some_iff.mp e).1
    · exact Tm.alLt hh.2 h
  | [], _ :: _, _, hh, _ => hh.elim
theorem Tm.wider {x : Option V} {y : Option MD} (hl : Γ.length = σ.length) : ∀ {vs : List V} {ts : List TV}, Tm K O H σ Γ vs ts → Tm K O H (σ ++ [x]) (Γ ++ [y]) vs ts
  | [], [], _ => True.intro
  | v :: vs, t :: ts, h => by
    refine ⟨?_, Tm.wider hl h.2⟩
    have h1 := h.1
    cases t with
    | md m => exact h1
    | al i =>
      obtain ⟨e, m, e1, e2⟩ := h1
      exact ⟨by rw [List.getElem?_append_left (List.getElem?_eq_some_iff.mp e).1]; exact e, m, by rw [List.getElem?_append_left (List.getElem?_eq_some_iff.mp e1).1]; exact e1, e2⟩
  | [], _ :: _, h => h.elim
  | _ :: _, [], h => h.elim
theorem Tm.slim {x : Option V} {y : Option MD} (hl : Γ.length = σ.length) : ∀ {vs : List V} {ts : List TV}, (∀ i, TV.al i ∈ ts → i < Γ.length) → Tm K O H (σ ++ [x]) (Γ ++ [y]) vs ts → Tm K O H σ Γ vs ts
  | [], [], _, _ => True.intro
  | v :: vs, t :: ts, hi, h => by
    refine ⟨?_, Tm.slim hl (fun i hm => hi i (List.mem_cons_of_mem _ hm)) h.2⟩
    have h1 := h.1
    cases t with
    | md m => exact h1
    | al i =>
      have hlt := hi i List.mem_cons_self
      obtain ⟨e, m, e1, e2⟩ := h1
      rw [List.getElem?_append_left (by omega)] at e e1
      exact ⟨e, m, e1, e2⟩
  | [], _ :: _, _, h => h.elim
  | _ :: _, [], _, h => h.elim
/-- the top temporary goes to a slot that the def doesn't have -/
theorem Cf.lend {m : MD} {v : V} (c : Cf K np W O σ H Γ (v :: vs) (.md m :: ts)) (hnp : np ≤ Γ.length) : ∃ O', Cf K np W O' (σ ++ [some v]) H (Γ ++ [some m]) vs ts := by
  have a : Ev (· = .tmp ts.length) O H (retag O (.tmp ts.length) (some (.slot Γ.length))) H := Ev.retag (by simp) c.dom
  have c2 := c.pop.ev a (by simp) (by simp) (fun k z => by injection z with z; omega)
  refine ⟨_, c2.dom, fun j m' e => ?_, c2.tm.wider c2.len, c2.keep, c2.out, c2.wt, fun j m' hj e ho => ?_, by rw [List.length_append, List.length_append, c2.len]; rfl⟩
  · rcases Nat.lt_or_ge j Γ.length with h | h
    · rw [List.getElem?_append_left h] at e
      obtain ⟨w, e1, r⟩ := c2.sl j m' e
      exact ⟨w, by rw [List.getElem?_append_left (by rw [← c2.len]; exact h)]; exact e1, r⟩
    · rw [List.getElem?_append_right h] at e
      have e0 : j = Γ.length := by
        have := (List.getElem?_eq_some_iff.mp e).1
        simp at this
        omega
      subst e0
      rw [Nat.sub_self] at e
      cases e
      exact ⟨v, by rw [List.getElem?_append_right (by rw [c2.len]; exact Nat.le_refl _), c2.len, Nat.sub_self]; rfl, MR.move c.dom (by simp) c.top⟩
  · have h : j < Γ.length := by omega
    rw [List.getElem?_append_left h] at e
    rw [List.getElem?_append_left (by rw [← c2.len]; exact h)]
    exact c2.arg j m' hj e ho
theorem Cf.unlend {x : Option V} {y : Option MD} (hl : Γ.length = σ.length) (hi : ∀ i, TV.al i ∈ ts → i < Γ.length) (c : Cf K np W O (σ ++ [x]) H (Γ ++ [y]) vs ts) : Cf K np W O σ H Γ vs ts where
  dom := c.dom
  sl := fun j m e => by
    have h := (List.getElem?_eq_some_iff.mp e).1
    obtain ⟨w, e1, r⟩ := c.sl j m (by rw [List.getElem?_append_left h]; exact e)
    rw [List.getElem?_append_left (by omega)] at e1
    exact ⟨w, e1, r⟩
  tm := c.tm.slim hl hi
  keep := c.keep
  out := c.out
  wt := c.wt
  arg := fun j m hj e ho => by
    have h := (List.getElem?_eq_some_iff.mp e).1
    have := c.arg j m hj (by rw [List.getElem?_append_left h]; exact e) ho
    rwa [List.getElem?_append_left (by omega)] at this
  len := hl
end
theorem fx_callO {k : Nat} {st : Stmt} {ps : List Str} {x : Str} {p : Pos} {F : FF} (D : Def X.prog X.w X.K X.mg X.base k x st ps F) (hr : RoomG k X.A) (he0 : FX X np e f) (hg : Gl X x := by rfl) (hdb : (x == ("__debug__" : Str)) = false := by decide)
    (he : starEach [e] X.env = (false, eval e X.env) :: starEach [] X.env := by rfl) (hpl : (backTo pos (starEach [] X.env)).any (·.1) = false := by rfl) :
    FX X np (.Call (.Name x p) [e] [] pos) (fCallO np F f) := by
  obtain ⟨⟨fa, fd, Fn, G, hm⟩, bd⟩ := D
  refine PE.weak (pe_callG G hr hg hm Fn.kp (Fn.binds bd) (pa_cons he0 pa_nil he) hdb he hpl) fun σ H Q h => ?_
  obtain ⟨W, Γ, vs, ts, t, Γ', c, e, q⟩ := h
  obtain ⟨⟨t1, Γ1⟩, e1, e⟩ := Option.bind_eq_some_iff.mp e
  refine ⟨W, Γ, vs, ts, t1, Γ1, c, e1, fun v H1 c1 => ?_⟩
  obtain ⟨O, c1⟩ := c1
  cases t1 with
  | al i => cases e
  | md m =>
    obtain ⟨⟨r, ms'⟩, e2, e⟩ := Option.bind_eq_some_iff.mp e
    dsimp only at e
    split at e
    · rename_i hh
      cases e
      obtain ⟨hm1, hm2, hnp⟩ := hh
      obtain ⟨m', rfl, ho'⟩ : ∃ m', ms' = [some m'] ∧ m'.own = true := by
        unfold bk1 at hm2
        split at hm2
        · exact ⟨_, rfl, hm2⟩
        · cases hm2
      obtain ⟨O2, c2⟩ := c1.lend hnp
      have hlt : ∀ i, TV.al i ∈ ts → i < Γ'.length := fun i h => Tm.alLt c1.pop.tm h
      have eg : (Γ' ++ [some m])[Γ'.length]? = some (some m) := by rw [List.getElem?_append_right (Nat.le_refl _), Nat.sub_self]; rfl
      have es : (σ ++ [some v])[Γ'.length]? = some (some v) := by rw [c1.len, List.getElem?_append_right (Nat.le_refl _), Nat.sub_self]; rfl
      refine callF (E := E0) (xs := [v]) (us := [.al Γ'.length]) (ms := [m]) (ms' := [some m']) (Γ' := Γ' ++ [some m']) c2 (.cons ⟨.out, es, m, eg, hm1⟩ .nil) (by simp [als]) (by simp [argsOf, eg]) e2 ?_ fun v' H' c3 => ?_
      · simp [putArgs, ho']
      · obtain ⟨O3, c3⟩ := c3
        refine q v' H' ⟨O3, c3.unlend c1.len fun i h => ?_⟩
        rcases List.mem_cons.mp h with h | h
        · cases h
        · exact hlt i h
    · cases e
/-- try whose body raises nothing -/
theorem fs_try {body : List Stmt} {h0 : ExceptHandler} {hs : List ExceptHandler} {g : FS} (hb : FSsX X.nox np body g) : FSX X np (.Try body (h0 :: hs) [] [] pos) g := ps_try_thru0 hb
end
end Fx

end

/-! Fx20: the end: from the law's meaning to the law's walk -/
noncomputable section
namespace Fx
open PySem PySem.Spec PyProof.Rows L2

theorem Fun.same {K : PySem.W.Frag} {x q : Str} {st : Stmt} {f : Addr} {fd fd' : FuncData} (a : Fun K x q st f fd) (b : Fun K x q st f fd') : fd = fd' := by
  obtain ⟨oc, od, kV, doc, pm, an, cdv, ct, osl, e1, l1, _⟩ := a.ex
  obtain ⟨oc', od', kV', doc', pm', an', cdv', ct', osl', e2, l2, _⟩ := b.ex
  rw [l1] at l2
  have := (Obj.mk.inj (Option.some.inj l2)).2.2.1
  exact Data.func.inj this
theorem at_mk {K : PySem.W.Frag} {h : Heap} {mg : Str → Option Value} {x : Str} {st : Stmt} {f : Addr} {oc kV doc pm cdv ct : Value} {od an : Option Addr} {osl : Array (Option Value)} (X : K.In h) (G : h.Ns mainGlobals mg)
    (a : PySem.W.nsIn K mainGlobals x = some (some (.ref f))) (l : K.lookup f = some ⟨oc, od, .func (PySem.W.fnOf x x (defArgs st) (defBody st) (defScope st) .none kV doc pm an cdv ct), osl⟩) (c : PySem.W.codeIn K cdv x = true) (k : PySem.W.keepIn K (.ref f) = true) : At K mg x st :=
  ⟨f, _, fun_mk (st := st) l c k, PySem.W.mg_of X G a⟩
theorem end_mk {P : Program} {w : World} {K : PySem.W.Frag} {mg : Str → Option Value} {h : Heap} {x : Str} {st : Stmt} {fa : Addr} {k : Nat} {F : FF} (X : K.In h) (G : h.Ns mainGlobals mg) (hfa : mg x = some (.ref fa))
    (D : ∀ base : Heap, K.In base → base.Ns mainGlobals mg → Def P w K mg base k x st ["script"] F) :
    ∃ fd : FuncData, (∀ (s : Shared) (v : Value), BindsTo s fd ⟨[v], []⟩ [("script", v)]) ∧ ∀ base : Heap, K.In base → base.Ns mainGlobals mg → FnG P w K mg base k fa fd ["script"] (spF K F) := by
  obtain ⟨⟨f, fd, Fn, _, hm⟩, bd⟩ := D h X G
  rw [hfa] at hm
  cases hm
  refine ⟨fd, fun s v => ?_, fun base X' G' => ?_⟩
  · obtain ⟨oc, od, kV, doc, pm, an, cdv, ct, osl, rfl, _, _⟩ := Fn.ex
    exact .of_eq (bd kV doc pm an cdv ct [v] rfl)
  · obtain ⟨⟨f', fd', Fn', ok, hm'⟩, _⟩ := D base X' G'
    rw [hfa] at hm'
    cases hm'
    rw [Fun.same Fn Fn']
    exact ok
theorem sp_end {K : PySem.W.Frag} {F : FF} {H : Hp} {a : Addr} {ns : List Int} (hF : ∃ ms', F [.scr ns] = some (.dat (.bool true), ms')) (hS : SqL K H a (ns.map V.int)) (E : XK) : spF K F [.ref a] H (fun v _ => v = .bl true) E := by
  obtain ⟨ms', hF⟩ := hF
  refine ⟨fun _ => none, [.scr ns], _, ms', fun _ _ h => (by cases h), fun _ _ h => (by cases h), rfl, fun k m hk => ?_, hF, fun v H' O' n _ r _ => ?_⟩
  · cases k with
    | zero =>
      cases hk
      refine ⟨.ref a, rfl, a, rfl, ?_⟩
      rcases hS with h | h
      · exact .inl ⟨h, rfl⟩
      · exact .inr (.inr h)
    | succ k => cases hk
  · have r' : Fz K O' H' (.bool true) v := r
    cases r'
    rfl
/-- the law's call, by such a contract -/
theorem law_callG {P : Program} {w : World} {K : PySem.W.Frag} {mg mb : Str → Option Value} {k : Nat} {fa a : Addr} {fd : FuncData} {x : Str} {sp : Sp} {s₁ : Shared} {vs : List Value} {ns : List Int} (inK : K.In s₁.heap) (nG : s₁.heap.Ns mainGlobals mg) (nB : s₁.heap.Ns builtinsNs mb)
    (boot : ∀ y : Str, y ≠ "__name__" → mb y = bootBuiltins y) (noL : s₁.heap.NoLimit) (g0 : s₁.gens = #[]) (hA : s₁.heap.get? a = some { cls := .type "list", data := .seq vs.toArray }) (hI : IntsAre vs ns) (hz : ns.length ≤ sizeLine) (hr : RoomG k callerA)
    (F : ∀ base : Heap, K.In base → base.Ns mainGlobals mg → FnG P w K mg base k fa fd [x] sp) (bind : ∀ (s : Shared) (u : Value), BindsTo s fd ⟨[u], []⟩ [(x, u)]) (hsp : ∀ H : Hp, Only H → SqL K H a (ns.map V.int) → sp [.ref a] H (fun v _ => v = .bl true) E0) :
    codeAny (model P w) callerA (.call (.ref fa) ⟨[.ref a], []⟩) (fun r s' => r = .ok (.ret (.bool true)) ∧ OldK s₁.heap s'.heap ∧ s'.os = s₁.os ∧ AllBare s'.gens) s₁ := by
  have rel := vals_ints hI
  have many := hI.length
  have main : ∀ H : Hp, Only H → SqL K H a (ns.map V.int) → HOk P w H s₁.heap → (∀ b, H b ≠ none → b = a) → (H a ≠ none → K.lookup a = none) →
      codeAny (model P w) callerA (.call (.ref fa) ⟨[.ref a], []⟩) (fun r s' => r = .ok (.ret (.bool true)) ∧ OldK s₁.heap s'.heap ∧ s'.os = s₁.os ∧ AllBare s'.gens) s₁ := by
    intro H only sq ok alone free
    have hid : ∀ {b : Addr} {o : Obj}, s₁.heap.get? b = some o → H b = none → (hidT s₁.heap H).get? b = some o := fun e n => hidT_get e n
    have noDict : ∀ {b : Addr} {o : Obj} {es : Array DictEntry} {ep : Nat}, s₁.heap.get? b = some o → o.data = .dict es ep → H b = none := by
      intro b o es ep e d
      by_cases q : H b = none
      · exact q
      · have ab := alone b q
        subst ab
        rw [hA] at e
        cases e
        exact absurd (show Data.seq vs.toArray _ = Data.dict es ep from d) (by intro z; cases z)
    have nsH : ∀ {b : Addr} {m : Str → Option Value}, s₁.heap.Ns b m → (hidT s₁.heap H).Ns b m := by
      rintro b m ⟨o, es, ep, e, d, r⟩
      exact ⟨o, es, ep, hid e (noDict e d), d, r⟩
    have inH : K.In (hidT s₁.heap H) := by
      intro b o e
      refine hid (inK b o e) ?_
      by_cases q : H b = none
      · exact q
      · have ab := alone b q
        subst ab
        rw [free q] at e
        cases e
    have modH : Mod K mg (hidT s₁.heap H) := ⟨inH, nsH nG, ⟨mb, nsH nB, boot⟩, let ⟨mc, h1, h2⟩ := noL; ⟨mc, nsH h1, h2⟩⟩
    have none0 : ∀ b : Addr, ¬ b ∈ frs [] := fun b hb => absurd (show b ∈ ([] : List Addr) from hb) (by simp)
    have e0 : Env0 P w K mg (hidT s₁.heap H) callerA [] s₁ H := ⟨rfl, modH, fun b o e => of_hidT e, Nat.le_of_eq (hidT_size _ _), trivial, fun b hb => absurd hb (none0 b), ok, .of_eq g0⟩
    refine codeAny_mono ((F _ inH (nsH nG)).go (as := ⟨[.ref a], []⟩) (us := [.ref a]) (vs := [.ref a]) hr e0 (bind s₁ (.ref a)) (.cons rfl .nil) (hsp H only sq)) ?_
    intro r s' hq
    cases r with
    | error e => exact False.elim hq
    | ok fl =>
      cases fl with
      | next => exact False.elim hq
      | brk => exact False.elim hq
      | cont => exact False.elim hq
      | ret u =>
        obtain ⟨v, H2, os, bare, un, ok2, rv, q⟩ := hq
        have q2 : v = .bl true := q
        subst q2
        have eu : u = Value.bool true := rv
        subst eu
        refine ⟨rfl, OldK.of_keep ?_, os, bare⟩
        intro b o e
        rcases only b with z | ⟨ob, xs, z⟩
        · exact un.keep b o e z (none0 b) (by simp)
        · have z2 := un.frzs b ob _ z
          obtain ⟨e1, _⟩ := ok b _ z
          obtain ⟨e2, _⟩ := ok2 b _ z2
          rw [e] at e1
          cases e1
          exact e2
  by_cases hk : K.lookup a = none
  · have at_a : ∀ {b : Addr} {u : HO}, (if b = a then some (HO.frz { cls := .type "list", data := .seq vs.toArray } (.lst (ns.map V.int))) else none) = some u → b = a ∧ u = HO.frz { cls := .type "list", data := .seq vs.toArray } (.lst (ns.map V.int)) := by
      intro b u z
      by_cases hb : b = a
      · rw [if_pos hb] at z
        exact ⟨hb, (Option.some.inj z).symm⟩
      · rw [if_neg hb] at z
        cases z
    refine main (fun b => if b = a then some (.frz { cls := .type "list", data := .seq vs.toArray } (.lst (ns.map V.int))) else none) ?_ (.inl (.inr ⟨{ cls := .type "list", data := .seq vs.toArray }, if_pos rfl⟩)) ?_ ?_ fun _ => hk
    · intro b
      by_cases hb : b = a
      · exact Or.inr ⟨_, _, if_pos hb⟩
      · exact Or.inl (if_neg hb)
    · intro b u z
      obtain ⟨rfl, rfl⟩ := at_a z
      exact ⟨hA, by rw [List.length_map]; exact hz, vs, _, rel, hA⟩
    · intro b z
      by_cases hb : b = a
      · exact hb
      · exact absurd (if_neg hb) z
  · obtain ⟨o, ho⟩ := Option.ne_none_iff_exists'.mp hk
    have e := inK a o ho
    rw [hA] at e
    cases e
    exact main (fun _ => none) (fun _ => Or.inl rfl) (.inr ⟨_, vs.toArray, _, ho, rfl, rfl, rfl, by rw [List.size_toArray, many]; exact hz, by simpa using rel⟩) (fun b u z => nomatch z) (fun b z => absurd rfl z) (fun z => absurd rfl z)
theorem walk_end {l : PySem.W.OpenLaw} {q : Program} {loose : List Str} {XP : (Str → Option Value) → Heap → Prop} {YP : World → Heap → Prop} {d : DefRec} {K : Params → PySem.W.Frag} {k : Nat} {F : FF} (hn : l.most = some 63) (hdf : d.params.defaults = []) (hr : RoomG k callerA)
    (hY : ∀ (w : World) (h : Heap), YP w h → (K w.params).In h) (hF : ∀ ns : List Int, ns.length ≤ 63 → ∃ ms', F [.scr ns] = some (.dat (.bool true), ms'))
    (M : ∀ (w : World) (mg : Str → Option Value) (fa : Addr) (h : Heap), (K w.params).In h → h.Ns mainGlobals mg → mg d.name = some (.ref fa) →
      ∃ fd : FuncData, (∀ (s : Shared) (u : Value), BindsTo s fd ⟨[u], []⟩ [("script", u)]) ∧ ∀ base : Heap, (K w.params).In base → base.Ns mainGlobals mg → FnG l.prog w (K w.params) mg base k fa fd ["script"] (spF (K w.params) F)) :
    PySem.W.WalkO q loose XP YP l.row.toRowW d [] (fun f vs => PySem.call f vs) := by
  refine Att.attach_call hn hdf ?_
  intro w s₀ s₁ mg mb fa o pm cd doc a vs ns G Y ho hd hcd hmg hobj hints hlen hg
  have inK := hY w _ Y
  obtain ⟨fd, hb, hM⟩ := M w mg fa _ inK G.T.g hmg
  exact law_callG inK G.T.g G.T.b G.T.builtins G.T.nolimit hg hobj hints (Nat.le_trans hlen (by decide)) hr hM hb fun H _ sq => sp_end (hF ns hlen) sq _
end Fx

end

noncomputable section
namespace Fx
abbrev fEnum := fEnumL
end Fx

end

/-! Fx21: enumerate of a tuple, repr, texts compared, raise that is not reached -/
noncomputable section
namespace Fx
open PySem PySem.Spec PyProof.Rows L2

theorem RoomG.hu {k : Nat} {A : Around} (h : RoomG k A) : A.units + 1 < cLine := by have := h.r.units; omega

/-! ### enumerate of a tuple -/
set_option maxHeartbeats 1000000 in
theorem enum_made {v : Value} {o : Obj} {S : Heap → Prop} (B : Begins v o S) :
    Meets (Builtin.«enumerate.__new__» ⟨[.type "enumerate", v], []⟩) (fun _ R s => S s.heap ∧
      R (.ok (.ret (.ref (s.heap.push o).objs.size))) { s with heap := (s.heap.push o).push { cls := .type "enumerate", data := .fields #[.none, .bool false, .ref s.heap.objs.size, rawInt 0, .none, .none] } }) :=
  .of_wp fun prog w A R s h => by
    obtain ⟨hp, g, d, tk, os⟩ := s
    obtain ⟨h1, h⟩ := h
    have isE := sub_enumerate
    have q0 : ∀ {A' : Around} {E : Value → Shared → Prop} {Q : Value → Shared → Prop}, Q (.ref hp.objs.size) ⟨hp.push o, g, d, tk, os⟩ → wpAny (model prog w) A' (pyIter v) Q E ⟨hp, g, d, tk, os⟩ :=
      fun q => B.iter prog w _ _ ⟨hp, g, d, tk, os⟩ _ h1 q
    wp_walk using q0
    refine wpAny_stack_any fun st => wpAny_pure ?_
    split
    · rename_i c _ _ _ _ _
      cases (c == Value.type "enumerate") <;> (wp_walk using q0; exact ⟨_, rfl, h⟩)
    · wp_walk using q0
      exact ⟨_, rfl, h⟩
theorem call_enum1 {prog : Program} {w : World} {A : Around} {E : Value → Shared → Prop} {s : Shared} {v : Value} {o : Obj} {S : Heap → Prop} {Q : Value → Shared → Prop} (B : Begins v o S) (h1 : S s.heap)
    (h : ∀ h', IsEnum h' (s.heap.objs.size + 1) s.heap.objs.size 0 .none → h'.get? s.heap.objs.size = some o → h'.objs.size = s.heap.objs.size + 2 →
      (∀ b u, s.heap.get? b = some u → h'.get? b = some u) → Q (.ref (s.heap.objs.size + 1)) { s with heap := h' }) : wpAny (model prog w) A (call (.type "enumerate") [v]) Q E s := by
  refine callType_new F.called_enumerate (by decide) (F.typeCall_enumerate_1 _) (F.newCall_enumerate_1 _) (fun obj => F.args_object_init_2 obj _) F.entry_enumerate_new (enum_made B) ⟨h1, ?_⟩
  have z : (s.heap.push o).objs.size = s.heap.objs.size + 1 := Heap.size_push ..
  show _ ∧ _
  rw [z]
  have e0 := Heap.get?_push_size (s.heap.push o) (o := { cls := .type "enumerate", data := .fields #[.none, .bool false, .ref s.heap.objs.size, rawInt 0, .none, .none] }) rfl
  rw [z] at e0
  exact ⟨⟨_, e0, rfl⟩, h _ e0 (Heap.get?_push_of_some _ (Heap.get?_push_size _ B.free)) (by rw [Heap.size_push, z]) fun b u x => Heap.get?_push_of_some _ (Heap.get?_push_of_some _ x)⟩
/-- the tuple at a, each item in a new pair -/
def IteT (K : PySem.W.Frag) (a : Addr) : It :=
  ⟨fun i H => ∃ (xs : List V) (x : V), SqT K H a xs ∧ xs[i]? = some x, fun i H v H' => ∃ T x, v = .ref T ∧ H T = none ∧ H' = upd H T (.tup [.int (i : Nat), x]) ∧ ∀ xs, SqT K H a xs → xs[i]? = some x, fun i H => ∃ xs : List V, SqT K H a xs ∧ xs.length ≤ i⟩
/-- an iterator that is through -/
theorem drawsOver {prog : Program} {w : World} {A : Around} (hh : A.handled = none) (it t : Addr) (items : Array Value) (n : Nat) (hn : items.size ≤ n) :
    Draws prog w A it [it, t] n (fun _ _ => False) (fun i h => h.IsTupleIter it t i ∧ h.IsTuple t items ∧ i = n) where
  live := fun _ _ st => let ⟨o, ho, _⟩ := st.1; ⟨o, ho⟩
  frame := fun _ _ _ st hk => ⟨st.1.at fun o e => hk it (by simp) o e, st.2.1.at fun o e => hk t (by simp) o e, st.2.2⟩
  item := fun i s Q E hi st hQ => absurd hi (by have := st.2.2; omega)
  done := fun s Q E st hE => wpAny_nextOf_tuple_end hh st.1 st.2.1 (Array.getElem?_eq_none hn) hE
theorem turn_enumT {P : Program} {w : World} {K : PySem.W.Frag} {elts : List Expr} {kk : Nat} {tpos : Pos} (a e it : Addr) :
    Turn P w K (.Tuple elts kk tpos) (IteT K a) [e, it] e (fun i h => (∃ old, IsEnum h e it ((i : Nat) : Int) old) ∧ h.IsTupleIter it a i ∧ e ≠ it ∧ a ≠ it ∧ a ≠ e) where
  mem := List.mem_cons_self
  obj := by
    rintro i h ⟨⟨old, he⟩, ⟨o, ho, hc, hd⟩, _⟩ b hb
    rcases List.mem_cons.mp hb with rfl | hb
    · exact ⟨_, he, fun v q => nomatch q⟩
    · rw [List.mem_singleton.mp hb]
      exact ⟨o, ho, fun v q => by rw [hd] at q; cases q⟩
  keep := by
    rintro i h h' ⟨⟨old, he⟩, hi, hne⟩ k
    exact ⟨⟨old, k e List.mem_cons_self _ he⟩, hi.at fun o q => k it (List.mem_cons_of_mem _ List.mem_cons_self) o q, hne⟩
  item := by
    intro X hP hw hK hc i pins s σ H E I hf st hg
    subst hP hw hK
    obtain ⟨⟨old, he⟩, hit, hne, ha1, ha2⟩ := st
    obtain ⟨xs, x, hq, hx⟩ := hg
    obtain ⟨its, rv, p, hz⟩ := I.tuple hq
    obtain ⟨u, hu, ru⟩ := rv.get hx
    have lt_e : e < s.heap.objs.size := Heap.lt_size he
    have lt_it : it < s.heap.objs.size := by
      obtain ⟨_, q, _⟩ := hit
      exact Heap.lt_size q
    have notin : e ∉ [it, a] := by simp [hne, Ne.symm ha2]
    have li : i < its.toArray.size := by
      have := (List.getElem?_eq_some_iff.mp hu).1
      simpa using this
    refine wpAny_pyNext_enum_itemD (Draws.tuple (prog := X.prog) (w := X.w) (A := X.A.in1) (I.ok.hd hc) it a ha1 its.toArray) he ⟨hit, p⟩ li hne notin ?_
    intro u2 h' tk eu ho hst hT hsz hk
    have eu' : u2 = u := by
      have q : its.toArray[i]? = some u2 := eu
      have q2 : its.toArray[i]? = some u := by simpa using hu
      rw [q] at q2
      exact Option.some.inj q2
    subst eu'
    refine ⟨_, rfl, wpAny_letOwnedTupleGo_enum (s := { s with heap := h', toks := tk + 1 }) ho ?_⟩
    intro h2 he2 sb
    have lt_n := Nat.ne_of_gt lt_e
    have hT2 : h2.get? s.heap.objs.size = some { cls := .type "tuple", data := .seq #[.int i tk, u2] } := (sb.2 _ lt_n).trans hT
    have new : ObjOk X.prog X.w (upd H s.heap.objs.size (.tup [.int (i : Nat), x])) h2 s.heap.objs.size (.tup [.int (i : Nat), x]) :=
      ⟨by show 2 ≤ sizeLine; decide, [.int i tk, u2], .cons ⟨_, rfl⟩ (.cons ru .nil), ⟨_, hT2, rfl, _, rfl⟩⟩
    have I1 : Inv X pins σ (upd H s.heap.objs.size (.tup [.int (i : Nat), x])) { s with heap := h2, toks := tk + 1 } :=
      I.turnedNew (ch := [e, it]) (fun b ob hb q => (sb.2 b (fun z => hb (by simp [z]))).trans (hk b ob (fun z => hb (by simp [z])) (fun z => hb (by simp [z])) q)) hf (Nat.le_refl _) new
    refine ⟨.ref s.heap.objs.size, _, I1, rfl, ⟨_, x, rfl, I.hok.fresh (Nat.le_refl _), rfl, fun ys hy => ?_⟩, ⟨⟨u2, ?_⟩, hst.1.at fun o q => (sb.2 it (Ne.symm hne)).trans q, hne, ha1, ha2⟩, ?_⟩
    · rw [I.tuple_inj hy hq]
      exact hx
    · rw [show ((i + 1 : Nat) : Int) = (i : Int) + 1 by omega]
      exact he2
    · intro b hb
      have lt_b : b < s.heap.objs.size := by
        rcases List.mem_cons.mp hb with rfl | hb
        · exact lt_e
        · rw [List.mem_singleton.mp hb]
          exact lt_it
      rw [upd_ne (Nat.ne_of_lt lt_b)]
      exact (hf b hb).1
  done := by
    intro X hP hw hK hc i pins s σ H E I hf st hg
    subst hP hw hK
    obtain ⟨⟨old, he⟩, hit, hne, ha1, ha2⟩ := st
    obtain ⟨xs, hq, hx⟩ := hg
    obtain ⟨its, rv, p, hz⟩ := I.tuple hq
    have hl := rv.length
    obtain ⟨f0, f1, f2, f3, f4, f5⟩ := hf it (List.mem_cons_of_mem _ List.mem_cons_self)
    exact wpAny_pyNext_enum_endD (drawsOver (prog := X.prog) (w := X.w) (A := X.A.in1) (I.ok.hd hc) it a its.toArray i (by simp; omega)) he ⟨hit, p, rfl⟩ fun h' eb => ⟨rfl, I.turned (t' := s.toks) (fun b o hb q => eb b o hb q) f0 f1 f3 f4 f5⟩
  self := fun A i s Q E st h => let ⟨⟨_, he⟩, _⟩ := st; wpAny_pyIter_enum he h
theorem pi_enumT {X : Cx} {e : Expr} {ta : TA} {p pos tpos : Pos} {elts : List Expr} {kk : Nat} (hg : Gl X "enumerate") (hm : X.mg "enumerate" = none) (ha : PA X [e] ta) (hs : starEach [e] X.env = [(false, eval e X.env)]) :
    PI X (.Tuple elts kk tpos) (.Call (.Name "enumerate" p) [e] [] pos) (fun σ H R => ta σ H fun vs H1 => ∃ a xs, vs = [.ref a] ∧ SqT X.K H1 a xs ∧ R (IteT X.K a) H1) := by
  constructor
  intro pins s σ H R I h
  refine Call_ (ld_blt I hg hm boot_enumerate (PyProof.Rows.callWith_type1 (thn (ha.run pos pins s σ H _ I h) ?_) hs rfl))
  rintro us s1 ⟨vs, H1, I1, r1, a, xs, rfl, hq, q⟩
  obtain ⟨u, rfl, r⟩ := vals1 r1
  obtain rfl : u = Value.ref a := r
  obtain ⟨its, rv, p', hz⟩ := I1.tuple hq
  refine call_enum1 (begins_tuple a its.toArray) p' ?_
  intro h' he hit hsz hk
  refine wpAny_pyIter_enum he ?_
  have I2 : Inv X pins σ H1 { s1 with heap := h' } := I1.kept (t' := s1.toks) hk
  have lt_a : a < s1.heap.objs.size := by
    obtain ⟨o, ho, _⟩ := p'
    exact Heap.lt_size ho
  refine ⟨s1.heap.objs.size + 1, [s1.heap.objs.size + 1, s1.heap.objs.size], _, _, H1, rfl, I2, turn_enumT a (s1.heap.objs.size + 1) s1.heap.objs.size, ⟨⟨.none, he⟩, ⟨_, hit, rfl, rfl⟩, Nat.succ_ne_self _, Nat.ne_of_lt lt_a, Nat.ne_of_lt (Nat.lt_succ_of_lt lt_a)⟩, fun b hb => ?_, q⟩
  have le_b : s1.heap.objs.size ≤ b := by
    rcases List.mem_cons.mp hb with rfl | hb
    · exact Nat.le_succ _
    · rw [List.mem_singleton.mp hb]
      exact Nat.le_refl _
  exact I1.fpOk le_b (I1.hok.fresh le_b)
section
variable {K : PySem.W.Frag} {O : Own} {H : Hp}
theorem itf_enumT {ds : List PyData} {a : Addr} (h : Fz K O H (.tuple ds) (.ref a)) : ItF K (IteT K a) O H (enumD ds) := by
  intro O' H' i dom k
  obtain ⟨b, xs, e, hb, fa⟩ := (Fz.kp k _ _ h).sqT
  cases e
  refine ⟨fun d e => ?_, fun hl => ⟨xs, hb, by rw [← fa.length]; simpa [enumD] using hl⟩⟩
  obtain ⟨d', e1, rfl⟩ := enumD_get e
  obtain ⟨v, ev, r⟩ := fa.get e1
  refine ⟨⟨xs, v, hb, ev⟩, fun x H' y => ?_⟩
  obtain ⟨T, w, rfl, hT, rfl, y⟩ := y
  have e2 := y xs hb
  rw [ev] at e2
  cases e2
  exact ev_pair dom hT (.int _) r
end
section
variable {X : Cx} {np : Nat} {a : Expr} {pos : Pos} {f : FE}
/-- enumerate of a list, of a tuple -/
def fEnumA (f : FE) : FI := fun Γ => (f Γ).bind fun p => match p.1 with
  | .md (.dat (.list ds)) => some (enumD ds, p.2)
  | .md (.dat (.tuple ds)) => some (enumD ds, p.2)
  | _ => none
theorem fi_enumA {p tpos : Pos} {elts : List Expr} {kk : Nat} (hm : X.mg "enumerate" = none) (ha : FX X np a f) (hg : Gl X "enumerate" := by rfl) (hs : starEach [a] X.env = (false, eval a X.env) :: starEach [] X.env := by rfl) (hs' : starEach [a] X.env = [(false, eval a X.env)] := by rfl) :
    FIX X np (.Tuple elts kk tpos) (.Call (.Name "enumerate" p) [a] [] pos) (fEnumA f) := by
  refine PI.weak (PI.or (pi_enum hg hm (pa_cons ha pa_nil hs) hs') (pi_enumT hg hm (pa_cons ha pa_nil hs) hs')) fun σ H R h => ?_
  obtain ⟨W, Γ, vs, ts, items, Γ', c, e, q⟩ := h
  obtain ⟨⟨t, Γ1⟩, e1, e⟩ := Option.bind_eq_some_iff.mp e
  dsimp only at e
  split at e
  · cases e
    refine .inl ⟨W, Γ, vs, ts, _, _, c, e1, fun v H1 c1 => ?_⟩
    obtain ⟨O, c1⟩ := c1
    have r := c1.top
    obtain ⟨a, xs, rfl, ha, fa, _⟩ := Fz.sqL r
    exact ⟨a, xs, rfl, .of ha, q _ _ _ c1.pop (itf_enum r)⟩
  · cases e
    refine .inr ⟨W, Γ, vs, ts, _, _, c, e1, fun v H1 c1 => ?_⟩
    obtain ⟨O, c1⟩ := c1
    have r := c1.top
    obtain ⟨a, xs, rfl, ha, fa⟩ := Fz.sqT r
    exact ⟨a, xs, rfl, ha, q _ _ _ c1.pop (itf_enumT r)⟩
  · cases e
end

/-! ### repr -/
/-- what repr tells of -/
def gRepr : List PyData → Option Res
  | [.none] => some (.val (.str (PyData.none).shown))
  | [.bool b] => some (.val (.str (PyData.bool b).shown))
  | [.int i] => if i.natAbs.log2 < 1920 then some (.val (.str (PyData.int i).shown)) else none
  | [.str x] => if (reprText x).length ≤ sizeLine then some (.val (.str (PyData.str x).shown)) else none
  | [.dict []] => some (.val (.str (PyData.dict []).shown))
  | [.list ds] => if (PyData.list ds).showable = true ∧ SeqAt.shaped (.list ds) = true ∧ (PyData.list ds).shown.length ≤ sizeLine then some (.val (.str (PyData.list ds).shown)) else none
  | [.tuple ds] => if (PyData.tuple ds).showable = true ∧ SeqAt.shaped (.tuple ds) = true ∧ (PyData.tuple ds).shown.length ≤ sizeLine then some (.val (.str (PyData.tuple ds).shown)) else none
  | _ => none
mutual
theorem noDict_of_canLay : ∀ d : PyData, d.canLay0 = true → d.hasDict = false
  | .none, _ => rfl
  | .bool _, _ => rfl
  | .int _, _ => rfl
  | .str _, _ => rfl
  | .list ds, h => by
    simp only [PyData.canLay0] at h
    simp only [PyData.hasDict]
    exact noDict_of_canLayAll ds h
  | .tuple ds, h => by
    simp only [PyData.canLay0] at h
    simp only [PyData.hasDict]
    exact noDict_of_canLayAll ds h
  | .dict _, h => by simp [PyData.canLay0] at h
theorem noDict_of_canLayAll : ∀ ds : List PyData, PyData.canLayAll0 ds = true → PyData.hasDictAll ds = false
  | [], _ => rfl
  | d :: ds, h => by
    simp only [PyData.canLayAll0, Bool.and_eq_true] at h
    simp only [PyData.hasDictAll, noDict_of_canLay d h.1, noDict_of_canLayAll ds h.2, Bool.or_self]
end
def rRepr (K : PySem.W.Frag) : List V → Hp → VK → Prop := fun xs H Q => ∃ x d s, xs = [x] ∧ (Dp K H x d ∨ (∃ a od, x = .ref a ∧ d = .dict [] ∧ H a = some (.frz od (.dK [])))) ∧ gRepr [d] = some (.val (.str s)) ∧ Q (.str s) H
theorem call_repr {X : Cx} (g0 : X.A.guards = some []) (hu : X.A.units + 66 < cLine) : CallR X (.builtin "repr") (rRepr X.K) := by
  intro pins s σ H xs us Q I r h
  obtain ⟨x, d, z, rfl, dp, e, q⟩ := h
  obtain ⟨u, rfl, ru⟩ := vals1 r
  have fin : ∀ (h' : Heap) (tk : Tok) (t : Nat), (∀ b o, s.heap.get? b = some o → h'.get? b = some o) → EP X pins σ Q (.str z tk) { s with heap := h', toks := t } := fun h' tk t hk => ⟨.str z, H, I.kept hk, ⟨_, rfl⟩, q⟩
  have fin0 : ∀ (tk : Tok) (t : Nat), EP X pins σ Q (.str z tk) { s with toks := t } := fun tk t => ⟨.str z, H, I.tok _, ⟨_, rfl⟩, q⟩
  rcases dp with dp | ⟨a, od, rfl, rfl, ha⟩
  · have big : ∀ {a : Addr} {d : PyData}, u = .ref a → Dp X.K H x d → d.showable = true → SeqAt.shaped d = true → d.shown.length ≤ sizeLine → d.shown = z → wpAny (model X.prog X.w) X.A (call (.builtin "repr") [u]) (EP X pins σ Q) X.xe s := by
      intro a d eu dp h1 h2 h3 ez
      subst eu
      obtain ⟨as, rd⟩ := Dp.reads I d x _ dp ru
      have hd := SeqAt.depth_of_shaped h2
      have nd := noDict_of_canLay d (SeqAt.canLay_of_shaped h2)
      refine repr_of_reads' rd h1 (fun z => by rw [nd] at z; cases z) g0 (by omega) (fun _ _ e => e) (fun h' v tk hk => ?_) h3
      rw [ez]
      exact fin h' v tk hk
    cases dp with
    | non =>
      cases ru
      cases e
      exact P.repr_of_none (fin0 _ _)
    | bl b =>
      cases ru
      cases e
      exact P.repr_of_bool (fin0 _ _)
    | int i =>
      obtain ⟨t, rfl⟩ := ru
      simp only [gRepr] at e
      split at e
      · rename_i hi
        cases e
        exact P.repr_of_int hi (fin0 _ _)
      · cases e
    | str y =>
      obtain ⟨t, rfl⟩ := ru
      simp only [gRepr] at e
      split at e
      · rename_i hi
        cases e
        exact P.repr_of_str (fin0 _ _) hi
      · cases e
    | lst hs ha =>
      cases ru
      simp only [gRepr] at e
      split at e
      · rename_i hi
        cases e
        exact big rfl (.lst hs ha) hi.1 hi.2.1 hi.2.2 rfl
      · cases e
    | tup hs ha =>
      cases ru
      simp only [gRepr] at e
      split at e
      · rename_i hi
        cases e
        exact big rfl (.tup hs ha) hi.1 hi.2.1 hi.2.2 rfl
      · cases e
  · cases ru
    cases e
    obtain ⟨e1, _, hsys, xs, kv, o, es, ep, e2, hc, hd, _, hp, _⟩ := (show ObjOk X.prog X.w H s.heap a (.frz od (.dK [])) from I.hok a _ ha)
    cases kv
    have he' : es.toList = [] := by
      generalize es.toList = l at hp
      cases hp
      rfl
    have rd : Reads s.heap (.ref a) (.dict []) (a :: [] ++ []) := .dict e2 hc.1 hd (by rw [he']; exact .nil) (by rw [he']; exact .nil)
    have ne : sysModules ≠ a := fun z => by rw [← z] at hsys; simp at hsys
    exact repr_of_reads' rd (by simp [PyData.showable, PyData.showableKv]) (fun _ => by simpa using ne) g0 (by simp [PyData.depth, PyData.depthKv]; omega) (fun _ _ e => e) (fun h' v tk hk => fin h' v tk hk) (by decide +kernel)

theorem snd_repr {K : PySem.W.Frag} : SndN K (rRepr K) gRepr := by
  intro O H xs ds s Q dom hx hg q
  have go : ∀ {d : PyData}, ds = [d] → SeqAt.shaped d = true → ∀ z, s = .val (.str z) → rRepr K xs H Q := by
    rintro d rfl sh z rfl
    obtain ⟨x, rfl, h⟩ := hx.one
    exact ⟨x, d, z, rfl, .inl (h.dp sh), hg, okv dom q (.str _)⟩
  unfold gRepr at hg
  split at hg
  · cases hg
    exact go rfl rfl _ rfl
  · cases hg
    exact go rfl rfl _ rfl
  · split at hg
    · cases hg
      exact go rfl rfl _ rfl
    · cases hg
  · rename_i y
    split at hg
    · rename_i hy
      cases hg
      obtain ⟨x, rfl, h⟩ := hx.one
      have h' : Fz K O H (.str y) x := h
      cases h'
      exact ⟨_, .str y, _, rfl, .inl (.str y), by simp [gRepr, hy], okv dom q (.str _)⟩
    · cases hg
  · cases hg
    obtain ⟨x, rfl, h⟩ := hx.one
    have h' : Fz K O H (.dict []) x := h
    cases h' with
    | dct hr n hd =>
      cases hd
      exact ⟨_, .dict [], _, rfl, .inr ⟨_, _, rfl, rfl, hr⟩, rfl, okv dom q (.str _)⟩
  · split at hg
    · rename_i hh
      cases hg
      exact go rfl hh.2.1 _ rfl
    · cases hg
  · split at hg
    · rename_i hh
      cases hg
      exact go rfl hh.2.1 _ rfl
    · cases hg
  · cases hg
theorem RoomG.rp {k : Nat} {A : Around} (h : RoomG k A) : A.guards = some [] ∧ A.units + 66 < cLine := ⟨h.g, by have := h.r.un; omega⟩
theorem cr_repr {X : Cx} (h : X.A.guards = some [] ∧ X.A.units + 66 < cLine) : CallR X (.builtin "repr") (rRepr X.K) := call_repr h.1 h.2

/-! ### texts compared -/
def gEqX (neg : Bool) (d e : PyData) : Option Res := match d, e with
  | .str a, .str b => some (.val (.bool (if neg then !decide (a = b) else decide (a = b))))
  | d, e => gEq neg d e
def rEqA (K : PySem.W.Frag) : R2 := fun x y H Q => rEq x y H Q ∨ rEqD K x y H Q
def rNeA (K : PySem.W.Frag) : R2 := fun x y H Q => rNe x y H Q ∨ rNeD K x y H Q
theorem op_eqA {X : Cx} (hu : X.A.units + 64 < cLine) : OpR X (compareOp .Eq) (rEqA X.K) := OpR.or op_eq (op_eqD hu)
theorem op_neA {X : Cx} (hu : X.A.units + 64 < cLine) : OpR X (compareOp .NotEq) (rNeA X.K) := OpR.or op_ne (op_neD hu)
theorem decide_str (a b : Str) : decide (V.str a = V.str b) = decide (a = b) := by
  by_cases h : a = b
  · subst h; simp
  · rw [decide_eq_false h, decide_eq_false fun z => h (V.str.inj z)]
theorem snd_eqX {K : PySem.W.Frag} : Snd2 K (rEqA K) (gEqX false) := by
  intro O H x y d e s Q dom hx hy hg q
  unfold gEqX at hg
  split at hg
  · cases hg
    cases hx
    cases hy
    refine .inl ⟨rfl, ?_⟩
    rw [decide_str]
    exact okv dom q (.bl _)
  · exact .inr (snd_eq O H x y _ _ s Q dom hx hy hg q)
theorem snd_neX {K : PySem.W.Frag} : Snd2 K (rNeA K) (gEqX true) := by
  intro O H x y d e s Q dom hx hy hg q
  unfold gEqX at hg
  split at hg
  · cases hg
    cases hx
    cases hy
    refine .inl ⟨rfl, ?_⟩
    rw [decide_str]
    exact okv dom q (.bl _)
  · exact .inr (snd_ne O H x y _ _ s Q dom hx hy hg q)
/-- a statement that is not reached -/
def fNever : FS := fun _ => none
theorem fs_never {X : Cx} {np : Nat} {e c : Option Expr} {pos : Pos} : FSX X np (.Raise e c pos) fNever := by
  refine ⟨fun pins s σ H D I h => ?_⟩
  obtain ⟨W, Γ, vs, ds, o, c, e, q⟩ := h
  cases e
/-- three whole numbers -/
def gMax3 : List PyData → Option Res
  | [.int i, .int j, .int k] => some (.val (.int (max (max i j) k)))
  | _ => none
def gMin3 : List PyData → Option Res
  | [.int i, .int j, .int k] => some (.val (.int (min (min i j) k)))
  | _ => none
end Fx

end

/-! Fx22: sum of a tuple, max and min of three, calls by place and by names, comprehensions with two fors -/
noncomputable section
namespace Fx
open PySem PySem.Spec PyProof.Rows L2

/-! ### sum of a list, of a tuple -/
def rSumA (K : PySem.W.Frag) : List V → Hp → VK → Prop := fun vs H Q => rSum K vs H Q ∨ ∃ (a : Addr) (ns : List Int), vs = [V.ref a] ∧ SqT K H a (ns.map V.int) ∧ Q (.int ns.sum) H
theorem cr_sumA {X : Cx} (hc : X.calm = true) : CallR X (.builtin "sum") (rSumA X.K) := by
  intro pins s σ H vs us Q I r h
  rcases h with h | ⟨a, ns, rfl, hs, q⟩
  · exact cr_sum hc pins s σ H vs us Q I r h
  · obtain ⟨its, rv, p, _⟩ := I.tuple hs
    rw [Vals.ref1 r]
    have hi : IntsAre its ns := rv.ints
    obtain ⟨xs, e⟩ := hi.allInts.items
    have hn : numsOf (intItems xs).toList = ns := by
      rw [← e]
      exact hi.numsOf
    rw [nums_intItems] at hn
    rw [e] at p
    refine PySem.W.ktm_sumG (I.ok.hd hc) p ?_
    intro h' tk t' hk
    refine ⟨.int ns.sum, H, I.kept hk, ⟨t', ?_⟩, q⟩
    rw [preSum_eq, List.take_of_length_le (by simp), hn]
def gSumA : List PyData → Option Res
  | [.list ds] => (intsOf ds).map fun ns => .val (.int ns.sum)
  | [.tuple ds] => (intsOf ds).map fun ns => .val (.int ns.sum)
  | _ => none
theorem snd_sumA {K : PySem.W.Frag} : SndN K (rSumA K) gSumA := by
  intro O H xs ds s Q dom hx hg q
  unfold gSumA at hg
  split at hg
  · exact .inl (snd_sum O H xs _ s Q dom hx hg q)
  · obtain ⟨ns, e1, e2⟩ := Option.map_eq_some_iff.mp hg
    cases e2
    obtain ⟨x, rfl, h⟩ := hx.one
    obtain ⟨a, ys, rfl, ha, fa⟩ := Fz.sqT h
    rw [intsOf_to e1] at fa
    rw [fa.intsV] at ha
    exact .inr ⟨a, ns, rfl, ha, okv dom q (.int _)⟩
  · cases hg

/-! ### max, min of three whole numbers -/
theorem VwA.three {K : PySem.W.Frag} {O : Own} {H : Hp} {d e f : PyData} {xs : List V} (h : VwA K O H [d, e, f] xs) : ∃ x y z, xs = [x, y, z] ∧ Vw K O H d x ∧ Vw K O H e y ∧ Vw K O H f z := by
  cases h with
  | cons r1 t =>
    cases t with
    | cons r2 t =>
      cases t with
      | cons r3 t =>
        cases t
        exact ⟨_, _, _, rfl, r1, r2, r3⟩
theorem nuMax_int (i j k : Int) : nuMax3 (.int i) (.int j) (.int k) = some (.int (max (max i j) k)) := by
  have h2 : ∀ a b : Int, nuMax2 (.int a) (.int b) = some (.int (max a b)) := by
    intro a b
    show (some (decide (a < b))).map (fun c => if c = true then V.int b else V.int a) = _
    by_cases h : a < b
    · rw [decide_eq_true h, Int.max_eq_right (by omega)]
      rfl
    · rw [decide_eq_false h, Int.max_eq_left (by omega)]
      rfl
  show (nuMax2 (.int i) (.int j)).bind (fun m => nuMax2 m (.int k)) = _
  rw [h2]
  exact h2 _ _
theorem nuMin_int (i j k : Int) : nuMin3 (.int i) (.int j) (.int k) = some (.int (min (min i j) k)) := by
  have h2 : ∀ a b : Int, nuMin2 (.int a) (.int b) = some (.int (min a b)) := by
    intro a b
    show (some (decide (b < a))).map (fun c => if c = true then V.int b else V.int a) = _
    by_cases h : b < a
    · rw [decide_eq_true h, Int.min_eq_right (by omega)]
      rfl
    · rw [decide_eq_false h, Int.min_eq_left (by omega)]
      rfl
  show (nuMin2 (.int i) (.int j)).bind (fun m => nuMin2 m (.int k)) = _
  rw [h2]
  exact h2 _ _
theorem snd_max3 {K : PySem.W.Frag} : SndN K (rNuC3 nuMax3) gMax3 := by
  intro O H xs ds s Q dom hx hg q
  unfold gMax3 at hg
  split at hg
  · cases hg
    obtain ⟨x, y, z, rfl, h1, h2, h3⟩ := hx.three
    cases h1
    cases h2
    cases h3
    exact ⟨_, _, _, _, rfl, nuMax_int _ _ _, okv dom q (.int _)⟩
  · cases hg
theorem snd_min3 {K : PySem.W.Frag} : SndN K (rNuC3 nuMin3) gMin3 := by
  intro O H xs ds s Q dom hx hg q
  unfold gMin3 at hg
  split at hg
  · cases hg
    obtain ⟨x, y, z, rfl, h1, h2, h3⟩ := hx.three
    cases h1
    cases h2
    cases h3
    exact ⟨_, _, _, _, rfl, nuMin_int _ _ _, okv dom q (.int _)⟩
  · cases hg

/-! ### calls by place and by names -/
section
variable {X : Cx} {np k : Nat} {st : Stmt} {ps ks : List Str} {x : Str} {p pos : Pos} {e : Expr} {es : List Expr} {F : FF} {fs fk : FA} {kws : List Keyword}
theorem kwP_run {f : Addr} {fd : FuncData} {sp : Sp} {t tk : TA} {g : List Value → List Value → List Value} {gV : List V → List V → List V} (G : FnG X.prog X.w X.K X.mg X.base k f fd ps sp) (hr : RoomG k X.A) (hg : Gl X x) (hm : X.mg x = some (.ref f)) (hk : PySem.W.keepIn X.K (.ref f) = true) (hb : KBinds X.K fd ps ks g gV)
    (ha : PA X (e :: es) t) (hkw : PK X kws tk) (hall : (backToKw pos (keywordEach kws X.env)).all (·.1.isSome) = true) (hks : (backToKw pos (keywordEach kws X.env)).filterMap (·.1) = ks) (hdb : (x == ("__debug__" : Str)) = false) (he : starEach (e :: es) X.env = (false, eval e X.env) :: starEach es X.env)
    (hpl : ((backTo pos (starEach (e :: es) X.env)).any (·.1) || (backToKw pos (keywordEach kws X.env)).any (·.1.isNone)) = false) : PE X (.Call (.Name x p) (e :: es) kws pos) (fun σ H Q => t σ H fun vs H1 => tk σ H1 fun zs H2 => sp (gV vs zs) H2 Q E0) := by
  constructor
  intro pins s σ H Q I h
  apply wpAny_Call_Name_kw
  apply ld_glob I hg hm _ hdb
  refine PySem.W.callWith_KW (h₀ := X.base) I.ok.mod.kin hk hall (thn (ha.run pos pins s σ H _ I h) ?_) hpl he
  rintro us s1 ⟨vs, H1, I1, r, q⟩
  refine thn (hkw.run pos pins s1 σ H1 _ I1 q) ?_
  rintro ws s2 ⟨zs, H2, I2, rz, q2⟩
  refine ⟨I2.kIn, ?_⟩
  rw [hks]
  exact callGk G hr hb I2 r rz q2
/-- n arguments by place, m by names; js: where each parameter is found -/
def fCallP (F : FF) (n m : Nat) (js : List Nat) (fs fk : FA) : FE := fun Γ => (fs Γ).bind fun p => (fk p.2).bind fun q => if p.1.length = n ∧ q.1.length = m ∧ permOk js (p.1 ++ q.1) = true ∧ (als (perm js (p.1 ++ q.1))).Nodup then
  (argsOf q.2 (perm js (p.1 ++ q.1))).bind fun ms => (F ms).bind fun r => (putArgs (perm js (p.1 ++ q.1)) r.2 q.2).map fun Γ' => (.md r.1, Γ') else none
theorem fx_callP {n m : Nat} {js : List Nat} (D : Def X.prog X.w X.K X.mg X.base k x st ps F) (hr : RoomG k X.A) (h0 : 0 < ps.length)
    (hb : ∀ (kV doc pm : Value) (an : Option Addr) (cdv ct : Value) (us ws : List Value), us.length = n → ws.length = m → bindArgs (PySem.W.fnOf x x (defArgs st) (defBody st) (defScope st) .none kV doc pm an cdv ct) ⟨us, ks.zip ws⟩ = pure (ps.zip (js.map fun j => (us ++ ws).getD j .none)))
    (ha : FAX X np (e :: es) fs) (hkw : FKX X np kws fk) (hall : (backToKw pos (keywordEach kws X.env)).all (·.1.isSome) = true := by rfl) (hks : (backToKw pos (keywordEach kws X.env)).filterMap (·.1) = ks := by rfl) (hg : Gl X x := by rfl) (hdb : (x == ("__debug__" : Str)) = false := by decide)
    (he : starEach (e :: es) X.env = (false, eval e X.env) :: starEach es X.env := by rfl)
    (hpl : ((backTo pos (starEach (e :: es) X.env)).any (·.1) || (backToKw pos (keywordEach kws X.env)).any (·.1.isNone)) = false := by rfl) : FX X np (.Call (.Name x p) (e :: es) kws pos) (fCallP F n m js fs fk) := by
  obtain ⟨⟨f, fd, Fn, G, hm⟩, bd⟩ := D
  have hkb : KBinds X.K fd ps ks (gK n m js) (gKV n m js) := by
    obtain ⟨oc, od, kV, doc, pm, an, cdv, ct, osl, rfl, _, _⟩ := Fn.ex
    exact kbinds h0 (hb kV doc pm an cdv ct)
  refine PE.weak (kwP_run G hr hg hm Fn.kp hkb ha hkw hall hks hdb he hpl) fun σ H Q h => ?_
  obtain ⟨W, Γ, vs, ts, t, Γ', c, e, q⟩ := h
  obtain ⟨⟨us, Γ1⟩, e1, e⟩ := Option.bind_eq_some_iff.mp e
  obtain ⟨⟨ws, Γ2⟩, e2, e⟩ := Option.bind_eq_some_iff.mp e
  dsimp only at e
  split at e
  · rename_i hh
    obtain ⟨ms, e3, e⟩ := Option.bind_eq_some_iff.mp e
    obtain ⟨⟨r, ms'⟩, e4, e⟩ := Option.bind_eq_some_iff.mp e
    obtain ⟨Γ3, e5, e⟩ := Option.map_eq_some_iff.mp e
    cases e
    refine ⟨W, Γ, vs, ts, us, Γ1, c, e1, fun xs H1 c1 el => ⟨W, Γ1, _, _, ws, Γ2, c1, e2, fun zs H2 c2 el2 => ?_⟩⟩
    obtain ⟨O, c2⟩ := c2
    have c2' : Cf X.K np W O σ H2 Γ2 ((xs ++ zs).reverse ++ vs) ((us ++ ws).reverse ++ ts) := by
      rw [List.reverse_append, List.reverse_append, List.append_assoc, List.append_assoc]
      exact c2
    obtain ⟨pr, c3⟩ := c2'.args (by simp [el, el2])
    have eV : gKV n m js xs zs = js.map fun j => (xs ++ zs).getD j .non := by
      unfold gKV
      rw [if_pos ⟨by rw [el]; exact hh.1, by rw [el2]; exact hh.2.1⟩]
    rw [eV]
    exact callF c3 (perm_pair pr js hh.2.2.1) hh.2.2.2 e3 e4 e5 q
  · cases e
end
end Fx

end

/-! Fx23: comprehensions with two fors -/
noncomputable section
namespace Fx
open PySem PySem.Spec PyProof.Rows L2

def loopM (tg : FG) (tt : FT) (fi1 : FI) (tg1 : FG) (tt1 : FT) (fe : FE) (own own1 : List Nat) : List PyData → List PyData → Gm → Option (List PyData × Gm)
  | [], acc, Γ => some (acc, Γ)
  | d :: r, acc, Γ => (tg d Γ).bind fun Γ1 => (tt Γ1).bind fun p => if p.1 = true then (fi1 p.2).bind fun q => if noOwn q.2 own1 = true then (loopL tg1 tt1 fe own1 q.1 acc (fgt q.2 own1)).bind fun z => if noOwn z.2 own = true then loopM tg tt fi1 tg1 tt1 fe own own1 r z.1 (fgt z.2 own) else none else none
    else if noOwn p.2 own = true then loopM tg tt fi1 tg1 tt1 fe own own1 r acc (fgt p.2 own) else none
def fLc2 (ow : Bool) (fi : FI) (tg : FG) (tt : FT) (fi1 : FI) (tg1 : FG) (tt1 : FT) (fe : FE) (own own1 : List Nat) : FE := fun Γ => (fi Γ).bind fun p => if noOwn p.2 own = true then (loopM tg tt fi1 tg1 tt1 fe own own1 p.1 [] (fgt p.2 own)).map fun q => ((Res.new q.1).fin ow, fgt q.2 own) else none
section
variable {X : Cx} {np : Nat} {pos : Pos} {is is1 : List Nat}
theorem lc2_read {ow : Bool} {fi fi1 : FI} {g g1 : FG} {tt tt1 : FT} {fe : FE} {own own1 : List Nat} (hsub : ∀ i ∈ is, i ∈ own) (hsub1 : ∀ i ∈ is1, i ∈ own1) (h10 : ∀ i ∈ own1, i ∈ own) {σ : L2.St} {H : Hp} {Q : VK} (h : up X.K np (fLc2 ow fi g tt fi1 g1 tt1 fe own own1) σ H Q) :
    tLc2 (upI X.K np fi) (upG X.K np is g) (upT X.K np tt) (upI X.K np fi1) (upG X.K np is1 g1) (upT X.K np tt1) (up X.K np fe) own own1 σ H Q := by
  obtain ⟨W, Γ, vs, ts, t, Γ', c, e, q⟩ := h
  obtain ⟨⟨items, Γ1⟩, e1, e⟩ := Option.bind_eq_some_iff.mp e
  dsimp only at e
  split at e
  · rename_i hno
    obtain ⟨⟨out, Γ9⟩, e9, ex⟩ := Option.map_eq_some_iff.mp e
    cases ex
    have hw : ∀ j, j ∉ own → (L2.wipe σ own)[j]? = σ[j]? := fun j hj => wipe_at hj
    refine ⟨W, Γ, vs, ts, items, Γ1, c, e1, fun J O1 H1 c1 itf D hD => ?_⟩
    refine ⟨fun i m H => i + m = items.length ∧ ∃ acc Γi, Cfg X.K np (W.at O1 H1) (L2.wipe σ own) H Γi (.ref D :: vs) (.md (.lst acc) :: ts) ∧ (∀ j, j ∈ own → ownAt Γi j = false) ∧ loopM g tt fi1 g1 tt1 fe own own1 (items.drop i) acc Γi = some (out, Γ9), ⟨items.length, by simp, [], fgt Γ1 own, ?_, ownAt_fgt, e9⟩, ?_⟩
    · have a := Ev.newOwn (o := .lst []) (t := .tmp ts.length) (by simp) c1.dom hD
      have c2 := (c1.rebase.ev0 a).push (v := .ref D) (t := .md (.lst [])) ⟨D, [], rfl, put_same, upd_same, .nil⟩
      exact ⟨_, c2.inBlk own (L2.wipe_length _ _) hw (noOwn_to hno)⟩
    · rintro i m H ⟨hl, acc, Γi, ⟨O, ci⟩, hoi, ei⟩
      obtain ⟨s1, s2⟩ := itf.step i ci
      cases m with
      | zero =>
        have hi' : items.length ≤ i := by omega
        rw [List.drop_eq_nil_of_le hi'] at ei
        cases ei
        refine .inl ⟨s2 hi', ?_⟩
        have c3 := ci.inBlk (σ' := σ) own (L2.wipe_length _ _).symm (fun j hj => (hw j hj).symm) hoi
        have c4 := c1.unbase c3
        cases ow with
        | true => exact q _ H ⟨_, c4⟩
        | false => exact q _ H (c4.frzTop rfl)
      | succ m =>
        have hi' : i < items.length := by omega
        have ed : items[i]? = some items[i] := List.getElem?_eq_getElem hi'
        obtain ⟨go, y⟩ := s1 _ ed
        rw [List.drop_eq_getElem_cons hi'] at ei
        obtain ⟨Γ2, e2, ei⟩ := Option.bind_eq_some_iff.mp ei
        obtain ⟨⟨b, Γ3⟩, e3, ei⟩ := Option.bind_eq_some_iff.mp ei
        refine .inr ⟨go, fun H => ∃ acc Γi, Cfg X.K np (W.at O1 H1) (L2.wipe σ own) H Γi (.ref D :: vs) (.md (.lst acc) :: ts) ∧ (∀ j, j ∈ own → ownAt Γi j = false) ∧ loopM g tt fi1 g1 tt1 fe own own1 (items.drop (i + 1)) acc Γi = some (out, Γ9), fun H' w => ⟨m, Nat.lt_succ_self _, by omega, w⟩, fun x H2 hy => ?_⟩
        refine ⟨W.at O1 H1, Γi, _, _, _, Γ2, y x H2 hy, e2, fun σ3 H3 c3 off => ?_⟩
        have hoff : ∀ j, j ∉ own → (L2.wipe σ own)[j]? = σ3[j]? := fun j hj => (off.2 j fun z => hj (hsub j z)).symm
        have hlen : (L2.wipe σ own).length = σ3.length := off.1.symm
        refine ⟨by rw [wipe_ext (σ := L2.wipe σ own) hlen.symm fun j hj => (hoff j hj).symm, wipe_wipe], ?_⟩
        refine ⟨W.at O1 H1, Γ2, _, _, b, Γ3, c3, e3, fun H4 c4 => ?_⟩
        cases b with
        | false =>
          refine iteF ?_
          dsimp only at ei
          rw [if_neg (by simp)] at ei
          split at ei
          · rename_i hno3
            obtain ⟨O4, c4⟩ := c4
            exact ⟨acc, fgt Γ3 own, ⟨O4, c4.inBlk own hlen hoff (noOwn_to hno3)⟩, ownAt_fgt, ei⟩
          · cases ei
        | true =>
          dsimp only at ei
          rw [if_pos rfl] at ei
          obtain ⟨⟨items1, Γ5⟩, e5, ei⟩ := Option.bind_eq_some_iff.mp ei
          dsimp only at ei
          split at ei
          · rename_i hno5
            obtain ⟨⟨out1, Γ8⟩, e8, ei⟩ := Option.bind_eq_some_iff.mp ei
            dsimp only at ei
            split at ei
            · rename_i hno8
              refine iteT ⟨W.at O1 H1, Γ3, _, _, items1, Γ5, c4, e5, fun J1 O5 H5 c5 itf1 => ?_⟩
              have hw1 : ∀ j, j ∉ own1 → (L2.wipe σ3 own1)[j]? = σ3[j]? := fun j hj => wipe_at hj
              refine ⟨fun j k H => j + k = items1.length ∧ ∃ acc Γi, Cfg X.K np ((W.at O1 H1).at O5 H5) (L2.wipe σ3 own1) H Γi (.ref D :: vs) (.md (.lst acc) :: ts) ∧ (∀ j, j ∈ own1 → ownAt Γi j = false) ∧ loopL g1 tt1 fe own1 (items1.drop j) acc Γi = some (out1, Γ8),
                ⟨items1.length, by simp, acc, fgt Γ5 own1, ⟨_, c5.rebase.inBlk own1 (L2.wipe_length _ _) hw1 (noOwn_to hno5)⟩, ownAt_fgt, e8⟩, ?_⟩
              rintro j k H6 ⟨hl1, acc1, Γj, ⟨O6, cj⟩, hoj, ej⟩
              obtain ⟨s3, s4⟩ := itf1.step j cj
              cases k with
              | zero =>
                have hj' : items1.length ≤ j := by omega
                rw [List.drop_eq_nil_of_le hj'] at ej
                cases ej
                refine .inl ⟨s4 hj', ?_⟩
                have c7 := c5.unbase cj
                refine ⟨_, _, ⟨O6, c7.inBlk (σ' := L2.wipe σ own) own ?_ ?_ (noOwn_to hno8)⟩, ownAt_fgt, ei⟩
                · rw [hlen, L2.wipe_length]
                · intro j' hj'
                  rw [hoff j' hj', wipe_at fun z => hj' (h10 j' z)]
              | succ k =>
                have hj' : j < items1.length := by omega
                have ed1 : items1[j]? = some items1[j] := List.getElem?_eq_getElem hj'
                obtain ⟨go1, y1⟩ := s3 _ ed1
                rw [List.drop_eq_getElem_cons hj'] at ej
                obtain ⟨Γa, ea, ej⟩ := Option.bind_eq_some_iff.mp ej
                obtain ⟨⟨b1, Γb⟩, eb, ej⟩ := Option.bind_eq_some_iff.mp ej
                refine .inr ⟨go1, fun H => ∃ acc Γi, Cfg X.K np ((W.at O1 H1).at O5 H5) (L2.wipe σ3 own1) H Γi (.ref D :: vs) (.md (.lst acc) :: ts) ∧ (∀ j, j ∈ own1 → ownAt Γi j = false) ∧ loopL g1 tt1 fe own1 (items1.drop (j + 1)) acc Γi = some (out1, Γ8), fun H' w => ⟨k, Nat.lt_succ_self _, by omega, w⟩, fun x1 H7 hy1 => ?_⟩
                refine ⟨(W.at O1 H1).at O5 H5, Γj, _, _, _, Γa, y1 x1 H7 hy1, ea, fun σ4 H8 c8 off1 => ?_⟩
                have hoff1 : ∀ j, j ∉ own1 → (L2.wipe σ3 own1)[j]? = σ4[j]? := fun j hj => (off1.2 j fun z => hj (hsub1 j z)).symm
                have hlen1 : (L2.wipe σ3 own1).length = σ4.length := off1.1.symm
                refine ⟨by rw [wipe_ext (σ := L2.wipe σ3 own1) hlen1.symm fun j hj => (hoff1 j hj).symm, wipe_wipe], ?_⟩
                refine ⟨(W.at O1 H1).at O5 H5, Γa, _, _, b1, Γb, c8, eb, fun H9 c9 => ?_⟩
                cases b1 with
                | false =>
                  refine iteF ?_
                  dsimp only at ej
                  rw [if_neg (by simp)] at ej
                  split at ej
                  · rename_i hnob
                    obtain ⟨O9, c9⟩ := c9
                    exact ⟨acc1, fgt Γb own1, ⟨O9, c9.inBlk own1 hlen1 hoff1 (noOwn_to hnob)⟩, ownAt_fgt, ej⟩
                  · cases ej
                | true =>
                  dsimp only at ej
                  rw [if_pos rfl] at ej
                  obtain ⟨⟨t5, Γc⟩, ec, ej⟩ := Option.bind_eq_some_iff.mp ej
                  obtain ⟨yd, e6, ej⟩ := Option.bind_eq_some_iff.mp ej
                  dsimp only at ej
                  split at ej
                  · rename_i hnoc
                    refine iteT ⟨(W.at O1 H1).at O5 H5, Γb, _, _, t5, Γc, c9, ec, fun y H10 c10 => ?_⟩
                    obtain ⟨O10, c10⟩ := c10
                    obtain ⟨a, ws, ea, oa, ha, fa⟩ := c10.pop.top
                    cases ea
                    have ry : Fz X.K O10 H10 yd y := by
                      have := c10.top
                      have e6' : t5 = .md (.dat yd) := frz_to e6
                      rw [e6'] at this
                      exact this
                    refine ⟨ws, ha, by rw [← fa.length]; exact hnoc.1, acc1 ++ [yd], fgt Γc own1, ?_, ownAt_fgt, ej⟩
                    have w := Ev.write (o := .lst (ws ++ [y])) c10.dom oa
                    have c11 := c10.pop.pop.ev w (by simp) (by simp) (fun k z => by injection z with z; omega)
                    have c12 := c11.push (v := .ref D) (t := .md (.lst (acc1 ++ [yd]))) ⟨D, ws ++ [y], rfl, oa, upd_same, (FzA.kp w.k _ _ fa).append (.cons (Fz.kp w.k _ _ ry) .nil)⟩
                    exact ⟨_, c12.inBlk own1 hlen1 hoff1 (noOwn_to hnoc.2)⟩
                  · cases ej
            · cases ei
          · cases ei
  · cases e
theorem fx_lc2 {ow : Bool} {elt tg iter tg1 iter1 : Expr} {ifs ifs1 : List Expr} {scope : Scope} {own : List (Str × Nat)} {own1 : List Nat} {fi fi1 : FI} {g g1 : FG} {tt tt1 : FT} {fe : FE} (hc : X.calm = true) (hN : X.N.Nodup) (hi : FIX X np tg iter fi) (ok : BlkOk X.N X.env.scope scope own)
    (hg : ∀ (s : Shared) (H : Hp) (C : Addr) (cl : List (Str × Addr)) (fp : List Addr), FGX (X.blk s H scope (compEnvC scope cl C X.env) fp) np is tg g) (ht : ∀ (s : Shared) (H : Hp) (C : Addr) (cl : List (Str × Addr)) (fp : List Addr), FTsX (X.blk s H scope (compEnvC scope cl C X.env) fp) np ifs tt)
    (hi1 : ∀ (s : Shared) (H : Hp) (C : Addr) (cl : List (Str × Addr)) (fp : List Addr), FIX (X.blk s H scope (compEnvC scope cl C X.env) fp) np tg1 iter1 fi1)
    (hg1 : ∀ (s : Shared) (H : Hp) (C : Addr) (cl : List (Str × Addr)) (fp : List Addr), FGX (X.blk s H scope (compEnvC scope cl C X.env) fp) np is1 tg1 g1) (ht1 : ∀ (s : Shared) (H : Hp) (C : Addr) (cl : List (Str × Addr)) (fp : List Addr), FTsX (X.blk s H scope (compEnvC scope cl C X.env) fp) np ifs1 tt1)
    (he : ∀ (s : Shared) (H : Hp) (C : Addr) (cl : List (Str × Addr)) (fp : List Addr), FX (X.blk s H scope (compEnvC scope cl C X.env) fp) np elt fe) (hsub : ∀ i ∈ is, i ∈ own.map (·.2) := by decide) (hsub1 : ∀ i ∈ is1, i ∈ own1 := by decide) (h10 : ∀ i ∈ own1, i ∈ own.map (·.2) := by decide)
    (hs : ∀ x, foldedSetIterable iter X.env x = pure x := by intro _; rfl) (hs1 : ∀ env x, foldedSetIterable iter1 env x = pure x := by intro _ _; rfl) :
    FX X np (.ListComp elt [⟨tg, iter, ifs, 0⟩, ⟨tg1, iter1, ifs1, 0⟩] scope pos) (fLc2 ow fi g tt fi1 g1 tt1 fe (own.map (·.2)) own1) :=
  PE.weak (pe_lc2 (wi1 := upI X.K np fi1) (g := upG X.K np is g) (tt := upT X.K np tt) (g1 := upG X.K np is1 g1) (tt1 := upT X.K np tt1) (te := up X.K np fe) hc hN hi ok h10 hg ht hi1 hg1 ht1 he hs hs1) fun _ _ _ h => lc2_read hsub hsub1 h10 h
/-- y = [.. for .. for ..] on one line -/
theorem fs_setLc2 {ow : Bool} {i : Nat} {y : Str} {py : Pos} {elt tg iter tg1 iter1 : Expr} {ifs ifs1 : List Expr} {scope : Scope} {own : List (Str × Nat)} {own1 : List Nat} {spos : Pos} {fi fi1 : FI} {g g1 : FG} {tt tt1 : FT} {fe : FE} (hc : X.calm = true) (hN : X.N.Nodup) (hyl : X.env.scope.names.lookup y = some .local)
    (hsw : swapsWith (.ListComp elt [⟨tg, iter, ifs, 0⟩, ⟨tg1, iter1, ifs1, 0⟩] scope pos) (some (.Name y py)) spos.line X.env = pure true) (hi : FIX X np tg iter fi) (ok : BlkOk X.N X.env.scope scope own)
    (hg : ∀ (s : Shared) (H : Hp) (C : Addr) (cl : List (Str × Addr)) (fp : List Addr), FGX (X.blk s H scope (compEnvC scope cl C X.env) fp) np is tg g) (ht : ∀ (s : Shared) (H : Hp) (C : Addr) (cl : List (Str × Addr)) (fp : List Addr), FTsX (X.blk s H scope (compEnvC scope cl C X.env) fp) np ifs tt)
    (hi1 : ∀ (s : Shared) (H : Hp) (C : Addr) (cl : List (Str × Addr)) (fp : List Addr), FIX (X.blk s H scope (compEnvC scope cl C X.env) fp) np tg1 iter1 fi1)
    (hg1 : ∀ (s : Shared) (H : Hp) (C : Addr) (cl : List (Str × Addr)) (fp : List Addr), FGX (X.blk s H scope (compEnvC scope cl C X.env) fp) np is1 tg1 g1) (ht1 : ∀ (s : Shared) (H : Hp) (C : Addr) (cl : List (Str × Addr)) (fp : List Addr), FTsX (X.blk s H scope (compEnvC scope cl C X.env) fp) np ifs1 tt1)
    (he : ∀ (s : Shared) (H : Hp) (C : Addr) (cl : List (Str × Addr)) (fp : List Addr), FX (X.blk s H scope (compEnvC scope cl C X.env) fp) np elt fe) (hy : X.N[i]? = some y := by rfl) (hsub : ∀ i ∈ is, i ∈ own.map (·.2) := by decide) (hsub1 : ∀ i ∈ is1, i ∈ own1 := by decide) (h10 : ∀ i ∈ own1, i ∈ own.map (·.2) := by decide)
    (hs : ∀ x, foldedSetIterable iter X.env x = pure x := by intro _; rfl) (hs1 : ∀ env x, foldedSetIterable iter1 env x = pure x := by intro _ _; rfl) :
    FSX X np (.Assign [.Name y py] (.ListComp elt [⟨tg, iter, ifs, 0⟩, ⟨tg1, iter1, ifs1, 0⟩] scope pos) spos) (fSet np i (fLc2 ow fi g tt fi1 g1 tt1 fe (own.map (·.2)) own1)) := by
  refine PS.weak (ps_setLc2 (wi1 := upI X.K np fi1) (g := upG X.K np is g) (tt := upT X.K np tt) (g1 := upG X.K np is1 g1) (tt1 := upT X.K np tt1) (te := up X.K np fe) hc hN hy hyl hsw hi ok h10 hg ht hi1 hg1 ht1 he hs hs1) fun D σ H h => ?_
  obtain ⟨W, Γ, vs, ds, o, c, e, q⟩ := h
  obtain ⟨⟨t, Γ1⟩, e1, e⟩ := Option.bind_eq_some_iff.mp e
  refine lc2_read (np := np) (ow := ow) hsub hsub1 h10 ⟨W, Γ, vs, tsd ds, t, Γ1, c, e1, fun v H1 c1 => ?_⟩
  obtain ⟨O, c1⟩ := c1
  cases t with
  | md m =>
    dsimp only at e
    split at e
    · cases e
    · rename_i hm
      cases e
      exact q _ _ (c1.store hm)
  | al j => cases e
end
end Fx

end

/-! Fx24: numbers of the module, {} that nobody changes -/
noncomputable section
namespace Fx
open PySem PySem.Spec PyProof.Rows L2

theorem mg_int {K : PySem.W.Frag} {h : Heap} {mg : Str → Option Value} {x : Str} {n : Int} {t : Tok} (X : K.In h) (G : h.Ns mainGlobals mg) (e : PySem.W.nsIn K mainGlobals x = some (some (.int n t))) : ∃ t, mg x = some (.int n t) := ⟨t, PySem.W.mg_of X G e⟩
/-- a def without a meaning -/
theorem fnG_none {P : Program} {w : World} {K : PySem.W.Frag} {mg : Str → Option Value} {base : Heap} {k : Nat} {f : Addr} {fd : FuncData} {ps : List Str} : FnG P w K mg base k f fd ps (spF K fun _ => none) :=
  ⟨fun vs H Q E h => (let ⟨_, _, _, _, _, _, _, _, e, _⟩ := h; by cases e), fun _ _ _ _ h => (let ⟨_, _, _, _, _, _, _, _, e, _⟩ := h; by cases e)⟩
section
variable {X : Cx} {np : Nat} {pos : Pos} {e : Expr} {f : FE}
/-- a whole number that the module names -/
theorem fx_globI {x : Str} {n : Int} (hg : Gl X x) (h : ∃ t, X.mg x = some (.int n t)) (hd : (x == ("__debug__" : Str)) = false := by decide) : FX X np (.Name x pos) (fC (.int n)) := by
  obtain ⟨t, h⟩ := h
  exact fx_glob (v := .int n) hg h ⟨t, rfl⟩ (fun _ _ => .int _) hd
theorem PE.lockE {t : TE} (h : PE X e t) : PE X e (fun σ H Q => t σ H fun v H1 => Q v H1 ∨ ∃ d kvs, v = .ref d ∧ H1 d = some (.dK kvs) ∧ ∀ od, Q (.ref d) (upd H1 d (.frz od (.dK kvs)))) := by
  refine ⟨fun pins s σ H Q I hw => thn (h.run pins s σ H _ I hw) ?_⟩
  rintro u s1 ⟨v, H1, I1, r, q⟩
  rcases q with q | ⟨d, kvs, rfl, hd, q⟩
  · exact ⟨v, H1, I1, r, q⟩
  · obtain ⟨od, I2⟩ := I1.lock hd True.intro
    exact ⟨.ref d, _, I2, r, q od⟩
def fFrzE (f : FE) : FE := fun Γ => (f Γ).bind fun p => match p.1 with
  | .md (.dcK kvs) => some (.md (.dat (.dict (pairsD kvs))), p.2)
  | _ => none
theorem fx_frzE (h : FX X np e f) : FX X np e (fFrzE f) := by
  refine PE.weak (PE.lockE h) fun σ H Q h => ?_
  obtain ⟨W, Γ, vs, ts, t, Γ', c, e, q⟩ := h
  obtain ⟨⟨t1, Γ1⟩, e1, e⟩ := Option.bind_eq_some_iff.mp e
  dsimp only at e
  split at e
  · rename_i kvs
    cases e
    refine ⟨W, Γ, vs, ts, _, _, c, e1, fun v H1 c1 => .inr ?_⟩
    obtain ⟨O, c1⟩ := c1
    obtain ⟨a, ws, rfl, oa, ha, pd⟩ := c1.top
    refine ⟨a, ws, rfl, ha, fun od => q _ _ ?_⟩
    have w := Ev.write (o := .frz od (.dK ws)) c1.dom oa
    have ev : Ev (· = .tmp ts.length) O H1 (retag O (.tmp ts.length) none) (upd H1 a (.frz od (.dK ws))) := w.trans (Ev.retag (by simp) w.dom)
    have c2 := c1.pop.ev ev (by simp) (by simp) (fun k z => by injection z with z; omega)
    exact ⟨_, c2.push (v := .ref a) (t := .md (.dat (.dict (pairsD kvs)))) (.dct upd_same (retag_of oa) (pd.kp ev.k).frz)⟩
  · cases e
end
end Fx

end

/-! Fx25: tuples times whole numbers, also none, once, less -/
noncomputable section
namespace Fx
open PySem PySem.Spec PyProof.Rows L2

theorem tmul_same (l : Addr) (items : Array Value) (n : Nat) (dd : Option Addr) (sl : Array (Option Value)) (x : Int) (u : Tok) (c0 : (decide (x < -(2 ^ 63)) || decide (x ≥ 2 ^ 63)) = false) (c1 : (items.isEmpty || x == 1) = true) :
    Meets (Builtin.«tuple.__mul__» ⟨[.ref l, .int x u], []⟩) (fun _ R s => s.heap.get? l = some { cls := .type "tuple", dict := dd, data := .seq items n, slots := sl } ∧ R (.ok (.ret (.ref l))) s) :=
  .of_wp fun prog w A R s h => by
    obtain ⟨hp, g, d, tk, os⟩ := s
    obtain ⟨hl, h⟩ := h
    have f1 := AutoSeq1.idx_int
    wp_walk using wpAny_loadPart' hl
    repeat (first
      | (refine wpAny_ite_false (decide_eq_false (by rw [c0]; exact Bool.false_ne_true)) ?_; wp_walk using wpAny_loadPart' hl)
      | (refine wpAny_ite_true (decide_eq_true c1) ?_; wp_walk using wpAny_loadPart' hl))
    exact ⟨_, rfl, h⟩
theorem tmul_none (l : Addr) (items : Array Value) (n : Nat) (dd : Option Addr) (sl : Array (Option Value)) (x : Int) (u : Tok) (c0 : (decide (x < -(2 ^ 63)) || decide (x ≥ 2 ^ 63)) = false) (c1 : (items.isEmpty || x == 1) = false) (c2 : (decide (x ≤ 0) || items.isEmpty) = true) :
    Meets (Builtin.«tuple.__mul__» ⟨[.ref l, .int x u], []⟩) (fun _ R s => s.heap.get? l = some { cls := .type "tuple", dict := dd, data := .seq items n, slots := sl } ∧
      R (.ok (.ret (Value.ref s.heap.objs.size))) { s with heap := s.heap.push { cls := Value.type "tuple", data := Data.seq #[] }, toks := s.toks }) :=
  .of_wp fun prog w A R s h => by
    obtain ⟨hp, g, d, tk, os⟩ := s
    obtain ⟨hl, h⟩ := h
    have f1 := AutoSeq1.idx_int
    wp_walk using wpAny_loadPart' hl
    repeat (first
      | (refine wpAny_ite_false (decide_eq_false (by rw [c0]; exact Bool.false_ne_true)) ?_; wp_walk using wpAny_loadPart' hl)
      | (refine wpAny_ite_false (decide_eq_false (by rw [c1]; exact Bool.false_ne_true)) ?_; wp_walk using wpAny_loadPart' hl)
      | (refine wpAny_ite_true (decide_eq_true c2) ?_; wp_walk using wpAny_loadPart' hl))
    exact ⟨_, rfl, h⟩
def rRepS (K : PySem.W.Frag) : R2 := fun x y H Q => ∃ l k xs, x = .ref l ∧ y = .int k ∧ SqT K H l xs ∧ -(2 ^ 63) ≤ k ∧ k < 2 ^ 63 ∧ (xs = [] ∨ k = 1) ∧ Q (.ref l) H
def rRepN (K : PySem.W.Frag) : R2 := fun x y H Q => ∃ l k xs, x = .ref l ∧ y = .int k ∧ SqT K H l xs ∧ -(2 ^ 63) ≤ k ∧ k ≤ 0 ∧ xs ≠ [] ∧ ∀ p, H p = none → Q (.ref p) (upd H p (.tup []))
section
variable {X : Cx}
theorem op_repS : OpR X (binaryOp .Mult) (rRepS X.K) := by
  intro pins s σ H x y v u Q I rx ry h
  obtain ⟨l, k, xs, rfl, rfl, hT, h1, h2, hh, q⟩ := h
  cases rx
  obtain ⟨t, rfl⟩ := ry
  obtain ⟨its, r, ⟨⟨cls, dd, data, sl⟩, ho, hc, n, hd⟩, hs⟩ := I.tuple hT
  simp only at hc hd
  subst hc hd
  have c0 : (decide (k < -(2 ^ 63)) || decide (k ≥ 2 ^ 63)) = false := by
    rw [decide_eq_false (by omega), decide_eq_false (by omega)]
    rfl
  have c1 : (its.toArray.isEmpty || k == 1) = true := by
    rcases hh with rfl | rfl
    · cases r
      rfl
    · simp
  refine wpAny_binaryOp_repeat_ref (T := "tuple") (U := "int") (by decide) ⟨_, ho, rfl⟩ (fun s' => typeIs_int s' k t) noFill_tuple_mul F.fills_int_mul F.slot_int_rmul repeat_tuple F.slot_int_index.lookup
    (call_meets F.slot_int_rmul (typeIs_int s k t) F.entry_int_rmul (F.args_int_rmul_2 _ _) (int_rmul_tuple k t l its.toArray n dd sl)
      ⟨ho, rfl, ⟨_, ho, rfl⟩, call_meets F.slot_tuple_mul ⟨_, ho, rfl⟩ F.entry_tuple_mul (F.args_tuple_mul_2 _ _) (tmul_same l its.toArray n dd sl k t c0 c1) ⟨ho, ?_⟩⟩)
  exact ⟨.ref l, H, I, rfl, q⟩
theorem op_repN : OpR X (binaryOp .Mult) (rRepN X.K) := by
  intro pins s σ H x y v u Q I rx ry h
  obtain ⟨l, k, xs, rfl, rfl, hT, h1, h2, hh, q⟩ := h
  cases rx
  obtain ⟨t, rfl⟩ := ry
  obtain ⟨its, r, ⟨⟨cls, dd, data, sl⟩, ho, hc, n, hd⟩, hs⟩ := I.tuple hT
  simp only at hc hd
  subst hc hd
  have c0 : (decide (k < -(2 ^ 63)) || decide (k ≥ 2 ^ 63)) = false := by
    rw [decide_eq_false (by omega), decide_eq_false (by omega)]
    rfl
  have he : its.toArray.isEmpty = false := by
    cases r with
    | nil => exact absurd rfl hh
    | cons => rfl
  have c1 : (its.toArray.isEmpty || k == 1) = false := by
    rw [he, Bool.false_or]
    exact beq_eq_false_iff_ne.mpr (by omega)
  have c2 : (decide (k ≤ 0) || its.toArray.isEmpty) = true := by
    rw [decide_eq_true h2]
    rfl
  refine wpAny_binaryOp_repeat_ref (T := "tuple") (U := "int") (by decide) ⟨_, ho, rfl⟩ (fun s' => typeIs_int s' k t) noFill_tuple_mul F.fills_int_mul F.slot_int_rmul repeat_tuple F.slot_int_index.lookup
    (call_meets F.slot_int_rmul (typeIs_int s k t) F.entry_int_rmul (F.args_int_rmul_2 _ _) (int_rmul_tuple k t l its.toArray n dd sl)
      ⟨ho, rfl, ⟨_, ho, rfl⟩, call_meets F.slot_tuple_mul ⟨_, ho, rfl⟩ F.entry_tuple_mul (F.args_tuple_mul_2 _ _) (tmul_none l its.toArray n dd sl k t c0 c1 c2) ⟨ho, ?_⟩⟩)
  refine ⟨.ref s.heap.objs.size, _, I.laid (t' := s.toks) (o := .tup []) (fun b ob q => Heap.get?_push_of_some _ q) (Nat.le_refl _) ?_, rfl, q _ (I.hok.fresh (Nat.le_refl _))⟩
  exact ⟨Nat.zero_le _, [], .nil, IsTup.new _ _⟩
def rMulX (K : PySem.W.Frag) : R2 := fun x y H Q => rMulA K x y H Q ∨ (rRepS K x y H Q ∨ rRepN K x y H Q)
theorem op_mulX : OpR X (binaryOp .Mult) (rMulX X.K) := OpR.or op_mulA (OpR.or op_repS op_repN)
end
/-- products, lists and tuples times whole numbers -/
def gMulX (d e : PyData) : Option Res := match d, e with
  | .tuple xs, .int k => @ite _ (-(2 ^ 63) ≤ k ∧ k < 2 ^ 63) (Classical.propDecidable _) (if xs = [] ∨ k = 1 then some (.val (.tuple xs)) else if k ≤ 0 then some (.val (.tuple [])) else gMul (.tuple xs) (.int k)) none
  | d, e => gMul d e
theorem snd_mulX {K : PySem.W.Frag} : Snd2 K (rMulX K) gMulX := by
  intro O H x y d e s Q dom hx hy hg q
  unfold gMulX at hg
  split at hg
  · rename_i ds k
    split at hg
    · rename_i hk
      split at hg
      · rename_i hh
        cases hg
        have hx' := hx
        obtain ⟨a, xs, rfl, ha, fa⟩ := Fz.sqT hx
        have hy' : Fz K O H (.int k) y := hy
        cases hy'
        refine .inr (.inl ⟨a, k, xs, rfl, rfl, ha, hk.1, hk.2, ?_, okv dom q hx'⟩)
        rcases hh with rfl | h
        · exact .inl (by cases fa; rfl)
        · exact .inr h
      · rename_i hh
        split at hg
        · rename_i h0
          cases hg
          obtain ⟨a, xs, rfl, ha, fa⟩ := Fz.sqT hx
          have hy' : Fz K O H (.int k) y := hy
          cases hy'
          refine .inr (.inr ⟨a, k, xs, rfl, rfl, ha, hk.1, h0, fun z => hh (.inl (fa.nil_iff z)), fun p hp => okt dom q hp .nil⟩)
        · exact .inl (snd_mul O H x y _ _ s Q dom hx hy hg q)
    · cases hg
  · exact .inl (snd_mul O H x y _ _ s Q dom hx hy hg q)
end Fx

end

/-! Fx27: repr of tuples that hold {} -/
noncomputable section
namespace Fx
open PySem PySem.Spec PyProof.Rows L2

mutual
/-- no list in it, and no dict but {} -/
def rdD : PyData → Bool
  | .none => true
  | .bool _ => true
  | .int _ => true
  | .str _ => true
  | .tuple ds => rdDs ds
  | .dict [] => true
  | .dict _ => false
  | .list _ => false
def rdDs : List PyData → Bool
  | [] => true
  | d :: ds => rdD d && rdDs ds
end
mutual
inductive Dq (K : PySem.W.Frag) (H : Hp) : PyData → V → Prop
  | non : Dq K H .none .non
  | bl (b : Bool) : Dq K H (.bool b) (.bl b)
  | int (i : Int) : Dq K H (.int i) (.int i)
  | str (x : Str) : Dq K H (.str x) (.str x)
  | tup {a : Addr} {xs : List V} {ds : List PyData} : SqT K H a xs → DqA K H ds xs → Dq K H (.tuple ds) (.ref a)
  | dct {a : Addr} {od : Obj} : H a = some (.frz od (.dK [])) → Dq K H (.dict []) (.ref a)
inductive DqA (K : PySem.W.Frag) (H : Hp) : List PyData → List V → Prop
  | nil : DqA K H [] []
  | cons {d : PyData} {ds : List PyData} {v : V} {vs : List V} : Dq K H d v → DqA K H ds vs → DqA K H (d :: ds) (v :: vs)
end
section
variable {K : PySem.W.Frag} {O : Own} {H : Hp}
mutual
theorem Fz.dq : ∀ (d : PyData) (v : V), Fz K O H d v → rdD d = true → Dq K H d v
  | .none, _, h, _ => by cases h; exact .non
  | .bool b, _, h, _ => by cases h; exact .bl b
  | .int i, _, h, _ => by cases h; exact .int i
  | .str x, _, h, _ => by cases h; exact .str x
  | .list _, _, _, e => by simp [rdD] at e
  | .tuple ds, _, h, e => by
    obtain ⟨a, xs, rfl, hs, ha⟩ := h.sqT
    exact .tup hs (FzA.dq ds _ ha (by simpa [rdD] using e))
  | .dict [], _, h, _ => by
    cases h with
    | dct hr n hd =>
      cases hd
      exact .dct hr
  | .dict (_ :: _), _, _, e => by simp [rdD] at e
theorem FzA.dq : ∀ (ds : List PyData) (vs : List V), FzA K O H ds vs → rdDs ds = true → DqA K H ds vs
  | [], _, h, _ => by cases h; exact .nil
  | d :: ds, _, h, e => by
    cases h with
    | cons h1 h2 =>
      have e' : rdD d = true ∧ rdDs ds = true := by simpa [rdDs] using e
      exact .cons (Fz.dq d _ h1 e'.1) (FzA.dq ds _ h2 e'.2)
end
end
section
variable {X : Cx} {pins : List (Addr × Obj)} {σ : L2.St} {H : Hp} {s : Shared}
theorem empty_dict (I : Inv X pins σ H s) {a : Addr} {od : Obj} (ha : H a = some (.frz od (.dK []))) : Reads s.heap (.ref a) (.dict []) [a] ∧ sysModules ≠ a := by
  obtain ⟨e1, _, hsys, xs, kv, o, es, ep, e2, hc, hd, _, hp, _⟩ := (show ObjOk X.prog X.w H s.heap a (.frz od (.dK [])) from I.hok a _ ha)
  cases kv
  have he' : es.toList = [] := by
    generalize es.toList = l at hp
    cases hp
    rfl
  have rd : Reads s.heap (.ref a) (.dict []) (a :: [] ++ []) := .dict e2 hc.1 hd (by rw [he']; exact .nil) (by rw [he']; exact .nil)
  exact ⟨rd, fun z => by rw [← z] at hsys; simp at hsys⟩
mutual
theorem Dq.reads (I : Inv X pins σ H s) : ∀ (d : PyData) (v : V) (u : Value), Dq X.K H d v → RelV v u → ∃ as, Reads s.heap u d as ∧ sysModules ∉ as
  | .none, _, _, h, r => by
    cases h
    cases r
    exact ⟨_, .none, by simp⟩
  | .bool b, _, _, h, r => by
    cases h
    cases r
    exact ⟨_, .bool b, by simp⟩
  | .int i, _, _, h, r => by
    cases h
    obtain ⟨t, rfl⟩ := r
    exact ⟨_, .int i t, by simp⟩
  | .str x, _, _, h, r => by
    cases h
    obtain ⟨t, rfl⟩ := r
    exact ⟨_, .str x t, by simp⟩
  | .tuple ds, _, _, h, r => by
    cases h with
    | tup hs ha =>
      cases r
      obtain ⟨its, rv, ⟨o, ho, hc, n, hd⟩, _⟩ := I.tuple hs
      obtain ⟨as, hr, hn⟩ := DqA.reads I ds _ its ha rv
      exact ⟨as, .tuple ho hc hd hr, hn⟩
  | .list _, _, _, h, _ => by cases h
  | .dict _, _, _, h, r => by
    cases h with
    | dct hr =>
      cases r
      obtain ⟨h1, h2⟩ := empty_dict I hr
      exact ⟨_, h1, by simpa using h2⟩
theorem DqA.reads (I : Inv X pins σ H s) : ∀ (ds : List PyData) (vs : List V) (us : List Value), DqA X.K H ds vs → Vals vs us → ∃ as, ReadsAll s.heap us ds as ∧ sysModules ∉ as
  | [], _, _, h, r => by
    cases h
    cases r
    exact ⟨_, .nil, by simp⟩
  | d :: ds, _, _, h, r => by
    cases h with
    | cons h1 h2 =>
      cases r with
      | cons r1 r2 =>
        obtain ⟨as, q1, n1⟩ := Dq.reads I d _ _ h1 r1
        obtain ⟨bs, q2, n2⟩ := DqA.reads I ds _ _ h2 r2
        exact ⟨_, .cons q1 q2, by simp [n1, n2]⟩
end
end
def gReprX (ds : List PyData) : Option Res := match gRepr ds with
  | some r => some r
  | none => match ds with
    | [.tuple es] => if rdDs es = true ∧ (PyData.tuple es).showable = true ∧ (PyData.tuple es).depth ≤ 60 ∧ (PyData.tuple es).shown.length ≤ sizeLine then some (.val (.str (PyData.tuple es).shown)) else none
    | _ => none
def rReprX (K : PySem.W.Frag) : List V → Hp → VK → Prop := fun xs H Q => rRepr K xs H Q ∨ ∃ x es, xs = [x] ∧ Dq K H (.tuple es) x ∧ (PyData.tuple es).showable = true ∧ (PyData.tuple es).depth ≤ 60 ∧ (PyData.tuple es).shown.length ≤ sizeLine ∧ Q (.str (PyData.tuple es).shown) H
theorem cr_reprX {X : Cx} (h : X.A.guards = some [] ∧ X.A.units + 66 < cLine) : CallR X (.builtin "repr") (rReprX X.K) := by
  intro pins s σ H xs us Q I r hh
  rcases hh with hh | ⟨x, es, rfl, dq, h1, h2, h3, q⟩
  · exact cr_repr h pins s σ H xs us Q I r hh
  · obtain ⟨u, rfl, ru⟩ := vals1 r
    obtain ⟨as, rd, nm⟩ := Dq.reads I _ _ _ dq ru
    cases dq with
    | tup hs ha =>
      cases ru
      refine repr_of_reads' rd h1 (fun _ => nm) h.1 (by have := h.2; omega) (fun _ _ e => e) (fun h' v tk hk => ?_) h3
      exact ⟨.str _, H, I.kept hk, ⟨_, rfl⟩, q⟩
theorem snd_reprX {K : PySem.W.Frag} : SndN K (rReprX K) gReprX := by
  intro O H xs ds s Q dom hx hg q
  unfold gReprX at hg
  split at hg
  · rename_i r hr
    cases hg
    exact .inl (snd_repr O H xs ds _ Q dom hx hr q)
  · split at hg
    · rename_i es _
      split at hg
      · rename_i hh
        cases hg
        obtain ⟨x, rfl, h⟩ := hx.one
        have h' : Fz K O H (.tuple es) x := h
        exact .inr ⟨x, es, rfl, Fz.dq _ _ h' (by simpa [rdD] using hh.1), hh.2.1, hh.2.2.1, hh.2.2.2, okv dom q (.str _)⟩
      · cases hg
    · cases hg
end Fx

end

/-! Fx28: items of a list as targets, written dicts that nobody changes -/
noncomputable section
namespace Fx
open PySem PySem.Spec PyProof.Rows L2

section
variable {X : Cx} {np : Nat} {pos : Pos} {fi : FE}
/-- a slot's list at a place -/
def gIxS (i : Nat) (fi : FE) : FG := fun d Γ => (lstS Γ i).bind fun _ => (fi Γ).bind fun p => (intT p.1).bind fun k => (lstS p.2 i).bind fun xs => (ixN xs.length k).map fun j => p.2.set i (some (.lst (xs.set j d)))
theorem fg_ix (i : Nat) {x : Str} {px ps : Pos} {ix : Expr} (hi' : FX X np ix fi) (hN : X.N[i]? = some x := by rfl) (hv : Vis X.env.scope x := by first | exact Or.inl rfl | exact Or.inr (Or.inl rfl) | exact Or.inr (Or.inr rfl)) (hd : (x == ("__debug__" : Str)) = false := by decide) (hcd : (x == ("__classdict__" : Str)) = false := by decide)
    (h0 : ∀ v, assign (.Subscript (.Name x px) ix ps) X.env v = (do
      let ov ← holding [v] (eval (.Name x px) X.env)
      let iv ← holding [v, ov] (eval ix X.env)
      standAt ps
      holding [v, ov, iv] (setItem ov iv v)
      release [v, ov, iv] []) := by intro _; rfl) : FGX X np [] (.Subscript (.Name x px) ix ps) (gIxS i fi) := by
  refine PG.weak (pg_sub (pe_var hN hv hd hcd) hi' set_list h0) fun v σ H Q h => ?_
  obtain ⟨W, Γ, vs, ts, d, Γ', c, e, q⟩ := h
  obtain ⟨xs0, g0, e⟩ := Option.bind_eq_some_iff.mp e
  obtain ⟨⟨t2, Γ2⟩, g3, e⟩ := Option.bind_eq_some_iff.mp e
  obtain ⟨k, g4, e⟩ := Option.bind_eq_some_iff.mp e
  obtain ⟨xs, g5, e⟩ := Option.bind_eq_some_iff.mp e
  obtain ⟨j, g6, e⟩ := Option.map_eq_some_iff.mp e
  cases e
  have h2' : t2 = .md (.dat (.int k)) := intT_to g4
  subst h2'
  obtain ⟨O1, c1⟩ := c
  obtain ⟨a, _, hv0, _, _, _⟩ := c1.lstAt (lstS_to g0)
  refine ⟨.ref a, hv0, W, Γ, v :: vs, _ :: ts, _, Γ2, ⟨O1, c1⟩, g3, fun z H2 c2 => ?_⟩
  obtain ⟨O2, c2⟩ := c2
  obtain ⟨a', ws, ev, oa, ha, fa⟩ := c2.lstAt (lstS_to g5)
  rw [hv0] at ev
  cases ev
  have rz : Fz X.K O2 H2 (.int k) z := c2.top
  cases rz
  refine ⟨a, ws, k, j, rfl, rfl, ha, by rw [← fa.length]; exact g6, ?_⟩
  exact q σ _ ⟨O2, (c2.pop.pop.relist (ws := ws) (lstS_to g5) hv0 oa (fa.set c2.pop.top j))⟩ (.refl _ _)
/-- {k: v} -/
def fDOne (fk fv : FE) : FE := fun Γ => (fk Γ).bind fun p => (frz p.1).bind fun kd => (kOf kd).bind fun k => (fv p.2).bind fun p2 => (frz p2.1).map fun d => (.md (.dcK [(k, d)]), p2.2)
theorem fx_dOne {k v : Expr} {fk fv : FE} (hk : FX X np k fk) (hv : FX X np v fv) : FX X np (.Dict [some k] [v] pos) (fDOne fk fv) := by
  refine PE.weak (pe_disp (pps_cons hk hv pps_nil) rfl rfl (by simp) (by simp)) fun σ H Q h => ?_
  obtain ⟨W, Γ, vs, ts, t, Γ', ⟨O, c⟩, e, q⟩ := h
  obtain ⟨⟨t1, Γ1⟩, e1, e⟩ := Option.bind_eq_some_iff.mp e
  obtain ⟨kd, e2, e⟩ := Option.bind_eq_some_iff.mp e
  obtain ⟨k, e3, e⟩ := Option.bind_eq_some_iff.mp e
  obtain ⟨⟨t2, Γ2⟩, e4, e⟩ := Option.bind_eq_some_iff.mp e
  obtain ⟨d, e5, e⟩ := Option.map_eq_some_iff.mp e
  cases e
  have h1 : t1 = .md (.dat kd) := frz_to e2
  have h2 : t2 = .md (.dat d) := frz_to e5
  subst h1 h2
  have h3 := kOf_to e3
  subst h3
  intro p hp
  have n := Ev.newOwn (o := .dK []) (t := .tmp ts.length) (by simp) c.dom hp
  have c0 := (c.ev0 n).push (v := .ref p) (t := .md (.dcK [])) ⟨p, [], rfl, put_same, upd_same, .nil⟩
  refine ⟨W, Γ, _, _, _, Γ1, ⟨_, c0⟩, e1, fun x H1 c1 => ?_⟩
  refine ⟨W, Γ1, _, _, _, Γ2, c1, e4, fun y H2 c2 => ?_⟩
  obtain ⟨O2, c2⟩ := c2
  obtain ⟨a, ws, ea, oa, ha, pd⟩ := c2.pop.pop.top
  cases ea
  cases pd
  have rx : Fz X.K O2 H2 (kD k) x := c2.pop.top
  have ry : Fz X.K O2 H2 d y := c2.top
  refine ⟨ha, [(k, y)], ?_, by simp, ?_⟩
  · show [(x, y)] = [(kV k, y)]
    rw [kD_fz rx]
  · have w := Ev.write (o := .dK [(k, y)]) c2.dom oa
    have c3 := c2.pop.pop.pop.ev w (by simp) (by simp) (fun k z => by injection z with z; omega)
    exact q _ _ ⟨_, c3.push (v := .ref p) (t := .md (.dcK [(k, d)])) ⟨p, _, rfl, oa, upd_same, .cons ⟨rfl, ry.kp w.k⟩ .nil⟩⟩
theorem lookup_relabelFC {env : Env} : ∀ {names : List (Str × NameKind)} {x : Str}, (names.lookup x = some .cell ∨ names.lookup x = some .free) →
    ((names.map fun (n, k) => if (k == NameKind.free && env.scope.kind == .function && env.kindOf n == some .cell) then (n, NameKind.cell) else (n, k)).lookup x = some .cell ∨ (names.map fun (n, k) => if (k == NameKind.free && env.scope.kind == .function && env.kindOf n == some .cell) then (n, NameKind.cell) else (n, k)).lookup x = some .free)
  | [], _, h => by simp at h
  | (n, k) :: r, x, h => by
    have ih := @lookup_relabelFC env r x
    show List.lookup x ((if (k == NameKind.free && env.scope.kind == .function && env.kindOf n == some .cell) = true then (n, NameKind.cell) else (n, k)) :: _) = _ ∨ List.lookup x ((if (k == NameKind.free && env.scope.kind == .function && env.kindOf n == some .cell) = true then (n, NameKind.cell) else (n, k)) :: _) = _
    cases hx : x == n with
    | true =>
      simp only [List.lookup_cons, hx] at h
      by_cases hc : (k == NameKind.free && env.scope.kind == .function && env.kindOf n == some .cell) = true
      · rw [if_pos hc]; simp [List.lookup_cons, hx]
      · rw [if_neg hc]; simp only [List.lookup_cons, hx]; exact h
    | false =>
      simp only [List.lookup_cons, hx] at h
      by_cases hc : (k == NameKind.free && env.scope.kind == .function && env.kindOf n == some .cell) = true
      · rw [if_pos hc]; simp only [List.lookup_cons, hx]; exact ih h
      · rw [if_neg hc]; simp only [List.lookup_cons, hx]; exact ih h
theorem blk_in {X : Cx} {s : Shared} {H : Hp} {scope0 scope : Scope} {cl : List (Str × Addr)} {C : Addr} {fp : List Addr} {e : Env} {own : List (Str × Nat)} {N : List Str} (hN : X.N = N) (h : blkC N scope0 scope own = true) :
    BlkOk (X.blk s H scope0 (compEnvC scope0 cl C e) fp).N (X.blk s H scope0 (compEnvC scope0 cl C e) fp).env.scope scope own := by
  have h2 := blkOk_by h
  rw [← hN] at h2
  exact ⟨h2.kind, h2.uniq, h2.ix, fun y hy k => lookup_relabelFC (h2.free y hy k), h2.own⟩
end
end Fx

end

/-! Fy1: reckoning with meanings: the helpers that the laws share -/
noncomputable section
namespace Fx
open PySem PySem.Spec PyProof.Rows L2

theorem eqv_int (a b : Int) : PyData.eqv (.int a) (.int b) = decide (a = b) := by
  first | rfl | (unfold PyData.eqv; rfl) | (unfold PyData.eqv; exact Bool.beq_eq_decide_eq ..)
theorem eqX_int (neg : Bool) (a b : Int) : gEqX neg (.int a) (.int b) = some (.val (.bool (if neg then !decide (a = b) else decide (a = b)))) := by
  cases neg <;> simp [gEqX, gEq, shp, eqv_int]
theorem eqX_str (neg : Bool) (a b : Str) : gEqX neg (.str a) (.str b) = some (.val (.bool (if neg then !decide (a = b) else decide (a = b)))) := rfl
theorem own_dat (d : PyData) : (MD.dat d).own = false := rfl
theorem own_lst (d : List PyData) : (MD.lst d).own = true := rfl
theorem own_bag (c : List Int) (b m : Int) : (MD.bag c b m).own = true := rfl
theorem own_dcK (d : List (Key × PyData)) : (MD.dcK d).own = true := rfl
theorem own_scr (d : List Int) : (MD.scr d).own = false := rfl
theorem flat_dat (d : PyData) : (MD.dat d).flat = some d := rfl
theorem flat_lst (d : List PyData) : (MD.lst d).flat = some (.list d) := rfl
theorem dv_dat (Γ : Gm) (d : PyData) : dv Γ (.md (.dat d)) = some d := rfl
theorem dv_lst (Γ : Gm) (d : List PyData) : dv Γ (.md (.lst d)) = some (.list d) := rfl
theorem dv_al (Γ : Gm) (i : Nat) : dv Γ (.al i) = match Γ[i]? with
    | some (some (.lst xs)) => some (.list xs)
    | _ => none := rfl
theorem frz_dat (d : PyData) : frz (.md (.dat d)) = some d := rfl
theorem intT_int (j : Int) : intT (.md (.dat (.int j))) = some j := rfl
theorem frzs_nil : frzs [] = some [] := rfl
theorem frzs_cons (d : PyData) (ts : List TV) : frzs (.md (.dat d) :: ts) = (frzs ts).map fun ds => d :: ds := rfl
theorem shp_int (i : Int) : shp (.int i) = true := rfl
theorem shp_none : shp .none = true := rfl
theorem shp_bool (b : Bool) : shp (.bool b) = true := rfl
/-- whole numbers of a kind that never is too long to multiply -/
theorem mulOk_of {i j : Int} (hi : i.natAbs < 2 ^ 1000) (hj : j.natAbs < 2 ^ 1000) : mulOk i j = true := by
  have lg : ∀ n : Nat, n < 2 ^ 1000 → n.log2 < 1000 := fun n h => by
    by_cases h0 : n = 0
    · subst h0; decide
    · exact (Nat.log2_lt h0).mpr h
  have h1 := lg _ hi
  have h2 := lg _ hj
  exact decide_eq_true (by omega)
theorem divOk_of {i j : Int} (hj : 0 < j) (hj2 : j.natAbs < 2 ^ 1000) : divOk i j = true := by
  refine decide_eq_true ⟨hj, ?_⟩
  have h0 : j.natAbs ≠ 0 := by omega
  have := (Nat.log2_lt h0).mpr hj2
  omega
theorem big64 : (2 : Nat) ^ 64 ≤ 2 ^ 1000 := Nat.pow_le_pow_right (by decide) (by decide)

theorem gMulX_int (i j : Int) : gMulX (.int i) (.int j) = if mulOk i j = true then some (.val (.int (i * j))) else none := rfl
theorem gMul_rep (d : PyData) {n : Nat} (h : n ≤ 1000000) : gMulX (.list [d]) (.int n) = some (.new (List.replicate n d)) := by
  have e : (List.replicate n [d]).flatten = List.replicate n d := by
    induction n with
    | zero => rfl
    | succ n ih => rw [List.replicate_succ, List.flatten_cons, ih (by omega)]; rfl
  show @ite _ _ (Classical.propDecidable _) (some (Res.new (List.replicate (Int.toNat n) [d]).flatten)) none = _
  rw [if_pos, Int.toNat_natCast, e]
  refine ⟨by omega, by omega, ?_⟩
  rw [Int.toNat_natCast, sizeLine_eq]
  simp
  omega
theorem gMulX_tup (xs : List PyData) {k : Nat} (h : xs.length ≤ 1000) (hk : k ≤ 1000) : gMulX (.tuple xs) (.int k) = some (.val (.tuple (List.replicate k xs).flatten)) := by
  show @ite _ (-(2 ^ 63) ≤ (k : Int) ∧ (k : Int) < 2 ^ 63) (Classical.propDecidable _) (if xs = [] ∨ (k : Int) = 1 then some (Res.val (.tuple xs)) else if (k : Int) ≤ 0 then some (Res.val (.tuple [])) else gMul (.tuple xs) (.int k)) none = _
  rw [if_pos ⟨by omega, by omega⟩]
  by_cases h0 : xs = []
  · subst h0
    have e : (List.replicate k ([] : List PyData)).flatten = [] := by
      induction k with
      | zero => rfl
      | succ k ih => rw [List.replicate_succ, List.flatten_cons, ih (by omega)]; rfl
    rw [if_pos (.inl rfl), e]
  · by_cases h1 : k = 1
    · subst h1
      rw [if_pos (.inr rfl)]
      simp
    · by_cases h2 : k = 0
      · subst h2
        rw [if_neg (by simp [h0]), if_pos (by omega)]
        rfl
      · rw [if_neg (by simp [h0]; omega), if_neg (by omega)]
        show @ite _ _ (Classical.propDecidable _) (some (Res.val (.tuple (List.replicate (Int.toNat k) xs).flatten))) none = _
        rw [if_pos ⟨h0, by omega, by omega, h⟩, Int.toNat_natCast]
def lsStep (tg : FG) (b : FS) (d : PyData) (Γ : Gm) : Option Out := (tg d Γ).bind b
/-- one turn of a comprehension -/
def lcStep (tg : FG) (tt : FT) (fe : FE) (own : List Nat) (d : PyData) (Γ : Gm) : Option (Option PyData × Gm) := (tg d Γ).bind fun Γ1 => (tt Γ1).bind fun p => if p.1 = true then (fe p.2).bind fun q => (frz q.1).bind fun y => if noOwn q.2 own = true then some (some y, fgt q.2 own) else none
  else if noOwn p.2 own = true then some (none, fgt p.2 own) else none

/-! ### loops -/
theorem loopS_cons {tg : FG} {b : FS} {d : PyData} {r : List PyData} {Γ : Gm} : loopS tg b (d :: r) Γ = (lsStep tg b d Γ).bind fun o => match o with
    | .nx Γ2 => loopS tg b r Γ2
    | .ct Γ2 => loopS tg b r Γ2
    | .bk Γ2 => some (.nx Γ2)
    | .rt m Γ2 => some (.rt m Γ2) := by
  show (tg d Γ).bind (fun Γ1 => (b Γ1).bind _) = ((tg d Γ).bind b).bind _
  cases tg d Γ <;> rfl
theorem loopS_ok {tg : FG} {b : FS} {P : Nat → Gm → Prop} : ∀ {items : List PyData} {Γ : Gm} (k : Nat), P k Γ → (∀ (i : Nat) (d : PyData) (Γ : Gm), items[i]? = some d → P (k + i) Γ → ∃ Γ2, (lsStep tg b d Γ = some (.nx Γ2) ∨ lsStep tg b d Γ = some (.ct Γ2)) ∧ P (k + i + 1) Γ2) →
    ∃ Γ', loopS tg b items Γ = some (.nx Γ') ∧ P (k + items.length) Γ'
  | [], Γ, k, h, _ => ⟨Γ, rfl, h⟩
  | d :: r, Γ, k, h, st => by
    obtain ⟨Γ2, e2, h2⟩ := st 0 d Γ rfl h
    obtain ⟨Γ', e3, h3⟩ := loopS_ok (tg := tg) (b := b) (P := P) (items := r) (Γ := Γ2) (k + 1) h2 fun i d Γ e p => by
      have := st (i + 1) d Γ (by simpa using e) (by rw [show k + (i + 1) = k + 1 + i by omega]; exact p)
      rwa [show k + (i + 1) + 1 = k + 1 + i + 1 by omega] at this
    refine ⟨Γ', ?_, by rw [List.length_cons, show k + (r.length + 1) = k + 1 + r.length by omega]; exact h3⟩
    rw [loopS_cons]
    rcases e2 with e2 | e2
    · rw [e2]; exact e3
    · rw [e2]; exact e3
theorem loopL_cons {tg : FG} {tt : FT} {fe : FE} {own : List Nat} {d : PyData} {r acc : List PyData} {Γ Γ' : Gm} {y : Option PyData} (h : lcStep tg tt fe own d Γ = some (y, Γ')) (hl : acc.length < sizeLine) : loopL tg tt fe own (d :: r) acc Γ = loopL tg tt fe own r (acc ++ y.toList) Γ' := by
  unfold lcStep at h
  obtain ⟨Γ1, e1, h⟩ := Option.bind_eq_some_iff.mp h
  obtain ⟨⟨b, Γ2⟩, e2, h⟩ := Option.bind_eq_some_iff.mp h
  dsimp only at h
  split at h
  · rename_i hb
    have hb' : b = true := hb
    subst hb'
    obtain ⟨⟨t, Γ3⟩, e3, h⟩ := Option.bind_eq_some_iff.mp h
    obtain ⟨y', e4, h⟩ := Option.bind_eq_some_iff.mp h
    dsimp only at h
    split at h
    · rename_i hn
      cases h
      simp only at e4
      simp [loopL, e1, e2, e3, e4, hl, hn]
    · cases h
  · rename_i hb
    have hb' : b = false := by simpa using hb
    subst hb'
    split at h
    · rename_i hn
      cases h
      have hn' : noOwn Γ2 own = true := hn
      simp [loopL, e1, e2, hn']
    · cases h
theorem loopL_fm {α : Type} {tg : FG} {tt : FT} {fe : FE} {own : List Nat} {Γ : Gm} {g : α → PyData} {f : α → Option PyData} : ∀ {l : List α} {acc : List PyData}, acc.length + l.length ≤ sizeLine → (∀ x ∈ l, lcStep tg tt fe own (g x) Γ = some (f x, Γ)) → loopL tg tt fe own (l.map g) acc Γ = some (acc ++ l.filterMap f, Γ)
  | [], acc, _, _ => by simp [loopL]
  | x :: l, acc, hl, h => by
    have h1 := h x List.mem_cons_self
    have e : (f x).toList.length ≤ 1 := by cases f x <;> simp
    have ih := loopL_fm (tg := tg) (tt := tt) (fe := fe) (own := own) (Γ := Γ) (g := g) (f := f) (l := l) (acc := acc ++ (f x).toList) (by simp at hl ⊢; omega) fun y hy => h y (List.mem_cons_of_mem _ hy)
    rw [List.map_cons, loopL_cons h1 (by simp at hl; omega), ih]
    cases e2 : f x <;> simp [e2, List.filterMap_cons]
/-- a comprehension whose element is a function of the item -/
theorem loopL_map {α : Type} {tg : FG} {tt : FT} {fe : FE} {own : List Nat} {Γ : Gm} {g f : α → PyData} {l : List α} {acc : List PyData} (hl : acc.length + l.length ≤ sizeLine) (h : ∀ x ∈ l, lcStep tg tt fe own (g x) Γ = some (some (f x), Γ)) : loopL tg tt fe own (l.map g) acc Γ = some (acc ++ l.map f, Γ) := by
  have := loopL_fm (f := fun x => some (f x)) hl h
  rw [this]
  have e : l.filterMap (fun x => some (f x)) = l.map f := by
    induction l with
    | nil => rfl
    | cons x l ih => simp
  rw [e]
/-- with a test -/
theorem loopL_filter {α : Type} {tg : FG} {tt : FT} {fe : FE} {own : List Nat} {Γ : Gm} {g f : α → PyData} {p : α → Bool} {l : List α} {acc : List PyData} (hl : acc.length + l.length ≤ sizeLine) (h : ∀ x ∈ l, lcStep tg tt fe own (g x) Γ = some (if p x = true then some (f x) else none, Γ)) : loopL tg tt fe own (l.map g) acc Γ = some (acc ++ (l.filter p).map f, Γ) := by
  have := loopL_fm (f := fun x => if p x = true then some (f x) else none) hl h
  rw [this]
  have e : l.filterMap (fun x => if p x = true then some (f x) else none) = (l.filter p).map f := by
    clear this h hl
    induction l with
    | nil => rfl
    | cons x l ih =>
      cases hp : p x with
      | true => simp [hp, ih]
      | false => simp [hp, ih]
  rw [e]
/-- with changes on the way -/
theorem loopL_ok {tg : FG} {tt : FT} {fe : FE} {own : List Nat} {P : Nat → List PyData → Gm → Prop} : ∀ {items : List PyData} {acc : List PyData} {Γ : Gm} (k : Nat), P k acc Γ → acc.length + items.length ≤ sizeLine →
    (∀ (i : Nat) (d : PyData) (acc : List PyData) (Γ : Gm), items[i]? = some d → P (k + i) acc Γ → ∃ y Γ', lcStep tg tt fe own d Γ = some (y, Γ') ∧ P (k + i + 1) (acc ++ y.toList) Γ') →
    ∃ acc' Γ', loopL tg tt fe own items acc Γ = some (acc', Γ') ∧ P (k + items.length) acc' Γ' ∧ acc'.length ≤ acc.length + items.length
  | [], acc, Γ, k, h, _, _ => ⟨acc, Γ, rfl, h, Nat.le_refl _⟩
  | d :: r, acc, Γ, k, h, hl, st => by
    obtain ⟨y, Γ1, e1, h1⟩ := st 0 d acc Γ rfl h
    have ey : y.toList.length ≤ 1 := by cases y <;> simp
    obtain ⟨acc', Γ', e5, h5, l5⟩ := loopL_ok (items := r) (acc := acc ++ y.toList) (Γ := Γ1) (k + 1) h1 (by simp at hl ⊢; omega) fun i d acc Γ e p => by
      have := st (i + 1) d acc Γ (by simpa using e) (by rw [show k + (i + 1) = k + 1 + i by omega]; exact p)
      rwa [show k + (i + 1) + 1 = k + 1 + i + 1 by omega] at this
    refine ⟨acc', Γ', ?_, by rw [List.length_cons, show k + (r.length + 1) = k + 1 + r.length by omega]; exact h5, by simp at l5 ⊢; omega⟩
    rw [loopL_cons e1 (by simp at hl; omega)]
    exact e5

/-! ### the draws -/
def BagOk (B : MD) : Prop := ∃ c b m, B = .bag c b m ∧ c.length ≤ 63 ∧ 0 ≤ m ∧ m < 2147483647
theorem BagOk.own {B : MD} (h : BagOk B) : B.own = true := by
  obtain ⟨c, b, m, rfl, _⟩ := h
  rfl
def DRAWS : Nat := 1000000
def drawC : FT := fAnd (fT (fOp2 (gEqX false) false (fBagIx 0 1) (fC (.int 0)))) (fT (fBagNe 0))
def drawB : FS := fFgt [2] (fSeq (fSet 2 2 (fBagPop 0)) (fBagPut 0 1 (fIfE (fT (fOp2 gGt false (fVar 2) (fOp2 gPow false (fC (.int 10)) (fC (.int 9))))) (fVar 2) (fC (.int 0)))))
theorem fWhile_step {c : FT} {b : FS} {n : Nat} {Γ Γ1 Γ2 : Gm} (h1 : c Γ = some (true, Γ1)) (h2 : b Γ1 = some (.nx Γ2)) : fWhile c b (n + 1) Γ = fWhile c b n Γ2 := by
  simp [fWhile, h1, h2]
theorem fWhile_stop {c : FT} {b : FS} {n : Nat} {Γ Γ1 : Gm} (h1 : c Γ = some (false, Γ1)) : fWhile c b (n + 1) Γ = some (.nx Γ1) := by
  simp [fWhile, h1]
theorem draw_while (m n : Int) : ∀ (fuel : Nat) (c : List Int) (b : Int), c.length < fuel → ∃ c' b', fWhile drawC drawB fuel [some (.bag c b m), some (.dat (.int n)), none, none] = some (.nx [some (.bag c' b' m), some (.dat (.int n)), none, none]) ∧ c'.length ≤ c.length := by
  intro fuel
  induction fuel with
  | zero => intro c b h; omega
  | succ fuel ih =>
    intro c b h
    by_cases hb : b = 0
    · subst hb
      by_cases hc : c = []
      · subst hc
        refine ⟨[], 0, ?_, Nat.le_refl _⟩
        simp [fnOf, fSeq, fNil, fSet, fRet, fDrop, fIf, fFgt, fgtO, fgt, fFor, fIfE, fT, fTru, truD, fAnd, fOr, fNot, fAndV, fOrV, fNotV, fOp2, fVar, fC, fB, fACons, fANil, fTup, fLst, fNeg, gRel, gInt2, gInt2C, gAdd, gMulX_int, gIx, gLen, gAbs, gInt, gEq, gIs, gIsNot, dv_dat, dv_lst, dv_al, dvs, own_dat, own_lst, own_bag, own_dcK, own_scr, flat_dat, flat_lst, Res.fin, frzs_nil, frzs_cons, frz_dat, intT_int, outs, als, argsOf, putArgs, fCall, eqv_int, shp_int, shp_none, shp_bool, noOwn, ownAt, sizeLine_eq, fIter, itemsOf, fRange1, fRange2, eqX_int, eqX_str, fEnumA, fFrz, fNever, permOk, perm, fCallK, fCallP, gMax2, gMin2, gMax3, gMin3, fPar2, fMulti, putM, fAsgG, fLc, fWhile, drawC, drawB, fBagIx, fBagNe, bagS]
      · obtain ⟨l, x, rfl⟩ : ∃ l x, c = l ++ [x] := ⟨c.dropLast, c.getLast hc, (List.dropLast_concat_getLast hc).symm⟩
        rw [List.length_append] at h
        obtain ⟨c', b', e, hl⟩ := ih l (if (10 : Int) ^ 9 < x then x else 0) (by simp at h; omega)
        refine ⟨c', b', ?_, by simp; omega⟩
        have h1 : drawC [some (.bag (l ++ [x]) 0 m), some (.dat (.int n)), none, none] = some (true, [some (.bag (l ++ [x]) 0 m), some (.dat (.int n)), none, none]) := by
          simp [fnOf, fSeq, fNil, fSet, fRet, fDrop, fIf, fFgt, fgtO, fgt, fFor, fIfE, fT, fTru, truD, fAnd, fOr, fNot, fAndV, fOrV, fNotV, fOp2, fVar, fC, fB, fACons, fANil, fTup, fLst, fNeg, gRel, gInt2, gInt2C, gAdd, gMulX_int, gIx, gLen, gAbs, gInt, gEq, gIs, gIsNot, dv_dat, dv_lst, dv_al, dvs, own_dat, own_lst, own_bag, own_dcK, own_scr, flat_dat, flat_lst, Res.fin, frzs_nil, frzs_cons, frz_dat, intT_int, outs, als, argsOf, putArgs, fCall, eqv_int, shp_int, shp_none, shp_bool, noOwn, ownAt, sizeLine_eq, fIter, itemsOf, fRange1, fRange2, eqX_int, eqX_str, fEnumA, fFrz, fNever, permOk, perm, fCallK, fCallP, gMax2, gMin2, gMax3, gMin3, fPar2, fMulti, putM, fAsgG, fLc, drawC, fBagIx, fBagNe, bagS]
        have h2 : drawB [some (.bag (l ++ [x]) 0 m), some (.dat (.int n)), none, none] = some (.nx [some (.bag l (if (10 : Int) ^ 9 < x then x else 0) m), some (.dat (.int n)), none, none]) := by
          by_cases hx : (10 : Int) ^ 9 < x
          · have hx' : (1000000000 : Int) < x := by omega
            simp [fnOf, fSeq, fNil, fSet, fRet, fDrop, fIf, fFgt, fgtO, fgt, fFor, fIfE, fT, fTru, truD, fAnd, fOr, fNot, fAndV, fOrV, fNotV, fOp2, fVar, fC, fB, fACons, fANil, fTup, fLst, fNeg, gRel, gInt2, gInt2C, gAdd, gMulX_int, gIx, gLen, gAbs, gInt, gEq, gIs, gIsNot, dv_dat, dv_lst, dv_al, dvs, own_dat, own_lst, own_bag, own_dcK, own_scr, flat_dat, flat_lst, Res.fin, frzs_nil, frzs_cons, frz_dat, intT_int, outs, als, argsOf, putArgs, fCall, eqv_int, shp_int, shp_none, shp_bool, noOwn, ownAt, sizeLine_eq, fIter, itemsOf, fRange1, fRange2, eqX_int, eqX_str, fEnumA, fFrz, fNever, permOk, perm, fCallK, fCallP, gMax2, gMin2, gMax3, gMin3, fPar2, fMulti, putM, fAsgG, fLc, drawB, fBagPop, fBagPut, bagS, powOk, hx, hx']
          · have hx' : ¬ (1000000000 : Int) < x := by omega
            simp [fnOf, fSeq, fNil, fSet, fRet, fDrop, fIf, fFgt, fgtO, fgt, fFor, fIfE, fT, fTru, truD, fAnd, fOr, fNot, fAndV, fOrV, fNotV, fOp2, fVar, fC, fB, fACons, fANil, fTup, fLst, fNeg, gRel, gInt2, gInt2C, gAdd, gMulX_int, gIx, gLen, gAbs, gInt, gEq, gIs, gIsNot, dv_dat, dv_lst, dv_al, dvs, own_dat, own_lst, own_bag, own_dcK, own_scr, flat_dat, flat_lst, Res.fin, frzs_nil, frzs_cons, frz_dat, intT_int, outs, als, argsOf, putArgs, fCall, eqv_int, shp_int, shp_none, shp_bool, noOwn, ownAt, sizeLine_eq, fIter, itemsOf, fRange1, fRange2, eqX_int, eqX_str, fEnumA, fFrz, fNever, permOk, perm, fCallK, fCallP, gMax2, gMin2, gMax3, gMin3, fPar2, fMulti, putM, fAsgG, fLc, drawB, fBagPop, fBagPut, bagS, powOk, hx, hx']
        rw [fWhile_step h1 h2, e]
    · refine ⟨c, b, ?_, Nat.le_refl _⟩
      simp [fnOf, fSeq, fNil, fSet, fRet, fDrop, fIf, fFgt, fgtO, fgt, fFor, fIfE, fT, fTru, truD, fAnd, fOr, fNot, fAndV, fOrV, fNotV, fOp2, fVar, fC, fB, fACons, fANil, fTup, fLst, fNeg, gRel, gInt2, gInt2C, gAdd, gMulX_int, gIx, gLen, gAbs, gInt, gEq, gIs, gIsNot, dv_dat, dv_lst, dv_al, dvs, own_dat, own_lst, own_bag, own_dcK, own_scr, flat_dat, flat_lst, Res.fin, frzs_nil, frzs_cons, frz_dat, intT_int, outs, als, argsOf, putArgs, fCall, eqv_int, shp_int, shp_none, shp_bool, noOwn, ownAt, sizeLine_eq, fIter, itemsOf, fRange1, fRange2, eqX_int, eqX_str, fEnumA, fFrz, fNever, permOk, perm, fCallK, fCallP, gMax2, gMin2, gMax3, gMin3, fPar2, fMulti, putM, fAsgG, fLc, fWhile, drawC, drawB, fBagIx, fBagNe, bagS, hb]
def drawF : FF := fnOf 2 4 (fSeq (fWhile drawC drawB DRAWS) (fSeq (fIf (fT (fOp2 gGt false (fBagIx 0 1) (fC (.int 0)))) (fSeq (fSet 2 3 (fOp2 gMod false (fB gInt false (fACons (fBagIx 0 1) fANil)) (fVar 1))) (fSeq (fBagPut 0 1 (fOp2 gDiv false (fBagIx 0 1) (fVar 1))) (fRet 2 true (fVar 3)))) fNil)
  (fSeq (fBagPut 0 2 (fOp2 gMod false (fB gInt false (fACons (fOp2 gAdd false (fOp2 gMulX false (fBagIx 0 2) (fC (.int 48271))) (fC (.int 11))) fANil)) (fC (.int 2147483647)))) (fRet 2 true (fOp2 gMod false (fB gInt false (fACons (fOp2 gDiv false (fOp2 gMod false (fB gInt false (fACons (fOp2 gMulX false (fBagIx 0 2) (fBagIx 0 2)) fANil)) (fC (.int 2147483629))) (fC (.int 7))) fANil)) (fVar 1))))))
theorem drawF_ok {B : MD} {n : Int} (h : BagOk B) (hn : 0 < n) (hn2 : n < 2 ^ 64) : ∃ v B', drawF [B, .dat (.int n)] = some (.dat (.int v), [some B', none]) ∧ BagOk B' ∧ 0 ≤ v ∧ v < n := by
  obtain ⟨c, b, m, rfl, hc, hm, hm2⟩ := h
  obtain ⟨c', b', e, hl⟩ := draw_while m n DRAWS c b (by unfold DRAWS; omega)
  have hd : ∀ i : Int, divOk i n = true := fun i => divOk_of hn (Nat.lt_of_lt_of_le (by omega) big64)
  by_cases hb : 0 < b'
  · refine ⟨b' % n, .bag c' (b' / n) m, ?_, ⟨_, _, _, rfl, by omega, hm, hm2⟩, Int.emod_nonneg _ (by omega), Int.emod_lt_of_pos _ hn⟩
    simp [fnOf, fSeq, fNil, fSet, fRet, fDrop, fIf, fFgt, fgtO, fgt, fFor, fIfE, fT, fTru, truD, fAnd, fOr, fNot, fAndV, fOrV, fNotV, fOp2, fVar, fC, fB, fACons, fANil, fTup, fLst, fNeg, gRel, gInt2, gInt2C, gAdd, gMulX_int, gIx, gLen, gAbs, gInt, gEq, gIs, gIsNot, dv_dat, dv_lst, dv_al, dvs, own_dat, own_lst, own_bag, own_dcK, own_scr, flat_dat, flat_lst, Res.fin, frzs_nil, frzs_cons, frz_dat, intT_int, outs, als, argsOf, putArgs, fCall, eqv_int, shp_int, shp_none, shp_bool, noOwn, ownAt, sizeLine_eq, fIter, itemsOf, fRange1, fRange2, eqX_int, eqX_str, fEnumA, fFrz, fNever, permOk, perm, fCallK, fCallP, gMax2, gMin2, gMax3, gMin3, fPar2, fMulti, putM, fAsgG, fLc, drawF, e, fBagIx, fBagPut, bagS, hb, hn, hd]
  · have h1 : mulOk m 48271 = true := mulOk_of (Nat.lt_of_lt_of_le (by omega) big64) (Nat.lt_of_lt_of_le (by decide) big64)
    have k1 : 0 ≤ (m * 48271 + 11) % 2147483647 := Int.emod_nonneg _ (by omega)
    have k2 : (m * 48271 + 11) % 2147483647 < 2147483647 := Int.emod_lt_of_pos _ (by omega)
    have h2 : mulOk ((m * 48271 + 11) % 2147483647) ((m * 48271 + 11) % 2147483647) = true := mulOk_of (Nat.lt_of_lt_of_le (by omega) big64) (Nat.lt_of_lt_of_le (by omega) big64)
    have h3 : ∀ i : Int, divOk i 7 = true := fun i => divOk_of (by decide) (Nat.lt_of_lt_of_le (by decide) big64)
    refine ⟨(((m * 48271 + 11) % 2147483647) * ((m * 48271 + 11) % 2147483647)) % 2147483629 / 7 % n, .bag c' b' ((m * 48271 + 11) % 2147483647), ?_, ⟨_, _, _, rfl, by omega, k1, k2⟩, Int.emod_nonneg _ (by omega), Int.emod_lt_of_pos _ hn⟩
    simp [fnOf, fSeq, fNil, fSet, fRet, fDrop, fIf, fFgt, fgtO, fgt, fFor, fIfE, fT, fTru, truD, fAnd, fOr, fNot, fAndV, fOrV, fNotV, fOp2, fVar, fC, fB, fACons, fANil, fTup, fLst, fNeg, gRel, gInt2, gInt2C, gAdd, gMulX_int, gIx, gLen, gAbs, gInt, gEq, gIs, gIsNot, dv_dat, dv_lst, dv_al, dvs, own_dat, own_lst, own_bag, own_dcK, own_scr, flat_dat, flat_lst, Res.fin, frzs_nil, frzs_cons, frz_dat, intT_int, outs, als, argsOf, putArgs, fCall, eqv_int, shp_int, shp_none, shp_bool, noOwn, ownAt, sizeLine_eq, fIter, itemsOf, fRange1, fRange2, eqX_int, eqX_str, fEnumA, fFrz, fNever, permOk, perm, fCallK, fCallP, gMax2, gMin2, gMax3, gMin3, fPar2, fMulti, putM, fAsgG, fLc, drawF, e, fBagIx, fBagPut, bagS, hb, hn, h1, h2, h3]
/-- a bag that is made smaller by 2 where 1 is drawn below -/
def draw2F : FF := fnOf 2 4 (fSeq (fWhile drawC drawB DRAWS) (fSeq (fIf (fT (fOp2 gGt false (fBagIx 0 1) (fC (.int 0)))) (fSeq (fSet 2 3 (fOp2 gMod false (fB gInt false (fACons (fBagIx 0 1) fANil)) (fVar 1))) (fSeq (fBagPut 0 1 (fIfE (fT (fOp2 gGt false (fVar 1) (fC (.int 1)))) (fOp2 gDiv false (fBagIx 0 1) (fVar 1)) (fOp2 gDiv false (fBagIx 0 1) (fC (.int 2))))) (fRet 2 true (fVar 3)))) fNil)
  (fSeq (fBagPut 0 2 (fOp2 gMod false (fB gInt false (fACons (fOp2 gAdd false (fOp2 gMulX false (fBagIx 0 2) (fC (.int 48271))) (fC (.int 11))) fANil)) (fC (.int 2147483647)))) (fRet 2 true (fOp2 gMod false (fB gInt false (fACons (fOp2 gDiv false (fOp2 gMod false (fB gInt false (fACons (fOp2 gMulX false (fBagIx 0 2) (fBagIx 0 2)) fANil)) (fC (.int 2147483629))) (fC (.int 7))) fANil)) (fVar 1))))))
theorem draw2F_ok {B : MD} {n : Int} (h : BagOk B) (hn : 0 < n) (hn2 : n < 2 ^ 64) : ∃ v B', draw2F [B, .dat (.int n)] = some (.dat (.int v), [some B', none]) ∧ BagOk B' ∧ 0 ≤ v ∧ v < n := by
  obtain ⟨c, b, m, rfl, hc, hm, hm2⟩ := h
  obtain ⟨c', b', e, hl⟩ := draw_while m n DRAWS c b (by unfold DRAWS; omega)
  have hd : ∀ i : Int, divOk i n = true := fun i => divOk_of hn (Nat.lt_of_lt_of_le (by omega) big64)
  by_cases hb : 0 < b'
  · refine ⟨b' % n, .bag c' (if 1 < n then b' / n else b' / 2) m, ?_, ⟨_, _, _, rfl, by omega, hm, hm2⟩, Int.emod_nonneg _ (by omega), Int.emod_lt_of_pos _ hn⟩
    have h22 : ∀ i : Int, divOk i 2 = true := fun i => divOk_of (by decide) (Nat.lt_of_lt_of_le (by decide) big64)
    by_cases h1n : 1 < n
    · simp [fnOf, fSeq, fNil, fSet, fRet, fDrop, fIf, fFgt, fgtO, fgt, fFor, fIfE, fT, fTru, truD, fAnd, fOr, fNot, fAndV, fOrV, fNotV, fOp2, fVar, fC, fB, fACons, fANil, fTup, fLst, fNeg, gRel, gInt2, gInt2C, gAdd, gMulX_int, gIx, gLen, gAbs, gInt, gEq, gIs, gIsNot, dv_dat, dv_lst, dv_al, dvs, own_dat, own_lst, own_bag, own_dcK, own_scr, flat_dat, flat_lst, Res.fin, frzs_nil, frzs_cons, frz_dat, intT_int, outs, als, argsOf, putArgs, fCall, eqv_int, shp_int, shp_none, shp_bool, noOwn, ownAt, sizeLine_eq, fIter, itemsOf, fRange1, fRange2, eqX_int, eqX_str, fEnumA, fFrz, fNever, permOk, perm, fCallK, fCallP, gMax2, gMin2, gMax3, gMin3, fPar2, fMulti, putM, fAsgG, fLc, draw2F, e, fBagIx, fBagPut, bagS, hb, hn, hd, h1n]
    · simp [fnOf, fSeq, fNil, fSet, fRet, fDrop, fIf, fFgt, fgtO, fgt, fFor, fIfE, fT, fTru, truD, fAnd, fOr, fNot, fAndV, fOrV, fNotV, fOp2, fVar, fC, fB, fACons, fANil, fTup, fLst, fNeg, gRel, gInt2, gInt2C, gAdd, gMulX_int, gIx, gLen, gAbs, gInt, gEq, gIs, gIsNot, dv_dat, dv_lst, dv_al, dvs, own_dat, own_lst, own_bag, own_dcK, own_scr, flat_dat, flat_lst, Res.fin, frzs_nil, frzs_cons, frz_dat, intT_int, outs, als, argsOf, putArgs, fCall, eqv_int, shp_int, shp_none, shp_bool, noOwn, ownAt, sizeLine_eq, fIter, itemsOf, fRange1, fRange2, eqX_int, eqX_str, fEnumA, fFrz, fNever, permOk, perm, fCallK, fCallP, gMax2, gMin2, gMax3, gMin3, fPar2, fMulti, putM, fAsgG, fLc, draw2F, e, fBagIx, fBagPut, bagS, hb, hn, hd, h1n, h22]
  · have h1 : mulOk m 48271 = true := mulOk_of (Nat.lt_of_lt_of_le (by omega) big64) (Nat.lt_of_lt_of_le (by decide) big64)
    have k1 : 0 ≤ (m * 48271 + 11) % 2147483647 := Int.emod_nonneg _ (by omega)
    have k2 : (m * 48271 + 11) % 2147483647 < 2147483647 := Int.emod_lt_of_pos _ (by omega)
    have h2 : mulOk ((m * 48271 + 11) % 2147483647) ((m * 48271 + 11) % 2147483647) = true := mulOk_of (Nat.lt_of_lt_of_le (by omega) big64) (Nat.lt_of_lt_of_le (by omega) big64)
    have h3 : ∀ i : Int, divOk i 7 = true := fun i => divOk_of (by decide) (Nat.lt_of_lt_of_le (by decide) big64)
    refine ⟨(((m * 48271 + 11) % 2147483647) * ((m * 48271 + 11) % 2147483647)) % 2147483629 / 7 % n, .bag c' b' ((m * 48271 + 11) % 2147483647), ?_, ⟨_, _, _, rfl, by omega, k1, k2⟩, Int.emod_nonneg _ (by omega), Int.emod_lt_of_pos _ hn⟩
    simp [fnOf, fSeq, fNil, fSet, fRet, fDrop, fIf, fFgt, fgtO, fgt, fFor, fIfE, fT, fTru, truD, fAnd, fOr, fNot, fAndV, fOrV, fNotV, fOp2, fVar, fC, fB, fACons, fANil, fTup, fLst, fNeg, gRel, gInt2, gInt2C, gAdd, gMulX_int, gIx, gLen, gAbs, gInt, gEq, gIs, gIsNot, dv_dat, dv_lst, dv_al, dvs, own_dat, own_lst, own_bag, own_dcK, own_scr, flat_dat, flat_lst, Res.fin, frzs_nil, frzs_cons, frz_dat, intT_int, outs, als, argsOf, putArgs, fCall, eqv_int, shp_int, shp_none, shp_bool, noOwn, ownAt, sizeLine_eq, fIter, itemsOf, fRange1, fRange2, eqX_int, eqX_str, fEnumA, fFrz, fNever, permOk, perm, fCallK, fCallP, gMax2, gMin2, gMax3, gMin3, fPar2, fMulti, putM, fAsgG, fLc, draw2F, e, fBagIx, fBagPut, bagS, hb, hn, h1, h2, h3]
end Fx

end

/-! Fy2: picks, the bag that is made of the script, gcd -/
noncomputable section
namespace Fx
open PySem PySem.Spec PyProof.Rows L2

/-- a def that draws -/
def DrawOk (D : FF) : Prop := ∀ (B : MD) (n : Int), BagOk B → 0 < n → n < 2 ^ 64 → ∃ v B', D [B, .dat (.int n)] = some (.dat (.int v), [some B', none]) ∧ BagOk B' ∧ 0 ≤ v ∧ v < n
theorem drawOk : DrawOk drawF := fun B n h h1 h2 => drawF_ok h h1 h2
def pickF (D : FF) : FF := fnOf 2 2 (fRet 2 true (fOp2 gIx false (fVar 1) (fCall D (fACons (fVar 0) (fACons (fB gLen false (fACons (fVar 1) fANil)) fANil)))))
theorem pickF_ok {D : FF} (hD : DrawOk D) {B : MD} {ds : List PyData} (h : BagOk B) (h0 : ds ≠ []) (hl : ds.length < 2 ^ 64) : ∃ d B', pickF D [B, .dat (.list ds)] = some (.dat d, [some B', none]) ∧ BagOk B' ∧ d ∈ ds := by
  have hp : 0 < ds.length := List.length_pos_iff.mpr h0
  obtain ⟨v, B', e, h', v0, v1⟩ := hD B ds.length h (by omega) (by omega)
  obtain ⟨j, rfl⟩ : ∃ j : Nat, v = (j : Int) := ⟨v.toNat, by omega⟩
  have hj : j < ds.length := by omega
  have ej : ds[j]? = some ds[j] := List.getElem?_eq_getElem hj
  refine ⟨ds[j], B', ?_, h', List.getElem_mem hj⟩
  simp [fnOf, fSeq, fNil, fSet, fRet, fDrop, fIf, fFgt, fgtO, fgt, fFor, fIfE, fT, fTru, truD, fAnd, fOr, fNot, fAndV, fOrV, fNotV, fOp2, fVar, fC, fB, fACons, fANil, fTup, fLst, fNeg, gRel, gInt2, gInt2C, gAdd, gMulX_int, gIx, gLen, gAbs, gInt, gEq, gIs, gIsNot, dv_dat, dv_lst, dv_al, dvs, own_dat, own_lst, own_bag, own_dcK, own_scr, flat_dat, flat_lst, Res.fin, frzs_nil, frzs_cons, frz_dat, intT_int, outs, als, argsOf, putArgs, fCall, eqv_int, shp_int, shp_none, shp_bool, noOwn, ownAt, sizeLine_eq, fIter, itemsOf, fRange1, fRange2, eqX_int, eqX_str, fEnumA, fFrz, fNever, permOk, perm, fCallK, fCallP, gMax2, gMin2, gMax3, gMin3, fPar2, fMulti, putM, fAsgG, fLc, pickF, h.own, h'.own, e, atI_nat ej]
theorem pickF_okT {D : FF} (hD : DrawOk D) {B : MD} {ds : List PyData} (h : BagOk B) (h0 : ds ≠ []) (hl : ds.length < 2 ^ 64) : ∃ d B', pickF D [B, .dat (.tuple ds)] = some (.dat d, [some B', none]) ∧ BagOk B' ∧ d ∈ ds := by
  have hp : 0 < ds.length := List.length_pos_iff.mpr h0
  obtain ⟨v, B', e, h', v0, v1⟩ := hD B ds.length h (by omega) (by omega)
  obtain ⟨j, rfl⟩ : ∃ j : Nat, v = (j : Int) := ⟨v.toNat, by omega⟩
  have hj : j < ds.length := by omega
  have ej : ds[j]? = some ds[j] := List.getElem?_eq_getElem hj
  refine ⟨ds[j], B', ?_, h', List.getElem_mem hj⟩
  simp [fnOf, fSeq, fNil, fSet, fRet, fDrop, fIf, fFgt, fgtO, fgt, fFor, fIfE, fT, fTru, truD, fAnd, fOr, fNot, fAndV, fOrV, fNotV, fOp2, fVar, fC, fB, fACons, fANil, fTup, fLst, fNeg, gRel, gInt2, gInt2C, gAdd, gMulX_int, gIx, gLen, gAbs, gInt, gEq, gIs, gIsNot, dv_dat, dv_lst, dv_al, dvs, own_dat, own_lst, own_bag, own_dcK, own_scr, flat_dat, flat_lst, Res.fin, frzs_nil, frzs_cons, frz_dat, intT_int, outs, als, argsOf, putArgs, fCall, eqv_int, shp_int, shp_none, shp_bool, noOwn, ownAt, sizeLine_eq, fIter, itemsOf, fRange1, fRange2, eqX_int, eqX_str, fEnumA, fFrz, fNever, permOk, perm, fCallK, fCallP, gMax2, gMin2, gMax3, gMin3, fPar2, fMulti, putM, fAsgG, fLc, pickF, h.own, h'.own, e, atI_nat ej]

/-! ### kinds of values -/
theorem kit_eq (T : String) (h : kitB T T = some true := by decide) : kitB T T = some true := h
theorem kit1 : kitB "tuple" "tuple" = some true := by decide
theorem kit2 : kitB "int" "tuple" = some false := by decide
theorem kit3 : kitB "str" "tuple" = some false := by decide
theorem kit4 : kitB "NoneType" "tuple" = some false := by decide
theorem kit5 : kitB "int" "str" = some false := by decide
theorem kit6 : kitB "str" "str" = some true := by decide
theorem kit7 : kitB "int" "int" = some true := by decide
theorem kit8 : kitB "int" "bool" = some false := by decide
theorem cut63 {α : Type} (l : List α) (h : l.length ≤ 63) : cutL l none (some 63) = l := by
  refine cutL_whole ⟨rfl, ?_⟩
  rw [show (some (63 : Int)) = some ((63 : Nat) : Int) from rfl, HT.sIx_nat]
  omega
theorem zipD_self (ds : List PyData) : zipD ds ds = ds.map fun d => .tuple [d, d] := by
  unfold zipD
  induction ds with
  | nil => rfl
  | cons d r ih => rw [List.zip_cons_cons, List.map_cons, List.map_cons, ih]
theorem gAll_true (ds : List PyData) : gAll [.list (ds.map fun _ => PyData.bool true)] = some (.val (.bool true)) := by
  have e : (ds.map fun _ => PyData.bool true) = (ds.map fun _ => true).map PyData.bool := by rw [List.map_map]; rfl
  show (boolsOf (ds.map fun _ => PyData.bool true)).map (fun bs => Res.val (.bool (bs.all id))) = _
  rw [e, boolsOf_map]
  simp
theorem rangeD0 (n : Nat) : rangeD 0 n = (List.range n).map fun (x : Nat) => PyData.int x := by
  unfold rangeD
  simp
theorem rg1_nat {p : Nat} (h : p < 2 ^ 62) : rg1 p = some ((List.range p).map fun (x : Nat) => PyData.int x) := by
  unfold rg1
  rw [if_pos (show rgOk p = true from decide_eq_true (by omega)), Int.toNat_natCast, rangeD0]
theorem rgA_nat {p : Nat} (h : p ≤ 2 ^ 24) : rgA p = some ((List.range p).map fun (x : Nat) => PyData.int x) := by
  unfold rgA
  rw [if_pos (show rg2Ok 0 p = true from decide_eq_true (by omega)), Int.toNat_natCast, rangeD0]
theorem cut_from {α : Type} (l : List α) (b : Nat) (h : b ≤ l.length) : cutL l (some (b : Int)) none = l.drop b := by
  unfold cutL
  rw [HT.sIx_nat, HT.sIx_none, Nat.min_eq_left h, List.take_of_length_le (by simp)]
theorem cut_to {α : Type} (l : List α) (b : Nat) (h : b ≤ l.length) : cutL l none (some (b : Int)) = l.take b := by
  unfold cutL
  rw [HT.sIx_nat, HT.sIx_none, Nat.min_eq_left h, Nat.sub_zero, List.drop_zero]
theorem gSum_ints (l : List Int) : gSum [.list (l.map .int)] = some (.val (.int l.sum)) := by
  show (intsOf (l.map .int)).map _ = _
  rw [intsOf_map]
  rfl
/-- plain data: whole numbers, texts, None, tuples of such -/
inductive Plain : Nat → PyData → Prop
  | int (n : Nat) (i : Int) : Plain (n + 1) (.int i)
  | str (n : Nat) (x : Str) : x.length ≤ sizeLine → shp (.str x) = true → PyData.eqv (.str x) (.str x) = true → Plain (n + 1) (.str x)
  | non (n : Nat) : Plain (n + 1) .none
  | tup (n : Nat) (ds : List PyData) : ds.length ≤ sizeLine → (∀ d ∈ ds, Plain n d) → Plain (n + 1) (.tuple ds)
end Fx

end

/-! Fy3: tallies: in a dict, in a list -/
noncomputable section
namespace Fx
open PySem PySem.Spec PyProof.Rows L2

theorem isum_perm {l m : List Int} (h : l.Perm m) : l.sum = m.sum := by
  induction h with
  | nil => rfl
  | cons x _ ih => simp [ih]
  | swap x y l => simp; omega
  | trans _ _ h1 h2 => exact h1.trans h2
theorem sum_one {L : List Int} (nd : L.Nodup) {x : Int} (hx : x ∈ L) (f : Int → Int) : (L.map fun n => (if x = n then 1 else 0) * f n).sum = f x := by
  induction L with
  | nil => cases hx
  | cons y L ih =>
    have nd' := List.nodup_cons.mp nd
    rw [List.map_cons, List.sum_cons]
    by_cases e : x = y
    · subst e
      have z : (L.map fun n => (if x = n then 1 else 0) * f n).sum = 0 := by
        have : ∀ M : List Int, x ∉ M → (M.map fun n => (if x = n then 1 else 0) * f n).sum = 0 := by
          intro M
          induction M with
          | nil => intro _; rfl
          | cons z M ihM =>
            intro h
            have h' : x ≠ z ∧ x ∉ M := by simpa using h
            rw [List.map_cons, List.sum_cons, if_neg h'.1, ihM h'.2]
            simp
        exact this L nd'.1
      rw [if_pos rfl, z]
      simp
    · rw [if_neg e, ih nd'.2 ((List.mem_cons.mp hx).resolve_left e)]
      simp
/-- summed by what is met, each with its number of times -/
theorem tally_sum {L l : List Int} (nd : L.Nodup) (sub : ∀ x ∈ l, x ∈ L) (f : Int → Int) : (L.map fun n => (l.count n : Int) * f n).sum = (l.map f).sum := by
  induction l with
  | nil =>
    have : ∀ M : List Int, (M.map fun n => ((([] : List Int).count n : Nat) : Int) * f n).sum = 0 := by
      intro M
      induction M with
      | nil => rfl
      | cons z M ih => rw [List.map_cons, List.sum_cons, ih]; simp
    exact this L
  | cons x l ih =>
    have ih' := ih fun y hy => sub y (List.mem_cons_of_mem _ hy)
    rw [List.map_cons, List.sum_cons, ← ih', ← sum_one nd (sub x List.mem_cons_self) f]
    have : ∀ M : List Int, (M.map fun n => (((x :: l).count n : Nat) : Int) * f n).sum = (M.map fun n => (if x = n then 1 else 0) * f n).sum + (M.map fun n => (l.count n : Int) * f n).sum := by
      intro M
      induction M with
      | nil => rfl
      | cons z M ihM =>
        rw [List.map_cons, List.sum_cons, ihM, List.map_cons, List.sum_cons, List.map_cons, List.sum_cons, List.count_cons]
        by_cases e : x = z
        · subst e
          simp [Int.add_mul]
          omega
        · have e' : (x == z) = false := by simpa using e
          simp [e, e']
          omega
    exact this L
/-! ### in a dict -/
def dtal (l : List Int) : List (Key × PyData) := (dd l).map fun n => (Sum.inl n, PyData.int (l.count n))
theorem dtal_val (l : List Int) (n : Int) : (valD (dtal l) (.inl n)).getD (.int 0) = .int (l.count n) := by
  have go : ∀ M : List Int, (valD (M.map fun m => ((Sum.inl m : Key), PyData.int (l.count m))) (.inl n)) = if n ∈ M then some (.int (l.count n)) else none := by
    intro M
    induction M with
    | nil => rfl
    | cons z M ih =>
      unfold valD at ih ⊢
      rw [List.map_cons, List.find?_cons]
      by_cases e : z = n
      · subst e
        simp
      · have e' : decide ((Sum.inl z : Key) = Sum.inl n) = false := decide_eq_false fun h => e (Sum.inl.inj h)
        rw [e', ih]
        have : n ∈ z :: M ↔ n ∈ M := by simp [Ne.symm e]
        simp [this]
  unfold dtal
  rw [go]
  split
  · rfl
  · rename_i h
    have : n ∉ l := fun hn => h (((dd_nodup_mem l).2 n).mpr hn)
    rw [List.count_eq_zero.mpr this]
    rfl
theorem dtal_put (l : List Int) (n : Int) : putD (dtal l) (.inl n) (.int (l.count n + 1)) = dtal (l ++ [n]) := by
  have hc : ∀ m : Int, (l ++ [n]).count m = l.count m + if n = m then 1 else 0 := fun m => by
    rw [List.count_append, List.count_cons, List.count_nil]
    by_cases e : n = m
    · subst e; simp
    · simp [e]
  have any : ((dtal l).any fun p => decide (p.1 = (.inl n : Key))) = decide (n ∈ dd l) := by
    unfold dtal
    induction dd l with
    | nil => rfl
    | cons z M ih =>
      rw [List.map_cons, List.any_cons, ih]
      by_cases e : z = n
      · subst e; simp
      · have e' : decide ((Sum.inl z : Key) = Sum.inl n) = false := decide_eq_false fun h => e (Sum.inl.inj h)
        show (decide ((Sum.inl z : Key) = Sum.inl n) || _) = _
        rw [e']
        simp [Ne.symm e]
  unfold putD
  rw [any]
  by_cases h : n ∈ dd l
  · rw [if_pos (decide_eq_true h)]
    unfold dtal
    rw [dd_snoc, if_pos h, List.map_map]
    refine List.map_congr_left fun m _ => ?_
    show (if (Sum.inl m : Key) = Sum.inl n then ((Sum.inl m : Key), PyData.int (l.count n + 1)) else (Sum.inl m, PyData.int (l.count m))) = _
    by_cases e : m = n
    · subst e
      rw [if_pos rfl, hc, if_pos rfl]
      rfl
    · rw [if_neg (fun z => e (Sum.inl.inj z)), hc, if_neg (Ne.symm e)]
      rfl
  · rw [if_neg (by simpa using h)]
    unfold dtal
    rw [dd_snoc, if_neg h, List.map_append]
    have h0 : l.count n = 0 := List.count_eq_zero.mpr fun z => h (((dd_nodup_mem l).2 n).mpr z)
    congr 1
    · refine List.map_congr_left fun m hm => ?_
      rw [hc, if_neg (fun (z : n = m) => h (z ▸ hm))]
      rfl
    · show [((Sum.inl n : Key), PyData.int (l.count n + 1))] = [(Sum.inl n, PyData.int ((l ++ [n]).count n : Nat))]
      rw [hc, if_pos rfl]
      rfl
theorem dtal_keys (l : List Int) : intK (dtal l) = some (dd l) := by
  unfold dtal
  induction dd l with
  | nil => rfl
  | cons z M ih =>
    show (intK (M.map fun n => ((Sum.inl n : Key), PyData.int (l.count n)))).map (fun r => z :: r) = some (z :: M)
    rw [ih]
    rfl
/-! ### in a list -/
def tally (k : Nat) (l : List Int) : List PyData := (List.range (k + 1)).map fun (j : Nat) => PyData.int (l.count (j : Int))
theorem tally_nil (k : Nat) : tally k [] = List.replicate (k + 1) (.int 0) := by
  unfold tally
  apply List.ext_getElem
  · simp
  · intro i h1 h2
    simp
theorem tally_set {k n : Nat} (l : List Int) (h : n ≤ k) : (tally k l).set n (.int (l.count (n : Int) + 1)) = tally k (l ++ [(n : Int)]) := by
  unfold tally
  apply List.ext_getElem
  · simp
  · intro i h1 h2
    simp only [List.getElem_set, List.getElem_map, List.getElem_range]
    rw [List.count_append, List.count_cons, List.count_nil]
    by_cases e : n = i
    · subst e; simp
    · have : ¬ (n : Int) = i := by omega
      simp [e, this]
theorem tally_get {k n : Nat} (l : List Int) (h : n ≤ k) : (tally k l)[n]? = some (.int (l.count (n : Int))) := by
  unfold tally
  rw [List.getElem?_map, List.getElem?_range (by omega)]
  rfl
end Fx

end

/-! Fy4: loops as folds and searches, texts that repr tells -/
noncomputable section
namespace Fx
open PySem PySem.Spec PyProof.Rows L2

/-! ### loops -/
/-- a loop that hands a state on -/
theorem loopS_foldI {σ α : Type} {tg : FG} {b : FS} {g : α → PyData} {st : σ → Gm} {f : σ → α → σ} (I : σ → Prop) : ∀ (l : List α) (s : σ), I s → (∀ x ∈ l, ∀ s, I s → lsStep tg b (g x) (st s) = some (.nx (st (f s x))) ∧ I (f s x)) → loopS tg b (l.map g) (st s) = some (.nx (st (l.foldl f s))) ∧ I (l.foldl f s)
  | [], s, hs, _ => ⟨rfl, hs⟩
  | x :: l, s, hs, h => by
    obtain ⟨h1, h2⟩ := h x List.mem_cons_self s hs
    have ih := loopS_foldI (tg := tg) (b := b) (g := g) (st := st) (f := f) I l (f s x) h2 fun y hy => h y (List.mem_cons_of_mem _ hy)
    rw [List.map_cons, loopS_cons, h1]
    exact ih
theorem loopS_fold {σ α : Type} {tg : FG} {b : FS} {g : α → PyData} {st : σ → Gm} {f : σ → α → σ} (l : List α) (s : σ) (h : ∀ x ∈ l, ∀ s, lsStep tg b (g x) (st s) = some (.nx (st (f s x)))) : loopS tg b (l.map g) (st s) = some (.nx (st (l.foldl f s))) :=
  (loopS_foldI (fun _ => True) l s True.intro fun x hx s _ => ⟨h x hx s, True.intro⟩).1
/-- a loop that searches -/
theorem loopS_find {α : Type} {tg : FG} {b : FS} {g : α → PyData} {Γ : Gm} {p : α → Option (MD × Gm)} : ∀ (l : List α), (∀ x ∈ l, lsStep tg b (g x) Γ = some (match p x with | none => .nx Γ | some (m, Γ') => .rt m Γ')) → loopS tg b (l.map g) Γ = some (match l.findSome? p with | none => .nx Γ | some (m, Γ') => .rt m Γ')
  | [], _ => rfl
  | x :: l, h => by
    have h1 := h x List.mem_cons_self
    have ih := loopS_find (tg := tg) (b := b) (g := g) (Γ := Γ) (p := p) l fun y hy => h y (List.mem_cons_of_mem _ hy)
    rw [List.map_cons, loopS_cons, h1, List.findSome?_cons]
    cases hp : p x with
    | none => exact ih
    | some q => rfl
/-- all turns are gone through -/
theorem loopS_all {α : Type} {tg : FG} {b : FS} {g : α → PyData} {Γ : Gm} (l : List α) (h : ∀ x ∈ l, lsStep tg b (g x) Γ = some (.nx Γ)) : loopS tg b (l.map g) Γ = some (.nx Γ) := by
  have := loopS_find (tg := tg) (b := b) (g := g) (Γ := Γ) (p := fun _ => none) l h
  rw [this]
  have e : l.findSome? (fun _ => (none : Option (MD × Gm))) = none := by simp
  rw [e]
theorem enumD_map {α : Type} (g : α → PyData) (l : List α) : enumD (l.map g) = l.zipIdx.map fun p => .tuple [.int (p.2 : Nat), g p.1] := by
  unfold enumD
  rw [List.zipIdx_map, List.map_map]
  rfl
theorem zipD_map {α β : Type} (f : α → PyData) (g : β → PyData) (l : List α) (m : List β) : zipD (l.map f) (m.map g) = (l.zip m).map fun p => .tuple [f p.1, g p.2] := by
  unfold zipD
  rw [List.zip_map, List.map_map]
  rfl
theorem gSumA_list (l : List Int) : gSumA [.list (l.map .int)] = some (.val (.int l.sum)) := by
  show (intsOf (l.map .int)).map _ = _
  rw [intsOf_map]
  rfl
theorem gSumA_tuple (l : List Int) : gSumA [.tuple (l.map .int)] = some (.val (.int l.sum)) := by
  show (intsOf (l.map .int)).map _ = _
  rw [intsOf_map]
  rfl
theorem gAll_trueA {α : Type} (l : List α) : gAll [.list (l.map fun _ => PyData.bool true)] = some (.val (.bool true)) := by
  have e : (l.map fun _ => PyData.bool true) = (l.map fun _ => true).map PyData.bool := by rw [List.map_map]; rfl
  show (boolsOf (l.map fun _ => PyData.bool true)).map (fun bs => Res.val (.bool (bs.all id))) = _
  rw [e, boolsOf_map]
  simp
/-! ### what repr tells -/
/-- data of depth n whose text is no longer than 1930 c signs -/
def Rp (n c : Nat) (d : PyData) : Prop := d.showable = true ∧ d.canLay0 = true ∧ d.depth ≤ n ∧ d.shown.length + 4 ≤ 1930 * c
theorem Rp.mono {n m c e : Nat} {d : PyData} (h : Rp n c d) (h1 : n ≤ m) (h2 : c ≤ e) : Rp m e d := ⟨h.1, h.2.1, by have := h.2.2.1; omega, by have := h.2.2.2; have := Nat.mul_le_mul_left 1930 h2; omega⟩
theorem Rp.int {i : Int} (h : i.natAbs.log2 < 1920) : Rp 0 1 (.int i) := ⟨by simpa [PyData.showable] using h, rfl, Nat.le_refl _, by
  have := int_text_len_1921 h
  have e : (PyData.int i).shown = PySem.Str.ofString (toString i) := rfl
  rw [e]
  omega⟩
theorem Rp.small {i : Int} (h : i.natAbs < 2 ^ 1000) : Rp 0 1 (.int i) := .int (by
  by_cases h0 : i.natAbs = 0
  · rw [h0]; decide
  · have := (Nat.log2_lt h0).mpr h
    omega)
theorem Rp.non : Rp 0 1 .none := ⟨rfl, rfl, Nat.le_refl _, by decide +kernel⟩
theorem Rp.bool (b : Bool) : Rp 0 1 (.bool b) := ⟨rfl, rfl, Nat.le_refl _, by cases b <;> decide +kernel⟩
theorem Rp.str {x : Str} (h : (PyData.str x).canLay0 = true) (hl : x.length ≤ 100) : Rp 0 1 (.str x) := ⟨rfl, h, Nat.le_refl _, by
  have e : (PyData.str x).shown = reprText x := PyData.shown_str x
  have h' : PyData.strOk x = true := by simpa only [PyData.canLay0] using h
  have := StrLaws.reprText_len x fun c hc => by
    unfold PyData.strOk at h'
    have := Array.all_eq_true_iff_forall_mem.mp h' c (by simpa using hc)
    have : c < 0x110000 := by simpa using this
    omega
  rw [e]
  omega⟩
theorem shownAll_map : ∀ ds : List PyData, PyData.shownAll ds = ds.map PyData.shown
  | [] => rfl
  | d :: ds => by rw [PyData.shownAll, shownAll_map ds, List.map_cons]
theorem Rp.all {n c : Nat} : ∀ {ds : List PyData}, (∀ d ∈ ds, Rp n c d) → PyData.showableAll ds = true ∧ PyData.canLayAll0 ds = true ∧ PyData.depthAll ds ≤ n ∧ piled (PyData.shownAll ds) ≤ 1930 * (ds.length * c)
  | [], _ => ⟨rfl, rfl, Nat.zero_le _, Nat.zero_le _⟩
  | d :: ds, h => by
    obtain ⟨h1, h2, h3, h4⟩ := h d List.mem_cons_self
    obtain ⟨k1, k2, k3, k4⟩ := Rp.all fun e he => h e (List.mem_cons_of_mem _ he)
    refine ⟨by simp [PyData.showableAll, h1, k1], by simp [PyData.canLayAll0, h2, k2], by simp only [PyData.depthAll]; omega, ?_⟩
    rw [PyData.shownAll, piled_cons, List.length_cons, Nat.add_mul]
    omega
theorem textFrom_le (ts : List Str) : (listText ts).length ≤ piled ts + 2 := by
  cases ts with
  | nil => decide +kernel
  | cons t r =>
    have h := textFrom_length_pos r 1 (("[" : Str) ++ (if (0 : Nat) > 0 then ", " else "" : String) ++ t) (Nat.succ_pos 0)
    have e : (("[" : Str) ++ (if (0 : Nat) > 0 then ", " else "" : String) ++ t).length = 1 + t.length := by
      rw [strLen_append, strLen_append]
      rfl
    show (textFrom 1 _ r ++ ("]" : Str)).length ≤ _
    rw [strLen_append, h, e, piled_cons]
    have : ("]" : Str).length = 1 := rfl
    omega
theorem tupleText_le (ts : List Str) : (tupleText ts).length ≤ piled ts + 3 := by
  cases ts with
  | nil => decide +kernel
  | cons t r =>
    have h := join_length_add (t :: r) (by simp)
    show ((("(" : Str) ++ Str.join ", " (t :: r)) ++ (if (t :: r).length == 1 then ",)" else ")" : String)).length ≤ _
    rw [strLen_append, strLen_append]
    have e1 : ("(" : Str).length = 1 := rfl
    have e2 : ((if (t :: r).length == 1 then ",)" else ")" : String) : Str).length ≤ 2 := by
      split <;> decide +kernel
    omega
theorem Rp.list {n c k : Nat} {ds : List PyData} (h : ∀ d ∈ ds, Rp n c d) (hk : ds.length ≤ k) : Rp (n + 1) (1 + k * c) (.list ds) := by
  obtain ⟨k1, k2, k3, k4⟩ := Rp.all h
  refine ⟨by simpa [PyData.showable] using k1, by simpa only [PyData.canLay0] using k2, by simp only [PyData.depth]; omega, ?_⟩
  have := textFrom_le (PyData.shownAll ds)
  have hm := Nat.mul_le_mul_right c hk
  have hm2 := Nat.mul_le_mul_left 1930 hm
  rw [PyData.shown]
  omega
theorem Rp.tuple {n c k : Nat} {ds : List PyData} (h : ∀ d ∈ ds, Rp n c d) (hk : ds.length ≤ k) : Rp (n + 1) (1 + k * c) (.tuple ds) := by
  obtain ⟨k1, k2, k3, k4⟩ := Rp.all h
  refine ⟨by simpa [PyData.showable] using k1, by simpa only [PyData.canLay0] using k2, by simp only [PyData.depth]; omega, ?_⟩
  have := tupleText_le (PyData.shownAll ds)
  have hm := Nat.mul_le_mul_right c hk
  have hm2 := Nat.mul_le_mul_left 1930 hm
  rw [PyData.shown]
  omega
theorem Rp.shaped {n c : Nat} {d : PyData} (h : Rp n c d) (hn : n ≤ 64) : SeqAt.shaped d = true := by
  unfold SeqAt.shaped
  have := h.2.2.1
  rw [h.2.1, Bool.true_and]
  exact decide_eq_true (by omega)
theorem gRepr_ok {n c : Nat} {d : PyData} (h : Rp n c d) (hn : n ≤ 64) (hc : c ≤ 8000) : gRepr [d] = some (.val (.str d.shown)) := by
  have sh := h.shaped hn
  have hz : d.shown.length ≤ sizeLine := by
    have := h.2.2.2
    rw [PySem.sizeLine_eq]
    omega
  have h1 := h.1
  cases d with
  | none => rfl
  | bool b => rfl
  | int i =>
    have : i.natAbs.log2 < 1920 := by simpa [PyData.showable] using h1
    simp [gRepr, this]
  | str x =>
    have e : (PyData.str x).shown = reprText x := PyData.shown_str x
    rw [e] at hz
    simp [gRepr, hz]
  | list ds => simp [gRepr, h1, sh, hz]
  | tuple ds => simp [gRepr, h1, sh, hz]
  | dict _ => have := h.2.1; simp [PyData.canLay0] at this
end Fx

end

/-! Fy5: slices, comparisons of data with itself -/
noncomputable section
namespace Fx
open PySem PySem.Spec PyProof.Rows L2

theorem cut_mid {α : Type} (l : List α) (b e : Nat) (h : b ≤ e) (h2 : e ≤ l.length) : cutL l (some (b : Int)) (some (e : Int)) = (l.drop b).take (e - b) := by
  unfold cutL
  rw [HT.sIx_nat, HT.sIx_nat, Nat.min_eq_left h2, Nat.min_eq_left (Nat.le_trans h h2)]
theorem ixN_nat {n j : Nat} (h : j < n) : ixN n (j : Int) = some j := by
  unfold ixN
  rw [if_pos (by omega), if_pos (by omega), Int.toNat_natCast]
theorem shp_ints (l : List Int) : shp (.tuple (l.map .int)) = true := by
  show SeqAt.shaped (.tuple (l.map .int)) = true
  unfold SeqAt.shaped
  simp [PyData.canLay0, canLay_ints, PyData.depth, depth_ints]
theorem shp_intsL (l : List Int) : shp (.list (l.map .int)) = true := by
  show SeqAt.shaped (.list (l.map .int)) = true
  unfold SeqAt.shaped
  simp [PyData.canLay0, canLay_ints, PyData.depth, depth_ints]
theorem eqvAll_ints : ∀ a b : List Int, PyData.eqvAll (a.map .int) (b.map .int) = decide (a = b)
  | [], [] => by simp [PyData.eqvAll]
  | [], _ :: _ => by simp [PyData.eqvAll]
  | _ :: _, [] => by simp [PyData.eqvAll]
  | x :: a, y :: b => by
    rw [List.map_cons, List.map_cons, PyData.eqvAll, eqvAll_ints a b, eqv_int]
    by_cases h1 : x = y <;> by_cases h2 : a = b <;> simp [h1, h2]
theorem eqv_ints (a b : List Int) : PyData.eqv (.tuple (a.map .int)) (.tuple (b.map .int)) = decide (a = b) := by rw [PyData.eqv, eqvAll_ints]
theorem eqv_intsL (a b : List Int) : PyData.eqv (.list (a.map .int)) (.list (b.map .int)) = decide (a = b) := by rw [PyData.eqv, eqvAll_ints]
theorem eqX_ints (neg : Bool) (a b : List Int) : gEqX neg (.tuple (a.map .int)) (.tuple (b.map .int)) = some (.val (.bool (if neg then !decide (a = b) else decide (a = b)))) := by
  have e : PyData.eqv (.tuple (a.map .int)) (.tuple (b.map .int)) = decide (a = b) := by rw [PyData.eqv, eqvAll_ints]
  simp [gEqX, gEq, shp_ints, e]
theorem eqX_intsL (neg : Bool) (a b : List Int) : gEqX neg (.list (a.map .int)) (.list (b.map .int)) = some (.val (.bool (if neg then !decide (a = b) else decide (a = b)))) := by
  have e : PyData.eqv (.list (a.map .int)) (.list (b.map .int)) = decide (a = b) := by rw [PyData.eqv, eqvAll_ints]
  simp [gEqX, gEq, shp_intsL, e]
theorem eqX_self {n c : Nat} {d : PyData} (neg : Bool) (h : Rp n c d) (hn : n ≤ 64) : gEqX neg d d = some (.val (.bool (!neg))) := by
  have sh := h.shaped hn
  have e := SeqAt.eqv_refl d h.2.1
  have s2 : shp d = true := by
    unfold shp
    split <;> first | rfl | exact sh
  cases d <;> cases neg <;> simp [gEqX, gEq, s2, e]
theorem gReprX_ok {n c : Nat} {d : PyData} (h : Rp n c d) (hn : n ≤ 64) (hc : c ≤ 8000) : gReprX [d] = some (.val (.str d.shown)) := by
  unfold gReprX
  rw [gRepr_ok h hn hc]
theorem gReprX_dict0 : gReprX [.dict []] = some (.val (.str (PyData.dict []).shown)) := rfl
/-- data without lists, {} among it -/
def Rq (n c : Nat) (d : PyData) : Prop := d.showable = true ∧ rdD d = true ∧ d.depth ≤ n ∧ d.shown.length + 4 ≤ 1930 * c
theorem Rq.flat {d : PyData} (h : Rp 0 1 d) : Rq 0 1 d := ⟨h.1, by
  have h2 := h.2.2.1
  cases d with
  | list _ => simp [PyData.depth] at h2
  | tuple _ => simp [PyData.depth] at h2
  | dict _ => simp [PyData.depth] at h2
  | _ => rfl, h.2.2.1, h.2.2.2⟩
theorem Rq.mono {n m c e : Nat} {d : PyData} (h : Rq n c d) (h1 : n ≤ m) (h2 : c ≤ e) : Rq m e d := ⟨h.1, h.2.1, by have := h.2.2.1; omega, by have := h.2.2.2; have := Nat.mul_le_mul_left 1930 h2; omega⟩
theorem Rq.dict : Rq 1 1 (.dict []) := ⟨rfl, rfl, by decide, by decide +kernel⟩
theorem Rq.all {n c : Nat} : ∀ {ds : List PyData}, (∀ d ∈ ds, Rq n c d) → PyData.showableAll ds = true ∧ rdDs ds = true ∧ PyData.depthAll ds ≤ n ∧ piled (PyData.shownAll ds) ≤ 1930 * (ds.length * c)
  | [], _ => ⟨rfl, rfl, Nat.zero_le _, Nat.zero_le _⟩
  | d :: ds, h => by
    obtain ⟨h1, h2, h3, h4⟩ := h d List.mem_cons_self
    obtain ⟨k1, k2, k3, k4⟩ := Rq.all fun e he => h e (List.mem_cons_of_mem _ he)
    refine ⟨by simp [PyData.showableAll, h1, k1], by simp [rdDs, h2, k2], by simp only [PyData.depthAll]; omega, ?_⟩
    rw [PyData.shownAll, piled_cons, List.length_cons, Nat.add_mul]
    omega
theorem Rq.tuple {n c k : Nat} {ds : List PyData} (h : ∀ d ∈ ds, Rq n c d) (hk : ds.length ≤ k) : Rq (n + 1) (1 + k * c) (.tuple ds) := by
  obtain ⟨k1, k2, k3, k4⟩ := Rq.all h
  refine ⟨by simpa [PyData.showable] using k1, by simpa only [rdD] using k2, by simp only [PyData.depth]; omega, ?_⟩
  have := tupleText_le (PyData.shownAll ds)
  have hm := Nat.mul_le_mul_right c hk
  have hm2 := Nat.mul_le_mul_left 1930 hm
  rw [PyData.shown]
  omega
/-- repr tells of it, one way or the other -/
theorem gReprX_tuple {n c : Nat} {ds : List PyData} (h : Rq n c (.tuple ds)) (hn : n ≤ 60) (hc : c ≤ 8000) : ∃ s, gReprX [.tuple ds] = some (.val (.str s)) := by
  have hz : (PyData.tuple ds).shown.length ≤ sizeLine := by
    have := h.2.2.2
    rw [PySem.sizeLine_eq]
    omega
  have h2 : rdDs ds = true := by simpa only [rdD] using h.2.1
  have h3 : (PyData.tuple ds).depth ≤ 60 := Nat.le_trans h.2.2.1 hn
  unfold gReprX
  cases q : gRepr [.tuple ds] with
  | some r =>
    simp only [gRepr] at q
    split at q
    · cases q
      exact ⟨_, rfl⟩
    · cases q
  | none =>
    refine ⟨(PyData.tuple ds).shown, ?_⟩
    simp [h2, h.1, h3, hz]
end Fx

end

/-! M48: tables of signs (plain) -/
namespace M48

/-! ### sums over lists -/
def S {α : Type} (l : List α) (f : α → Int) : Int := (l.map f).sum
section
variable {α β : Type}
@[simp] theorem S_nil (f : α → Int) : S [] f = 0 := rfl
@[simp] theorem S_cons (a : α) (l : List α) (f : α → Int) : S (a :: l) f = f a + S l f := by simp [S]
theorem S_congr {l : List α} {f g : α → Int} (h : ∀ x ∈ l, f x = g x) : S l f = S l g := by
  unfold S; rw [List.map_congr_left h]
theorem S_add (l : List α) (f g : α → Int) : S l (fun x => f x + g x) = S l f + S l g := by
  induction l with
  | nil => rfl
  | cons a l ih => simp only [S_cons, ih]; omega
theorem S_mul (l : List α) (c : Int) (f : α → Int) : S l (fun x => c * f x) = c * S l f := by
  induction l with
  | nil => simp
  | cons a l ih => simp only [S_cons, ih, Int.mul_add]
theorem S_mulr (l : List α) (c : Int) (f : α → Int) : S l (fun x => f x * c) = S l f * c := by
  rw [Int.mul_comm, ← S_mul]; exact S_congr fun x _ => Int.mul_comm _ _
theorem S_zero (l : List α) : S l (fun _ => 0) = 0 := by
  induction l with
  | nil => rfl
  | cons a l ih => simp [ih]
theorem S_const (l : List α) (c : Int) : S l (fun _ => c) = l.length * c := by
  induction l with
  | nil => simp
  | cons a l ih => simp only [S_cons, ih, List.length_cons]; grind
theorem S_swap (l : List α) (m : List β) (f : α → β → Int) : S l (fun x => S m (f x)) = S m (fun y => S l fun x => f x y) := by
  induction l with
  | nil => simp [S_zero]
  | cons a l ih => simp only [S_cons, ih, S_add]
theorem S_map (g : β → α) (l : List β) (f : α → Int) : S (l.map g) f = S l (fun x => f (g x)) := by simp [S, Function.comp_def]
theorem S_sq (l : List α) (f : α → Int) : S l f * S l f = S l fun a => S l fun b => f a * f b := by
  have : (fun a => S l fun b => f a * f b) = fun a => f a * S l f := funext fun a => S_mul l (f a) f
  rw [this, S_mulr]
theorem S_one {l : List Nat} (h : l.Nodup) {a : Nat} (ha : a ∈ l) (c : Int) : S l (fun b => if a = b then c else 0) = c := by
  induction l with
  | nil => cases ha
  | cons x l ih =>
    rw [List.nodup_cons] at h
    rw [S_cons]
    by_cases e : a = x
    · subst e
      have : S l (fun b => if a = b then c else 0) = 0 := by
        rw [S_congr (g := fun _ => 0) fun b hb => if_neg (by rintro rfl; exact h.1 hb), S_zero]
      simp [this]
    · rw [if_neg e, ih h.2 (by simpa [e] using ha)]; omega
theorem S_nonneg {l : List α} {f : α → Int} (h : ∀ x ∈ l, 0 ≤ f x) : 0 ≤ S l f := by
  induction l with
  | nil => simp
  | cons a l ih =>
    have h1 := h a List.mem_cons_self
    have h2 := ih fun x hx => h x (List.mem_cons_of_mem _ hx)
    rw [S_cons]; omega
theorem S_mono {l : List α} {f g : α → Int} (h : ∀ x ∈ l, f x ≤ g x) : S l f ≤ S l g := by
  induction l with
  | nil => simp
  | cons a l ih =>
    have h1 := h a List.mem_cons_self
    have h2 := ih fun x hx => h x (List.mem_cons_of_mem _ hx)
    rw [S_cons, S_cons]; omega
theorem S_sub {l m : List α} (s : l.Sublist m) {f : α → Int} (h : ∀ x ∈ m, 0 ≤ f x) : S l f ≤ S m f := by
  induction s with
  | slnil => simp
  | cons a s ih =>
    have h1 := h a List.mem_cons_self
    have h2 := ih fun x hx => h x (List.mem_cons_of_mem _ hx)
    rw [S_cons]; omega
  | cons_cons a s ih =>
    have h2 := ih fun x hx => h x (List.mem_cons_of_mem _ hx)
    rw [S_cons, S_cons]; omega
theorem S_perm {l m : List α} (p : l.Perm m) (f : α → Int) : S l f = S m f := by
  induction p with
  | nil => rfl
  | cons a _ ih => rw [S_cons, S_cons, ih]
  | swap a b l => simp only [S_cons]; omega
  | trans _ _ i j => exact i.trans j
theorem cauchy (l : List α) (f : α → Int) : S l f * S l f ≤ l.length * S l (fun x => f x * f x) := by
  induction l with
  | nil => simp
  | cons a l ih =>
    simp only [S_cons, List.length_cons]
    have hq : 0 ≤ S l (fun x => f x * f x) := S_nonneg fun x _ => by
      rcases Int.le_total 0 (f x) with h | h
      · exact Int.mul_nonneg h h
      · exact Int.mul_nonneg_of_nonpos_of_nonpos h h
    generalize S l f = s at *
    generalize S l (fun x => f x * f x) = q at *
    generalize f a = x
    generalize hm : (l.length : Int) = m at *
    have hm0 : 0 ≤ m := by omega
    push_cast
    -- 2 s x <= q + m x^2
    have key : 2 * (s * x) ≤ q + m * (x * x) := by
      rcases Int.lt_or_eq_of_le hm0 with h | h
      · have hsq : 0 ≤ (s - m * x) * (s - m * x) := by
          rcases Int.le_total 0 (s - m * x) with h | h
          · exact Int.mul_nonneg h h
          · exact Int.mul_nonneg_of_nonpos_of_nonpos h h
        have h2 : m * (2 * (s * x)) ≤ m * (q + m * (x * x)) := by grind
        exact Int.le_of_mul_le_mul_left h2 h
      · have e : m = 0 := h.symm
        subst e
        have : s * s ≤ 0 := by simpa using ih
        have s0 : s = 0 := by
          rcases Int.lt_trichotomy s 0 with h | h | h
          · have := Int.mul_pos_of_neg_of_neg h h; omega
          · exact h
          · have := Int.mul_pos h h; omega
        subst s0
        simp; exact hq
    rw [hm]
    have e1 : (x + s) * (x + s) = x * x + 2 * (s * x) + s * s := by grind
    have e2 : (m + 1) * (x * x + q) = m * (x * x) + m * q + x * x + q := by grind
    omega
end

/-! ### tables -/
abbrev Tab := List (List Int)
def Sg (l : List Int) : Prop := ∀ x ∈ l, x = 1 ∨ x = -1
def dot (r s : List Int) : Int := (List.zipWith (· * ·) r s).sum
def neg (l : List Int) : List Int := l.map fun x => -x
def cdot (T : Tab) (a b : Nat) : Int := S T fun r => r.getD a 0 * r.getD b 0
structure Tb (n : Nat) (T : Tab) : Prop where
  len : T.length = n
  row : ∀ r ∈ T, r.length = n ∧ Sg r
structure Had (n : Nat) (T : Tab) : Prop extends Tb n T where
  rows : T.Pairwise fun r s => dot r s = 0
  cols : ∀ a b, a < n → b < n → a ≠ b → cdot T a b = 0
def tr (n : Nat) (T : Tab) : Tab := (List.range n).map fun k => T.map fun r => r.getD k 0

theorem Sg.get {l : List Int} (h : Sg l) {k : Nat} (hk : k < l.length) : l.getD k 0 = 1 ∨ l.getD k 0 = -1 := by
  rw [List.getD_eq_getElem?_getD, List.getElem?_eq_getElem hk]; exact h _ (List.getElem_mem hk)
theorem Sg.neg {l : List Int} (h : Sg l) : Sg (neg l) := fun x hx => by
  obtain ⟨y, hy, rfl⟩ := List.mem_map.mp hx
  rcases h y hy with rfl | rfl <;> simp
theorem neg_length (l : List Int) : (neg l).length = l.length := List.length_map _
theorem neg_getD (l : List Int) (k : Nat) : (neg l).getD k 0 = -(l.getD k 0) := by
  simp only [neg, List.getD_eq_getElem?_getD, List.getElem?_map]
  cases l[k]? <;> simp
theorem dot_nil (s : List Int) : dot [] s = 0 := rfl
theorem dot_cons (a : Int) (r : List Int) (b : Int) (s : List Int) : dot (a :: r) (b :: s) = a * b + dot r s := by simp [dot]
theorem dot_comm : ∀ r s : List Int, dot r s = dot s r
  | [], s => by cases s <;> rfl
  | a :: r, [] => rfl
  | a :: r, b :: s => by rw [dot_cons, dot_cons, dot_comm r s, Int.mul_comm]
theorem dot_neg : ∀ r s : List Int, dot (neg r) s = -(dot r s)
  | [], s => by cases s <;> rfl
  | a :: r, [] => rfl
  | a :: r, b :: s => by
    show dot ((-a) :: neg r) (b :: s) = _
    rw [dot_cons, dot_cons, dot_neg r s, Int.neg_mul]; omega
theorem dot_neg' (r s : List Int) : dot r (neg s) = -(dot r s) := by rw [dot_comm, dot_neg, dot_comm]
theorem dot_self : ∀ {r : List Int}, Sg r → dot r r = r.length
  | [], _ => rfl
  | a :: r, h => by
    rw [dot_cons, dot_self fun x hx => h x (List.mem_cons_of_mem _ hx)]
    rcases h a List.mem_cons_self with rfl | rfl <;> simp <;> omega
theorem dot_range {n : Nat} {r s : List Int} (h1 : r.length = n) (h2 : s.length = n) : dot r s = S (List.range n) fun k => r.getD k 0 * s.getD k 0 := by
  unfold dot S
  congr 1
  apply List.ext_getElem
  · simp [h1, h2]
  · intro k hk1 hk2
    simp at hk1 hk2
    simp [List.getD_eq_getElem?_getD, List.getElem?_eq_getElem (show k < r.length by omega), List.getElem?_eq_getElem (show k < s.length by omega)]

/-! ### what keeps them -/
def sgn (q : List Int × Bool) : List Int := if q.2 = true then neg q.1 else q.1
theorem sgn_length (q : List Int × Bool) : (sgn q).length = q.1.length := by unfold sgn; split <;> simp [neg_length]
theorem sgn_Sg {q : List Int × Bool} (h : Sg q.1) : Sg (sgn q) := by
  unfold sgn
  split
  · exact h.neg
  · exact h
theorem sgn_dot {q p : List Int × Bool} (h : dot q.1 p.1 = 0) : dot (sgn q) (sgn p) = 0 := by
  unfold sgn
  split <;> split <;> simp [dot_neg, dot_neg', h]
theorem sgn_mul (q : List Int × Bool) (a b : Nat) : (sgn q).getD a 0 * (sgn q).getD b 0 = q.1.getD a 0 * q.1.getD b 0 := by
  unfold sgn
  split
  · rw [neg_getD, neg_getD, Int.neg_mul_neg]
  · rfl
/-- rows in another order, some with other signs -/
def Led (T T' : Tab) : Prop := ∃ Q : List (List Int × Bool), (Q.map (·.1)).Perm T ∧ T' = Q.map sgn
theorem Had.led {n : Nat} {T T' : Tab} (h : Had n T) (l : Led T T') : Had n T' := by
  obtain ⟨Q, p, rfl⟩ := l
  have hmem : ∀ q ∈ Q, q.1 ∈ T := fun q hq => p.mem_iff.mp (List.mem_map.mpr ⟨q, hq, rfl⟩)
  refine ⟨⟨by rw [List.length_map, ← h.len, ← p.length_eq, List.length_map], fun r hr => ?_⟩, ?_, fun a b ha hb hab => ?_⟩
  · obtain ⟨q, hq, rfl⟩ := List.mem_map.mp hr
    have := h.row _ (hmem q hq)
    exact ⟨by rw [sgn_length]; exact this.1, sgn_Sg this.2⟩
  · have hp : (Q.map (·.1)).Pairwise fun r s => dot r s = 0 := (p.pairwise_iff fun {x y} e => by rw [dot_comm]; exact e).mpr h.rows
    rw [List.pairwise_map] at hp ⊢
    exact hp.imp fun e => sgn_dot e
  · have e := h.cols a b ha hb hab
    unfold cdot at e ⊢
    rw [← S_perm p, S_map] at e
    rw [S_map]
    exact (S_congr fun q _ => sgn_mul q a b).trans e
theorem tr_get {n : Nat} {T : Tab} {k : Nat} (h : k < n) : (tr n T).getD k [] = T.map fun r => r.getD k 0 := by
  simp [tr, List.getD_eq_getElem?_getD, h]
theorem map_getD {T : Tab} (f : List Int → Int) {a : Nat} (h : a < T.length) : (T.map f).getD a 0 = f (T.getD a []) := by
  simp [List.getD_eq_getElem?_getD, h]
theorem getD_mem {T : Tab} {a : Nat} (h : a < T.length) : T.getD a [] ∈ T := by
  rw [List.getD_eq_getElem?_getD, List.getElem?_eq_getElem h]
  exact List.getElem_mem h
theorem rows_ne {n : Nat} {T : Tab} (h : Had n T) {a b : Nat} (ha : a < n) (hb : b < n) (hab : a ≠ b) : dot (T.getD a []) (T.getD b []) = 0 := by
  have hp := List.pairwise_iff_getElem.mp h.rows
  have la := h.len
  rw [List.getD_eq_getElem?_getD, List.getD_eq_getElem?_getD, List.getElem?_eq_getElem (show a < T.length by omega), List.getElem?_eq_getElem (show b < T.length by omega)]
  rcases Nat.lt_or_gt_of_ne hab with e | e
  · exact hp a b (by omega) (by omega) e
  · show dot T[a] T[b] = 0
    rw [dot_comm]
    exact hp b a (by omega) (by omega) e
theorem Had.tr {n : Nat} {T : Tab} (h : Had n T) : Had n (tr n T) := by
  refine ⟨⟨by simp [M48.tr], fun r hr => ?_⟩, ?_, fun a b ha hb hab => ?_⟩
  · obtain ⟨k, hk, rfl⟩ := List.mem_map.mp hr
    have hk' : k < n := by simpa using hk
    refine ⟨by rw [List.length_map]; exact h.len, fun x hx => ?_⟩
    obtain ⟨r, hr, rfl⟩ := List.mem_map.mp hx
    have := h.row r hr
    exact this.2.get (by omega)
  · unfold M48.tr
    rw [List.pairwise_map]
    refine List.Pairwise.imp_of_mem ?_ List.pairwise_lt_range
    intro a b ha hb hab
    have e := h.cols a b (by simpa using ha) (by simpa using hb) (by omega)
    rw [dot_range (n := n) (by rw [List.length_map]; exact h.len) (by rw [List.length_map]; exact h.len)]
    refine Eq.trans ?_ e
    unfold cdot
    have : S T (fun r => r.getD a 0 * r.getD b 0) = S (List.range n) (fun k => (T.getD k []).getD a 0 * (T.getD k []).getD b 0) := by
      have et : T = (List.range n).map fun k => T.getD k [] := by
        apply List.ext_getElem
        · simp [h.len]
        · intro k h1 h2
          simp [List.getD_eq_getElem?_getD, List.getElem?_eq_getElem h1]
      conv => lhs; rw [et]
      rw [S_map]
    rw [this]
    exact S_congr fun k hk => by
      have hk' : k < T.length := by rw [h.len]; simpa using hk
      rw [map_getD _ hk', map_getD _ hk']
  · unfold cdot M48.tr
    rw [S_map]
    have la := h.row _ (getD_mem (T := T) (a := a) (by rw [h.len]; exact ha))
    have lb := h.row _ (getD_mem (T := T) (a := b) (by rw [h.len]; exact hb))
    refine Eq.trans ?_ (rows_ne h ha hb hab)
    rw [dot_range la.1 lb.1]
    exact S_congr fun k hk => by rw [map_getD _ (by rw [h.len]; exact ha), map_getD _ (by rw [h.len]; exact hb)]

/-! ### sums over lots -/
def rowS (C : List Nat) (r : List Int) : Int := S C fun c => r.getD c 0
theorem cdot_self {n : Nat} {T : Tab} (h : Had n T) {a : Nat} (ha : a < n) : cdot T a a = n := by
  unfold cdot
  rw [S_congr (g := fun _ => 1) fun r hr => ?_, S_const, h.len, Int.mul_one]
  have := h.row r hr
  rcases this.2.get (k := a) (by omega) with e | e <;> rw [e] <;> rfl
theorem squares {n : Nat} {T : Tab} (h : Had n T) {C : List Nat} (hC : C.Nodup) (hn : ∀ c ∈ C, c < n) : S T (fun r => rowS C r * rowS C r) = n * C.length := by
  have e1 : S T (fun r => rowS C r * rowS C r) = S C fun a => S C fun b => cdot T a b := by
    rw [S_congr (g := fun r => S C fun a => S C fun b => r.getD a 0 * r.getD b 0) fun r _ => S_sq C _, S_swap]
    exact S_congr fun a _ => S_swap _ _ _
  rw [e1, S_congr (g := fun _ => (n : Int)) fun a ha => ?_, S_const, Int.mul_comm]
  rw [S_congr (g := fun b => if a = b then (n : Int) else 0) fun b hb => ?_, S_one hC ha]
  by_cases e : a = b
  · subst e; rw [if_pos rfl]; exact cdot_self h (hn a ha)
  · rw [if_neg e]; exact h.cols a b (hn a ha) (hn b hb) e
def lotS (T : Tab) (R C : List Nat) : Int := S R fun i => rowS C (T.getD i [])
theorem S_tab {n : Nat} {T : Tab} (hl : T.length = n) (f : List Int → Int) : S T f = S (List.range n) fun k => f (T.getD k []) := by
  have et : T = (List.range n).map fun k => T.getD k [] := by
    apply List.ext_getElem
    · simp [hl]
    · intro k h1 h2
      simp [List.getD_eq_getElem?_getD, List.getElem?_eq_getElem h1]
  conv => lhs; rw [et]
  rw [S_map]
theorem sq_nonneg (x : Int) : 0 ≤ x * x := by
  rcases Int.le_total 0 x with h | h
  · exact Int.mul_nonneg h h
  · exact Int.mul_nonneg_of_nonpos_of_nonpos h h
/-- MAIN W1 -/
theorem lindsey {n : Nat} {T : Tab} (h : Had n T) {R C : List Nat} (hR : R.Sublist (List.range n)) (hC : C.Sublist (List.range n)) : lotS T R C * lotS T R C ≤ (n : Int) * R.length * C.length := by
  have hCn : C.Nodup := hC.nodup List.nodup_range
  have hCl : ∀ c ∈ C, c < n := fun c hc => by simpa using hC.mem hc
  have h1 := cauchy R fun i => rowS C (T.getD i [])
  have h2 : S R (fun i => rowS C (T.getD i []) * rowS C (T.getD i [])) ≤ (n : Int) * C.length := by
    rw [← squares h hCn hCl, S_tab h.len]
    exact S_sub hR fun i _ => sq_nonneg _
  have h3 := Int.mul_le_mul_of_nonneg_left h2 (Int.natCast_nonneg R.length)
  have e : (n : Int) * R.length * C.length = R.length * (n * C.length) := by grind
  rw [e]
  exact Int.le_trans h1 h3
end M48

/-! M48b: best lots, least pairs (plain) -/
namespace M48

/-! ### the best lot -/
def upI (s : List Int) : List Nat := (s.zipIdx.filter fun p => decide (0 < p.1)).map (·.2)
def dnI (s : List Int) : List Nat := (s.zipIdx.filter fun p => decide (p.1 < 0)).map (·.2)
def bestI (s : List Int) : List Nat := if (s.filter fun x => decide (0 < x)).sum ≥ ((s.filter fun x => decide (x < 0)).map fun x => -x).sum then upI s else dnI s
theorem sum_S (l : List Int) : l.sum = S l fun x => x := by simp [S]
theorem zip_get {s : List Int} {p : Int × Nat} (h : p ∈ s.zipIdx) : s.getD p.2 0 = p.1 := by
  obtain ⟨x, k⟩ := p
  have := List.mem_zipIdx_iff_getElem?.mp h
  simp only at this
  simp [List.getD_eq_getElem?_getD, this]
theorem filter_zip (s : List Int) (q : Int → Bool) : S ((s.zipIdx.filter fun p => q p.1).map (·.2)) (fun i => s.getD i 0) = (s.filter q).sum := by
  rw [S_map, S_congr (g := fun p => p.1) fun p hp => zip_get (List.mem_filter.mp hp).1]
  have e : s.filter q = ((s.zipIdx.filter fun p => q p.1).map (·.1)) := by
    conv => lhs; rw [← List.zipIdx_map_fst 0 s]
    rw [List.filter_map]; rfl
  rw [e]; rfl
theorem up_sum (s : List Int) : S (upI s) (fun i => s.getD i 0) = (s.filter fun x => decide (0 < x)).sum := filter_zip s fun x => decide (0 < x)
theorem dn_sum (s : List Int) : S (dnI s) (fun i => s.getD i 0) = -((s.filter fun x => decide (x < 0)).map fun x => -x).sum := by
  have := filter_zip s fun x => decide (x < 0)
  unfold dnI
  rw [this]
  have h : ∀ l : List Int, l.sum = -((l.map fun x => -x).sum) := fun l => by
    induction l with
    | nil => rfl
    | cons a l ih => simp only [List.sum_cons, List.map_cons]; omega
  exact h _
theorem sub_zip (s : List Int) (q : Int × Nat → Bool) : ((s.zipIdx.filter q).map (·.2)).Sublist (List.range s.length) := by
  have := (List.filter_sublist (l := s.zipIdx) (p := q)).map (·.2)
  rw [List.zipIdx_map_snd] at this
  rw [List.range_eq_range']
  exact this
theorem best_sub (s : List Int) : (bestI s).Sublist (List.range s.length) := by
  unfold bestI; split
  · exact sub_zip _ _
  · exact sub_zip _ _
def pos (x : Int) : Int := if 0 < x then x else 0
theorem pos_sum (s : List Int) : (s.filter fun x => decide (0 < x)).sum = S s pos := by
  induction s with
  | nil => rfl
  | cons a s ih =>
    by_cases h : 0 < a
    · simp [List.filter_cons, h, S_cons, pos, ← ih]
    · simp [List.filter_cons, h, S_cons, pos, ← ih]
theorem neg_sum (s : List Int) : ((s.filter fun x => decide (x < 0)).map fun x => -x).sum = S s fun x => pos (-x) := by
  induction s with
  | nil => rfl
  | cons a s ih =>
    rw [S_cons, ← ih]
    by_cases h : a < 0
    · rw [List.filter_cons_of_pos (by simpa using h), List.map_cons, List.sum_cons, pos, if_pos (by omega)]
    · rw [List.filter_cons_of_neg (by simpa using h), pos, if_neg (by omega), Int.zero_add]
theorem S_list (s : List Int) (f : Int → Int) : S s f = S (List.range s.length) fun k => f (s.getD k 0) := by
  have et : s = (List.range s.length).map fun k => s.getD k 0 := by
    apply List.ext_getElem
    · simp
    · intro k h1 h2
      simp [List.getD_eq_getElem?_getD, List.getElem?_eq_getElem h1]
  conv => lhs; rw [et]
  rw [S_map]
theorem best_most (s : List Int) {R : List Nat} (hR : R.Sublist (List.range s.length)) :
    (S R fun i => s.getD i 0).natAbs ≤ (S (bestI s) fun i => s.getD i 0).natAbs := by
  have h1 : (S R fun i => s.getD i 0) ≤ S s pos := by
    rw [S_list s]
    exact Int.le_trans (S_mono fun i _ => by unfold pos; split <;> omega) (S_sub hR fun i _ => by unfold pos; split <;> omega)
  have h2 : -(S R fun i => s.getD i 0) ≤ S s fun x => pos (-x) := by
    have e : -(S R fun i => s.getD i 0) = S R fun i => -(s.getD i 0) := by
      have := S_mul R (-1) fun i => s.getD i 0
      simp only [Int.neg_one_mul] at this
      exact this.symm
    rw [S_list s, e]
    exact Int.le_trans (S_mono (g := fun k => pos (-s.getD k 0)) fun i _ => by unfold pos; split <;> omega) (S_sub hR fun i _ => by unfold pos; split <;> omega)
  have h3 : 0 ≤ S s pos := S_nonneg fun x _ => by unfold pos; split <;> omega
  have h4 : 0 ≤ S s fun x => pos (-x) := S_nonneg fun x _ => by unfold pos; split <;> omega
  unfold bestI
  rw [pos_sum, neg_sum]
  split
  · rw [up_sum, pos_sum]; omega
  · rw [dn_sum, neg_sum]; omega

/-! ### the least pair -/
def lp (T : Tab) : Option (Nat × Nat) := (List.range T.length).findSome? fun i => (List.range (T.length - (i + 1))).findSome? fun j => if dot (T.getD i []) (T.getD (i + 1 + j) []) ≠ 0 then some (i, i + 1 + j) else none
theorem find_none {α : Type} {n : Nat} {f : Nat → Option α} (h : ∀ i, i < n → f i = none) : (List.range n).findSome? f = none := by
  rw [List.findSome?_eq_none_iff]
  intro i hi
  exact h i (by simpa using hi)
theorem find_at {α : Type} {f : Nat → Option α} {b : α} {i : Nat} : ∀ {n : Nat}, i < n → f i = some b → (∀ k, k < i → f k = none) → (List.range n).findSome? f = some b
  | 0, h, _, _ => by omega
  | n + 1, h, e, l => by
    rw [List.range_succ, List.findSome?_append]
    by_cases hn : i < n
    · rw [find_at hn e l]; rfl
    · have : i = n := by omega
      subst this
      rw [find_none l]
      simp [e]
theorem lp_none {T : Tab} (h : ∀ i j, i < j → j < T.length → dot (T.getD i []) (T.getD j []) = 0) : lp T = none :=
  find_none fun i hi => find_none fun j hj => if_neg (by simpa using h i (i + 1 + j) (by omega) (by omega))
theorem lp_at {T : Tab} {i j : Nat} (hi : i < j) (hj : j < T.length) (e : dot (T.getD i []) (T.getD j []) ≠ 0) (h1 : ∀ a b, a < i → a < b → b < T.length → dot (T.getD a []) (T.getD b []) = 0) (h2 : ∀ b, i < b → b < j → dot (T.getD i []) (T.getD b []) = 0) : lp T = some (i, j) := by
  refine find_at (i := i) (by omega) ?_ fun a ha => find_none fun b hb => if_neg (by simpa using h1 a (a + 1 + b) ha (by omega) (by omega))
  have ej : i + 1 + (j - (i + 1)) = j := by omega
  refine find_at (i := j - (i + 1)) (by omega) ?_ fun b hb => if_neg (by simpa using h2 (i + 1 + b) (by omega) (by omega))
  rw [ej, if_pos e]
theorem Had.lp {n : Nat} {T : Tab} (h : Had n T) : lp T = none := lp_none fun i j hij hj => rows_ne h (by have := h.len; omega) (by have := h.len; omega) (by omega)

/-! ### spoilt ones -/
def flip (r : List Int) (k : Nat) : List Int := r.set k (-(r.getD k 0))
theorem dot_flip : ∀ (r s : List Int) (k : Nat), r.length = s.length → dot (flip r k) s = dot r s - 2 * (r.getD k 0 * s.getD k 0)
  | [], s, k, h => by simp [flip, dot]
  | a :: r, [], k, h => by simp at h
  | a :: r, b :: s, 0, h => by
    show dot (-a :: r) (b :: s) = _
    rw [dot_cons, dot_cons]
    simp only [List.getD_cons_zero]
    rw [Int.neg_mul]; omega
  | a :: r, b :: s, k + 1, h => by
    show dot (a :: flip r k) (b :: s) = _
    rw [dot_cons, dot_cons, dot_flip r s k (by simpa using h)]
    simp only [List.getD_cons_succ]
    omega
theorem flip_ne {n k : Nat} {r s : List Int} (hr : r.length = n ∧ Sg r) (hs : s.length = n ∧ Sg s) (hk : k < n) (h : dot r s = 0) : dot (flip r k) s ≠ 0 := by
  rw [dot_flip r s k (by omega), h]
  rcases hr.2.get (k := k) (by omega) with e1 | e1 <;> rcases hs.2.get (k := k) (by omega) with e2 | e2 <;> rw [e1, e2] <;> decide
theorem set_getD (T : Tab) (i a : Nat) (r : List Int) (h : i < T.length) : (T.set i r).getD a [] = if a = i then r else T.getD a [] := by
  simp only [List.getD_eq_getElem?_getD, List.getElem?_set]
  by_cases e : i = a
  · subst e; simp [h]
  · simp [e, Ne.symm e]
theorem lp_flip {n i k : Nat} {T : Tab} (h : Had n T) (hn : 1 < n) (hi : i < n) (hk : k < n) : lp (T.set i (flip (T.getD i []) k)) = some (0, if i > 0 then i else 1) := by
  have hl := h.len
  have hrow : ∀ a, a < n → (T.getD a []).length = n ∧ Sg (T.getD a []) := fun a ha => h.row _ (getD_mem (by omega))
  have hs := fun a => set_getD T i a (flip (T.getD i []) k) (by omega)
  by_cases h0 : i = 0
  · subst h0
    refine lp_at (by simp) (by simp; omega) ?_ (fun a b ha => by omega) fun b h1 h2 => by simp at h2; omega
    rw [hs, hs]
    simp
    exact flip_ne (hrow 0 hi) (hrow 1 hn) hk (rows_ne h (by omega) (by omega) (by omega))
  · have e : (if i > 0 then i else 1) = i := if_pos (by omega)
    rw [e]
    refine lp_at (by omega) (by rw [List.length_set]; omega) ?_ (fun a b ha => by omega) fun b h1 h2 => ?_
    · rw [hs, hs, if_neg (Ne.symm h0), if_pos rfl, dot_comm]
      exact flip_ne (hrow i hi) (hrow 0 (by omega)) hk (rows_ne h (by omega) (by omega) h0)
    · rw [hs, hs, if_neg (Ne.symm h0), if_neg (by omega)]
      exact rows_ne h (by omega) (by omega) (by omega)
theorem lp_same {n i j : Nat} {T : Tab} (h : Had n T) (hi : i < n) (hj : j < n) (hij : i ≠ j) {r : List Int} (hr : r = T.getD j [] ∨ r = neg (T.getD j [])) : lp (T.set i r) = some (min i j, max i j) := by
  have hl := h.len
  have hrow : ∀ a, a < n → (T.getD a []).length = n ∧ Sg (T.getD a []) := fun a ha => h.row _ (getD_mem (by omega))
  have hs := fun a => set_getD T i a r (by omega)
  have z : ∀ b, b < n → b ≠ j → dot r (T.getD b []) = 0 := fun b hb hbj => by
    rcases hr with rfl | rfl
    · exact rows_ne h hj hb (Ne.symm hbj)
    · rw [dot_neg, rows_ne h hj hb (Ne.symm hbj)]; rfl
  have nz : dot r (T.getD j []) ≠ 0 := by
    have e := dot_self (hrow j hj).2
    rw [(hrow j hj).1] at e
    rcases hr with rfl | rfl
    · rw [e]; omega
    · rw [dot_neg, e]; omega
  have all : ∀ a b, a < n → b < n → a ≠ b → ¬ (a = i ∧ b = j) → ¬ (a = j ∧ b = i) → dot ((T.set i r).getD a []) ((T.set i r).getD b []) = 0 := fun a b ha hb hab n1 n2 => by
    rw [hs, hs]
    by_cases ea : a = i
    · subst ea
      rw [if_pos rfl, if_neg (Ne.symm hab)]
      exact z b hb fun q => n1 ⟨rfl, q⟩
    · by_cases eb : b = i
      · subst eb
        rw [if_neg ea, if_pos rfl, dot_comm]
        exact z a ha fun q => n2 ⟨q, rfl⟩
      · rw [if_neg ea, if_neg eb]
        exact rows_ne h ha hb hab
  rcases Nat.lt_or_gt_of_ne hij with q | q
  · rw [show min i j = i by omega, show max i j = j by omega]
    refine lp_at q (by rw [List.length_set]; omega) ?_ (fun a b h1 h2 h3 => ?_) fun b h1 h2 => all _ _ hi (by omega) (by omega) (by omega) (by omega)
    · rw [hs, hs, if_pos rfl, if_neg (by omega)]; exact nz
    · rw [List.length_set] at h3
      exact all _ _ (by omega) (by omega) (by omega) (by omega) (by omega)
  · rw [show min i j = j by omega, show max i j = i by omega]
    refine lp_at q (by rw [List.length_set]; omega) ?_ (fun a b h1 h2 h3 => ?_) fun b h1 h2 => all _ _ hj (by omega) (by omega) (by omega) (by omega)
    · rw [hs, hs, if_pos rfl, if_neg (by omega), dot_comm]; exact nz
    · rw [List.length_set] at h3
      exact all _ _ (by omega) (by omega) (by omega) (by omega) (by omega)
theorem Tb.set {n i : Nat} {T : Tab} (h : Tb n T) {r : List Int} (hr : r.length = n ∧ Sg r) : Tb n (T.set i r) := ⟨by rw [List.length_set]; exact h.len, fun x hx => by
  rcases List.mem_or_eq_of_mem_set hx with q | q
  · exact h.row x q
  · rw [q]; exact hr⟩
theorem flip_ok {n k : Nat} {r : List Int} (hr : r.length = n ∧ Sg r) (hk : k < n) : (flip r k).length = n ∧ Sg (flip r k) := ⟨by unfold flip; rw [List.length_set]; exact hr.1, fun x hx => by
  rcases List.mem_or_eq_of_mem_set hx with q | q
  · exact hr.2 x q
  · rcases hr.2.get (k := k) (by omega) with e | e <;> rw [q, e] <;> simp⟩

/-! ### a table judged by reckoning -/
def sgB (l : List Int) : Bool := l.all fun x => x == 1 || x == -1
def hadB (n : Nat) (T : Tab) : Bool := T.length == n && (T.all fun r => r.length == n && sgB r) && ((List.range n).all fun i => (List.range i).all fun j => dot (T.getD j []) (T.getD i []) == 0) && ((List.range n).all fun i => (List.range i).all fun j => cdot T j i == 0)
theorem hadB_ok {n : Nat} {T : Tab} (h : hadB n T = true) : Had n T := by
  unfold hadB at h
  simp only [Bool.and_eq_true, beq_iff_eq, List.all_eq_true] at h
  obtain ⟨⟨⟨h1, h2⟩, h3⟩, h4⟩ := h
  refine ⟨⟨h1, fun r hr => ⟨(h2 r hr).1, fun x hx => ?_⟩⟩, ?_, fun a b ha hb hab => ?_⟩
  · have := (h2 r hr).2
    unfold sgB at this
    simp only [List.all_eq_true, Bool.or_eq_true, beq_iff_eq] at this
    exact this x hx
  · rw [List.pairwise_iff_getElem]
    intro i j hi hj hij
    have := h3 j (by simpa [← h1] using hj) i (by simpa using hij)
    simpa [List.getD_eq_getElem?_getD, hi, hj] using this
  · rcases Nat.lt_or_gt_of_ne hab with q | q
    · exact h4 b (by simpa using hb) a (by simpa using q)
    · have := h4 a (by simpa using ha) b (by simpa using q)
      unfold cdot at this ⊢
      rw [S_congr fun r _ => Int.mul_comm _ _]
      exact this
end M48

noncomputable section
namespace Lw
open PySem PySem.Spec PyProof.Rows L2 Fx
def topS (i : Nat) : Stmt := PySem.Challenge.pw_looksdrawn_k48_whole_main_sign_tables.main.body.getD i (.Pass ⟨0, 0, 0, 0⟩)
abbrev s_is_integer : Stmt := topS 2
abbrev N_is_integer : List Str := ["value"]
abbrev s_is_sign_row : Stmt := topS 4
abbrev N_is_sign_row : List Str := ["value", "n", "item"]
abbrev s_table_error : Stmt := topS 5
abbrev N_table_error : List Str := ["value", "i", "row", "j", "x", "y"]
abbrev s_doubled_table : Stmt := topS 6
abbrev N_doubled_table : List Str := ["many", "found", "turn", "above", "row", "item"]
abbrev s_leftover_table : Stmt := topS 7
abbrev N_leftover_table : List Str := ["p", "squares", "found", "i", "row", "x", "j"]
abbrev s_sum_over : Stmt := topS 8
abbrev N_sum_over : List Str := ["table", "rows", "columns", "i", "j"]
abbrev s_best_rows : Stmt := topS 9
abbrev N_best_rows : List Str := ["table", "columns", "sums", "above", "below", "is_above", "row", "j", "i", "own"]
abbrev s__law_own_bag : Stmt := topS 13
abbrev N__law_own_bag : List Str := ["script", "cells", "mixed", "cell"]
abbrev s__law_draw : Stmt := topS 14
abbrev N__law_draw : List Str := ["bag", "below", "cell", "found"]
abbrev s__law_pick : Stmt := topS 15
abbrev N__law_pick : List Str := ["bag", "some"]
abbrev s__law_same : Stmt := topS 16
abbrev N__law_same : List Str := ["told", "due", "one", "two"]
abbrev s__law_doubled : Stmt := topS 17
abbrev N__law_doubled : List Str := ["many", "rows", "step", "above", "below", "row", "x"]
abbrev s__law_leftover : Stmt := topS 18
abbrev N__law_leftover : List Str := ["p", "signs", "x", "rows", "i", "j"]
abbrev s__law_order : Stmt := topS 19
abbrev N__law_order : List Str := ["bag", "n", "found", "k", "other"]
abbrev s__law_about : Stmt := topS 20
abbrev N__law_about : List Str := ["table", "k", "row"]
abbrev s__law_led : Stmt := topS 21
abbrev N__law_led : List Str := ["bag", "table", "signs", "found", "k", "is_turned", "x"]
abbrev s__law_own_table : Stmt := topS 22
abbrev N__law_own_table : List Str := ["bag", "first", "table", "way"]
abbrev s__law_lot : Stmt := topS 23
abbrev N__law_lot : List Str := ["bag", "n", "way", "k"]
abbrev s__law_sums : Stmt := topS 24
abbrev N__law_sums : List Str := ["table", "columns", "row", "k"]
abbrev s__law_best : Stmt := topS 25
abbrev N__law_best : List Str := ["sums", "above", "below", "x", "k"]
abbrev s__law_least_pair : Stmt := topS 26
abbrev N__law_least_pair : List Str := ["table", "i", "row", "j", "x", "y"]
abbrev s__law_put : Stmt := topS 27
abbrev N__law_put : List Str := ["table", "i", "row"]
abbrev s__law_is_error : Stmt := topS 28
abbrev N__law_is_error : List Str := ["value", "due", "is_named"]
abbrev s__law_are_pairs_told : Stmt := topS 29
abbrev N__law_are_pairs_told : List Str := ["bag", "table", "n", "turn", "i", "row", "k", "bad", "due", "j", "x"]
abbrev s__law_are_forms_told : Stmt := topS 30
abbrev N__law_are_forms_told : List Str := ["bag", "table", "n", "i", "k", "row", "wrong", "odd", "item", "same", "value", "copy"]
abbrev s__law_are_sums_right : Stmt := topS 31
abbrev N__law_are_sums_right : List Str := ["bag", "table", "n", "turn", "rows", "columns", "is_named", "sums", "due", "best", "told", "found", "great", "k", "i"]
abbrev s__law_are_rows_square : Stmt := topS 32
abbrev N__law_are_rows_square : List Str := ["table", "n", "found", "i", "told"]
abbrev s__law_is_right : Stmt := topS 33
abbrev N__law_is_right : List Str := ["bag", "way", "many", "p", "is_named", "is_doubled", "told", "due", "table", "again"]
abbrev s_law : Stmt := topS 34
abbrev N_law : List Str := ["script"]
def FUEL : Nat := 1000000
def F_is_integer : FF := fnOf 1 1 (fRet 1 true (fAndV (fIsi "int" (fVar 0)) (fNotV (fIsi "bool" (fVar 0)))))
def e1_is_sign_row : FE := fAndV (fCall F_is_integer (fACons (fVar 2) fANil)) (fOp2 (gIn false) false (fVar 2) (fTup (fACons (fC (.int 1)) (fACons (fNeg (fC (.int 1))) fANil))))
def F_is_sign_row : FF := fnOf 2 3 (fSeq (fIf (fOr (fNot (fTru (fIsi "tuple" (fVar 0)))) (fT (fOp2 (gEqX true) false (fB gLen false (fACons (fVar 0) fANil)) (fVar 1)))) (fRet 2 true (fC (.bool false))) fNil) (fRet 2 true (fB gAll false (fACons (fLc false (fIter (fVar 0)) (gN 2) tYesF e1_is_sign_row [2]) fANil))))
def e1_table_error : FE := fCall F_is_sign_row (fACons (fVar 2) (fACons (fB gLen false (fACons (fVar 0) fANil)) fANil))
def e2_table_error : FE := fOp2 gMulX false (fVar 4) (fVar 5)
def b3_table_error : FS := fFgt [3] (fIf (fT (fOp2 (gEqX true) false (fB gSumA false (fACons (fLc false (fZip (fACons (fVar 2) (fACons (fOp2 gIx false (fVar 0) (fVar 3)) fANil))) (gT 2 (gsCons (gN 4) (gsCons (gN 5) gsNil))) tYesF e2_table_error [4, 5]) fANil)) (fC (.int 0)))) (fRet 1 true (fTup (fACons (fC (.str "rows")) (fACons (fVar 1) (fACons (fVar 3) fANil))))) fNil)
def b4_table_error : FS := fFgt [1, 2, 3] (fFor (fRange2 (fOp2 gAdd false (fVar 1) (fC (.int 1))) (fB gLen false (fACons (fVar 0) fANil))) (gN 3) b3_table_error)
def F_table_error : FF := fnOf 1 6 (fSeq (fIf (fOr (fNot (fTru (fIsi "tuple" (fVar 0)))) (fNot (fT (fChain gLe gLe (fC (.int 1)) (fB gLen false (fACons (fVar 0) fANil)) (fC (.int 32)))))) (fRet 1 true (fC (.str "form"))) fNil) (fSeq (fIf (fNot (fTru (fB gAll false (fACons (fLc false (fIter (fVar 0)) (gN 2) tYesF e1_table_error [2]) fANil)))) (fRet 1 true (fC (.str "form"))) fNil) (fSeq (fFor (fEnumA (fVar 0)) (gT 2 (gsCons (gN 1) (gsCons (gN 2) gsNil))) b4_table_error) (fRet 1 true (fC .none)))))
def e1_doubled_table : FE := fOp2 gAdd false (fVar 4) (fVar 4)
def e2_doubled_table : FE := fNeg (fVar 5)
def e3_doubled_table : FE := fOp2 gAdd false (fVar 4) (fB gToT false (fACons (fLc false (fIter (fVar 4)) (gN 5) tYesF e2_doubled_table [5]) fANil))
def b4_doubled_table : FS := fFgt [2, 3] (fSeq (fSet 1 3 (fLc false (fIter (fVar 1)) (gN 4) tYesF e1_doubled_table [4])) (fSet 1 1 (fOp2 gAdd false (fVar 3) (fLc false (fIter (fVar 1)) (gN 4) tYesF e3_doubled_table [4]))))
def F_doubled_table : FF := fnOf 1 6 (fSeq (fSet 1 1 (fLst false (fACons (fTup (fACons (fC (.int 1)) fANil)) fANil))) (fSeq (fFor (fRange1 (fVar 0)) (gN 2) b4_doubled_table) (fRet 1 true (fB gToT false (fACons (fVar 1) fANil)))))
def e1_leftover_table : FE := fOp2 gMod false (fOp2 gMulX false (fVar 5) (fVar 5)) (fVar 0)
def e2_leftover_table : FE := fIfE (fOr (fT (fOp2 (gEqX false) false (fVar 3) (fVar 6))) (fT (fOp2 (gIn false) false (fOp2 gMod false (fOp2 gSub false (fVar 6) (fVar 3)) (fVar 0)) (fVar 1)))) (fC (.int 1)) (fNeg (fC (.int 1)))
def b3_leftover_table : FS := fFgt [3, 4] (fSeq (fSet 1 4 (fLst true (fACons (fNeg (fC (.int 1))) fANil))) (fSeq (fDrop (fExtend 4 (fLc false (fRange2 (fC (.int 1)) (fOp2 gAdd false (fVar 0) (fC (.int 1)))) (gN 6) tYesF e2_leftover_table [6]))) (fFrz 4 (fDrop (fAppend 2 (fB gToT false (fACons (fVar 4) fANil)))))))
def F_leftover_table : FF := fnOf 1 7 (fSeq (fSet 1 1 (fLc false (fRange2 (fC (.int 1)) (fVar 0)) (gN 5) tYesF e1_leftover_table [5])) (fSeq (fSet 1 2 (fLst true (fACons (fOp2 gMulX false (fTup (fACons (fC (.int 1)) fANil)) (fOp2 gAdd false (fVar 0) (fC (.int 1)))) fANil))) (fSeq (fFor (fRange2 (fC (.int 1)) (fOp2 gAdd false (fVar 0) (fC (.int 1)))) (gN 3) b3_leftover_table) (fFrz 2 (fRet 1 true (fB gToT false (fACons (fVar 2) fANil)))))))
def e1_sum_over : FE := fOp2 gIx false (fOp2 gIx false (fVar 0) (fVar 3)) (fVar 4)
def e2_sum_over : FE := fB gSumA false (fACons (fLc false (fIter (fVar 2)) (gN 4) tYesF e1_sum_over [4]) fANil)
def F_sum_over : FF := fnOf 3 5 (fRet 3 true (fB gSumA false (fACons (fLc false (fIter (fVar 1)) (gN 3) tYesF e2_sum_over [3]) fANil)))
def e1_best_rows : FE := fOp2 gIx false (fVar 6) (fVar 7)
def e2_best_rows : FE := fB gSumA false (fACons (fLc false (fIter (fVar 1)) (gN 7) tYesF e1_best_rows [7]) fANil)
def e3_best_rows : FE := fVar 8
def t4_best_rows : FT := fT (fOp2 gGt false (fVar 9) (fC (.int 0)))
def e5_best_rows : FE := fVar 8
def t6_best_rows : FT := fT (fOp2 gLt false (fVar 9) (fC (.int 0)))
def e7_best_rows : FE := fOp2 gIx false (fVar 2) (fVar 8)
def e8_best_rows : FE := fOp2 gIx false (fVar 2) (fVar 8)
def F_best_rows : FF := fnOf 2 10 (fSeq (fSet 2 2 (fLc false (fIter (fVar 0)) (gN 6) tYesF e2_best_rows [6])) (fSeq (fSet 2 3 (fLc false (fEnumA (fVar 2)) (gT 2 (gsCons (gN 8) (gsCons (gN 9) gsNil))) t4_best_rows e3_best_rows [8, 9])) (fSeq (fSet 2 4 (fLc false (fEnumA (fVar 2)) (gT 2 (gsCons (gN 8) (gsCons (gN 9) gsNil))) t6_best_rows e5_best_rows [8, 9])) (fSeq (fSet 2 5 (fOp2 gGe false (fB gSumA false (fACons (fLc false (fIter (fVar 3)) (gN 8) tYesF e7_best_rows [8]) fANil)) (fNeg (fB gSumA false (fACons (fLc false (fIter (fVar 4)) (gN 8) tYesF e8_best_rows [8]) fANil))))) (fRet 2 true (fB gToT false (fACons (fIfE (fTru (fVar 5)) (fVar 3) (fVar 4)) fANil)))))))
def e1__law_own_bag : FE := fB gAbs false (fACons (fVar 3) fANil)
def b2__law_own_bag : FS := fFgt [3] (fSet 1 2 (fOp2 gMod false (fB gInt false (fACons (fOp2 gAdd false (fOp2 gAdd false (fOp2 gMulX false (fVar 2) (fC (.int 48271))) (fOp2 gMod false (fB gInt false (fACons (fVar 3) fANil)) (fC (.int 2147483629)))) (fC (.int 7))) fANil)) (fC (.int 2147483647))))
def F__law_own_bag : FF := fnOf 1 4 (fSeq (fSet 1 1 (fLc false (fIter (fSlice false (fVar 0) fONo (fOSo (fC (.int 63))))) (gN 3) tYesF e1__law_own_bag [3])) (fSeq (fSet 1 2 (fOp2 gAdd false (fC (.int 4848)) (fB gLen false (fACons (fVar 1) fANil)))) (fSeq (fFor (fIter (fVar 1)) (gN 3) b2__law_own_bag) (fRet 1 false (fMkBag (fListRev true (fB gToL false (fACons (fVar 1) fANil))) (fC (.int 0)) (fVar 2))))))
def c1__law_draw : FT := fAnd (fT (fOp2 (gEqX false) false (fBagIx 0 1) (fC (.int 0)))) (fT (fBagNe 0))
def b2__law_draw : FS := fFgt [2] (fSeq (fSet 2 2 (fBagPop 0)) (fBagPut 0 1 (fIfE (fT (fOp2 gGt false (fVar 2) (fOp2 gPow false (fC (.int 10)) (fC (.int 9))))) (fVar 2) (fC (.int 0)))))
def F__law_draw : FF := fnOf 2 4 (fSeq (fWhile c1__law_draw b2__law_draw FUEL) (fSeq (fIf (fT (fOp2 gGt false (fBagIx 0 1) (fC (.int 0)))) (fSeq (fSet 2 3 (fOp2 gMod false (fB gInt false (fACons (fBagIx 0 1) fANil)) (fVar 1))) (fSeq (fBagPut 0 1 (fOp2 gDiv false (fBagIx 0 1) (fVar 1))) (fRet 2 true (fVar 3)))) fNil) (fSeq (fBagPut 0 2 (fOp2 gMod false (fB gInt false (fACons (fOp2 gAdd false (fOp2 gMulX false (fBagIx 0 2) (fC (.int 48271))) (fC (.int 11))) fANil)) (fC (.int 2147483647)))) (fRet 2 true (fOp2 gMod false (fB gInt false (fACons (fOp2 gDiv false (fOp2 gMod false (fB gInt false (fACons (fOp2 gMulX false (fBagIx 0 2) (fBagIx 0 2)) fANil)) (fC (.int 2147483629))) (fC (.int 7))) fANil)) (fVar 1))))))
def F__law_pick : FF := fnOf 2 2 (fRet 2 true (fOp2 gIx false (fVar 1) (fCall F__law_draw (fACons (fVar 0) (fACons (fB gLen false (fACons (fVar 1) fANil)) fANil)))))
def e1__law_same (R : FF) : FE := fCall R (fACons (fVar 2) (fACons (fVar 3) fANil))
def F__law_same : Nat → FF
  | 0 => fun _ => none
  | n + 1 => fnOf 2 4 (fSeq (fIf (fTru (fIsi "tuple" (fVar 1))) (fSeq (fIf (fOr (fNot (fTru (fIsi "tuple" (fVar 0)))) (fT (fOp2 (gEqX true) false (fB gLen false (fACons (fVar 0) fANil)) (fB gLen false (fACons (fVar 1) fANil))))) (fRet 2 true (fC (.bool false))) fNil) (fRet 2 true (fB gAll false (fACons (fLc false (fIter (fListZip false (fACons (fVar 0) (fACons (fVar 1) fANil)))) (gT 2 (gsCons (gN 2) (gsCons (gN 3) gsNil))) tYesF (e1__law_same (F__law_same n)) [2, 3]) fANil)))) fNil) (fSeq (fIf (fT (fOp2 gIs false (fVar 1) (fC .none))) (fRet 2 true (fOp2 gIs false (fVar 0) (fC .none))) fNil) (fSeq (fIf (fTru (fIsi "str" (fVar 1))) (fRet 2 true (fAndV (fIsi "str" (fVar 0)) (fOp2 (gEqX false) false (fVar 0) (fVar 1)))) fNil) (fRet 2 true (fAndV (fIsi "int" (fVar 0)) (fAndV (fNotV (fIsi "bool" (fVar 0))) (fOp2 (gEqX false) false (fVar 0) (fVar 1))))))))
def e1__law_doubled : FE := fNeg (fVar 6)
def b2__law_doubled : FS := fFgt [5] (fSeq (fDrop (fAppend 3 (fOp2 gAdd false (fVar 5) (fVar 5)))) (fDrop (fAppend 4 (fOp2 gAdd false (fVar 5) (fB gToT false (fACons (fLc false (fIter (fVar 5)) (gN 6) tYesF e1__law_doubled [6]) fANil))))))
def b3__law_doubled : FS := fFgt [2, 3, 4, 5] (fSeq (fPar2 1 3 4 (fLst true fANil) (fLst true fANil)) (fSeq (fFor (fIter (fVar 1)) (gN 5) b2__law_doubled) (fFrz 3 (fFrz 4 (fSet 1 1 (fOp2 gAdd false (fVar 3) (fVar 4)))))))
def F__law_doubled : FF := fnOf 1 7 (fSeq (fSet 1 1 (fLst false (fACons (fTup (fACons (fC (.int 1)) fANil)) fANil))) (fSeq (fFor (fRange1 (fVar 0)) (gN 2) b3__law_doubled) (fRet 1 true (fB gToT false (fACons (fVar 1) fANil)))))
def b1__law_leftover : FS := fFgt [2] (fPutIx 1 (fC (.int 1)) (fOp2 gMod false (fB gInt false (fACons (fOp2 gMulX false (fVar 2) (fVar 2)) fANil)) (fVar 0)))
def e2__law_leftover : FE := fOp2 gIx false (fVar 1) (fOp2 gMod false (fB gInt false (fACons (fOp2 gSub false (fOp2 gAdd false (fVar 5) (fVar 0)) (fVar 4)) fANil)) (fVar 0))
def b3__law_leftover : FS := fFgt [4] (fDrop (fAppend 3 (fOp2 gAdd false (fTup (fACons (fNeg (fC (.int 1))) fANil)) (fB gToT false (fACons (fLc false (fRange1 (fVar 0)) (gN 5) tYesF e2__law_leftover [5]) fANil)))))
def F__law_leftover : FF := fnOf 1 6 (fSeq (fSet 1 1 (fOp2 gMulX true (fLst false (fACons (fNeg (fC (.int 1))) fANil)) (fVar 0))) (fSeq (fFor (fRange2 (fC (.int 1)) (fVar 0)) (gN 2) b1__law_leftover) (fSeq (fPutIx 1 (fC (.int 1)) (fC (.int 0))) (fFrz 1 (fSeq (fSet 1 3 (fLst true (fACons (fOp2 gMulX false (fTup (fACons (fC (.int 1)) fANil)) (fOp2 gAdd false (fVar 0) (fC (.int 1)))) fANil))) (fSeq (fFor (fRange1 (fVar 0)) (gN 4) b3__law_leftover) (fFrz 3 (fRet 1 true (fB gToT false (fACons (fVar 3) fANil))))))))))
def b1__law_order : FS := fFgt [3, 4] (fSeq (fSet 2 4 (fOp2 gAdd false (fVar 3) (fCall F__law_draw (fACons (fVar 0) (fACons (fOp2 gSub false (fVar 1) (fVar 3)) fANil))))) (fAsgG (fTup (fACons (fOp2 gIx false (fVar 2) (fVar 4)) (fACons (fOp2 gIx false (fVar 2) (fVar 3)) fANil))) (gT 2 (gsCons (gIxS 2 (fVar 3)) (gsCons (gIxS 2 (fVar 4)) gsNil)))))
def F__law_order : FF := fnOf 2 5 (fSeq (fSet 2 2 (fListR1 true (fVar 1))) (fSeq (fFor (fRange1 (fVar 1)) (gN 3) b1__law_order) (fRet 2 true (fVar 2))))
def e1__law_about : FE := fOp2 gIx false (fVar 2) (fVar 1)
def e2__law_about : FE := fB gToT false (fACons (fLc false (fIter (fVar 0)) (gN 2) tYesF e1__law_about [2]) fANil)
def F__law_about : FF := fnOf 1 3 (fRet 1 true (fB gToT false (fACons (fLc false (fRange1 (fB gLen false (fACons (fVar 0) fANil))) (gN 1) tYesF e2__law_about [1]) fANil)))
def e1__law_led : FE := fNeg (fVar 6)
def b2__law_led : FS := fFgt [4, 5] (fSeq (fSet 2 5 (fAndV (fVar 2) (fOp2 gGt false (fCall F__law_draw (fACons (fVar 0) (fACons (fC (.int 2)) fANil))) (fC (.int 0))))) (fDrop (fAppend 3 (fIfE (fTru (fVar 5)) (fB gToT false (fACons (fLc false (fIter (fOp2 gIx false (fVar 1) (fVar 4))) (gN 6) tYesF e1__law_led [6]) fANil)) (fOp2 gIx false (fVar 1) (fVar 4))))))
def F__law_led : FF := fnOf 2 7 (fSeq (fPar2 2 2 3 (fOp2 gGt false (fCall F__law_draw (fACons (fVar 0) (fACons (fC (.int 2)) fANil))) (fC (.int 0))) (fLst true fANil)) (fSeq (fFor (fIter (fCall F__law_order (fACons (fVar 0) (fACons (fB gLen false (fACons (fVar 1) fANil)) fANil)))) (gN 4) b2__law_led) (fFrz 3 (fRet 2 true (fB gToT false (fACons (fVar 3) fANil))))))
def F__law_own_table : FF := fnOf 2 4 (fSeq (fPar2 2 2 3 (fVar 1) (fCall F__law_draw (fACons (fVar 0) (fACons (fC (.int 5)) fANil)))) (fSeq (fIf (fT (fOp2 gGt false (fVar 3) (fC (.int 0)))) (fSet 2 2 (fCall F__law_led (fACons (fVar 0) (fACons (fVar 2) fANil)))) fNil) (fSeq (fIf (fT (fOp2 gGt false (fVar 3) (fC (.int 1)))) (fSet 2 2 (fCall F__law_about (fACons (fCall F__law_led (fACons (fVar 0) (fACons (fCall F__law_about (fACons (fVar 2) fANil)) fANil))) fANil))) fNil) (fRet 2 true (fIfE (fT (fOp2 (gEqX false) false (fVar 3) (fC (.int 4)))) (fCall F__law_about (fACons (fVar 2) fANil)) (fVar 2))))))
def e1__law_lot : FE := fVar 3
def t2__law_lot : FT := fT (fOp2 gGt false (fCall F__law_draw (fACons (fVar 0) (fACons (fC (.int 2)) fANil))) (fC (.int 0)))
def F__law_lot : FF := fnOf 2 4 (fSeq (fSet 2 2 (fCall F__law_draw (fACons (fVar 0) (fACons (fC (.int 8)) fANil)))) (fSeq (fIf (fT (fOp2 (gEqX false) false (fVar 2) (fC (.int 0)))) (fRet 2 true (fTup fANil)) fNil) (fSeq (fIf (fT (fOp2 (gEqX false) false (fVar 2) (fC (.int 1)))) (fRet 2 true (fTup (fACons (fCall F__law_draw (fACons (fVar 0) (fACons (fVar 1) fANil))) fANil))) fNil) (fSeq (fIf (fT (fOp2 (gEqX false) false (fVar 2) (fC (.int 2)))) (fRet 2 true (fTupR1 (fVar 1))) fNil) (fRet 2 true (fB gToT false (fACons (fLc false (fRange1 (fVar 1)) (gN 3) t2__law_lot e1__law_lot [3]) fANil)))))))
def e1__law_sums : FE := fOp2 gIx false (fVar 2) (fVar 3)
def e2__law_sums : FE := fB gSumA false (fACons (fLc false (fIter (fVar 1)) (gN 3) tYesF e1__law_sums [3]) fANil)
def F__law_sums : FF := fnOf 2 4 (fRet 2 true (fLc false (fIter (fVar 0)) (gN 2) tYesF e2__law_sums [2]))
def e1__law_best : FE := fVar 3
def t2__law_best : FT := fT (fOp2 gGt false (fVar 3) (fC (.int 0)))
def e3__law_best : FE := fNeg (fVar 3)
def t4__law_best : FT := fT (fOp2 gLt false (fVar 3) (fC (.int 0)))
def e5__law_best : FE := fVar 4
def t6__law_best : FT := fT (fOp2 gGt false (fVar 3) (fC (.int 0)))
def e7__law_best : FE := fVar 4
def t8__law_best : FT := fT (fOp2 gLt false (fVar 3) (fC (.int 0)))
def F__law_best : FF := fnOf 1 5 (fSeq (fPar2 1 1 2 (fB gSumA false (fACons (fLc false (fIter (fVar 0)) (gN 3) t2__law_best e1__law_best [3]) fANil)) (fB gSumA false (fACons (fLc false (fIter (fVar 0)) (gN 3) t4__law_best e3__law_best [3]) fANil))) (fSeq (fIf (fT (fOp2 gGe false (fVar 1) (fVar 2))) (fRet 1 true (fB gToT false (fACons (fLc false (fEnumA (fVar 0)) (gT 2 (gsCons (gN 4) (gsCons (gN 3) gsNil))) t6__law_best e5__law_best [4, 3]) fANil))) fNil) (fRet 1 true (fB gToT false (fACons (fLc false (fEnumA (fVar 0)) (gT 2 (gsCons (gN 4) (gsCons (gN 3) gsNil))) t8__law_best e7__law_best [4, 3]) fANil)))))
def e1__law_least_pair : FE := fOp2 gMulX false (fVar 4) (fVar 5)
def b2__law_least_pair : FS := fFgt [3] (fIf (fT (fOp2 (gEqX true) false (fB gSumA false (fACons (fLc false (fIter (fListZip false (fACons (fVar 2) (fACons (fOp2 gIx false (fVar 0) (fVar 3)) fANil)))) (gT 2 (gsCons (gN 4) (gsCons (gN 5) gsNil))) tYesF e1__law_least_pair [4, 5]) fANil)) (fC (.int 0)))) (fRet 1 true (fTup (fACons (fC (.str "rows")) (fACons (fVar 1) (fACons (fVar 3) fANil))))) fNil)
def b3__law_least_pair : FS := fFgt [1, 2, 3] (fFor (fRange2 (fOp2 gAdd false (fVar 1) (fC (.int 1))) (fB gLen false (fACons (fVar 0) fANil))) (gN 3) b2__law_least_pair)
def F__law_least_pair : FF := fnOf 1 6 (fSeq (fFor (fEnumA (fVar 0)) (gT 2 (gsCons (gN 1) (gsCons (gN 2) gsNil))) b3__law_least_pair) (fRet 1 true (fC .none)))
def F__law_put : FF := fnOf 3 3 (fRet 3 true (fOp2 gAdd false (fOp2 gAdd false (fSlice false (fVar 0) fONo (fOSo (fVar 1))) (fTup (fACons (fVar 2) fANil))) (fSlice false (fVar 0) (fOSo (fOp2 gAdd false (fVar 1) (fC (.int 1)))) fONo)))
def F__law_is_error : FF := fnOf 3 3 (fRet 3 true (fCall (F__law_same 8) (fACons (fIfE (fTru (fVar 2)) (fCallK F_table_error 1 [0] (fACons (fVar 0) fANil)) (fCall F_table_error (fACons (fVar 0) fANil))) (fACons (fVar 1) fANil))))
def e1__law_are_pairs_told : FE := fNeg (fVar 10)
def b2__law_are_pairs_told : FS := fFgt [3, 4, 5, 6, 7, 8, 9] (fSeq (fSet 2 4 (fCall F__law_pick (fACons (fVar 0) (fACons (fLst false (fACons (fOp2 gSub false (fVar 2) (fC (.int 1))) (fACons (fCall F__law_draw (fACons (fVar 0) (fACons (fVar 2) fANil))) fANil))) fANil)))) (fSeq (fPar2 2 5 6 (fOp2 gIx false (fVar 1) (fVar 4)) (fCall F__law_draw (fACons (fVar 0) (fACons (fVar 2) fANil)))) (fSeq (fIf (fT (fOp2 (gEqX false) false (fVar 3) (fC (.int 0)))) (fSeq (fSet 2 7 (fCall F__law_put (fACons (fVar 1) (fACons (fVar 4) (fACons (fOp2 gAdd false (fOp2 gAdd false (fSlice false (fVar 5) fONo (fOSo (fVar 6))) (fTup (fACons (fNeg (fOp2 gIx false (fVar 5) (fVar 6))) fANil))) (fSlice false (fVar 5) (fOSo (fOp2 gAdd false (fVar 6) (fC (.int 1)))) fONo)) fANil))))) (fSet 2 8 (fTup (fACons (fC (.str "rows")) (fACons (fC (.int 0)) (fACons (fIfE (fT (fOp2 gGt false (fVar 4) (fC (.int 0)))) (fVar 4) (fC (.int 1))) fANil)))))) (fIf (fT (fOp2 gLt false (fVar 3) (fC (.int 3)))) (fSeq (fSet 2 9 (fIfE (fAnd (fT (fOp2 (gEqX false) false (fVar 3) (fC (.int 1)))) (fT (fOp2 (gEqX false) false (fVar 4) (fOp2 gSub false (fVar 2) (fC (.int 1)))))) (fOp2 gSub false (fVar 2) (fC (.int 2))) (fOp2 gMod false (fB gInt false (fACons (fOp2 gAdd false (fOp2 gAdd false (fVar 4) (fC (.int 1))) (fCall F__law_draw (fACons (fVar 0) (fACons (fOp2 gSub false (fVar 2) (fC (.int 1))) fANil)))) fANil)) (fVar 2)))) (fSeq (fSet 2 7 (fCall F__law_put (fACons (fVar 1) (fACons (fVar 4) (fACons (fIfE (fT (fOp2 gGt false (fCall F__law_draw (fACons (fVar 0) (fACons (fC (.int 2)) fANil))) (fC (.int 0)))) (fOp2 gIx false (fVar 1) (fVar 9)) (fB gToT false (fACons (fLc false (fIter (fOp2 gIx false (fVar 1) (fVar 9))) (gN 10) tYesF e1__law_are_pairs_told [10]) fANil))) fANil))))) (fSet 2 8 (fTup (fACons (fC (.str "rows")) (fACons (fB gMin2 false (fACons (fVar 4) (fACons (fVar 9) fANil))) (fACons (fB gMax2 false (fACons (fVar 4) (fACons (fVar 9) fANil))) fANil))))))) (fSeq (fSet 2 7 (fCall F__law_put (fACons (fCall F__law_put (fACons (fVar 1) (fACons (fVar 4) (fACons (fOp2 gIx false (fVar 1) (fCall F__law_draw (fACons (fVar 0) (fACons (fVar 2) fANil)))) fANil)))) (fACons (fOp2 gSub false (fOp2 gSub false (fVar 2) (fC (.int 1))) (fVar 4)) (fACons (fOp2 gIx false (fVar 1) (fCall F__law_draw (fACons (fVar 0) (fACons (fVar 2) fANil)))) fANil))))) (fSet 2 8 (fCall F__law_least_pair (fACons (fVar 7) fANil)))))) (fIf (fNot (fTru (fCall F__law_is_error (fACons (fVar 7) (fACons (fVar 8) (fACons (fOp2 gGt false (fCall F__law_draw (fACons (fVar 0) (fACons (fC (.int 2)) fANil))) (fC (.int 0))) fANil)))))) (fRet 2 true (fC (.bool false))) fNil))))
def F__law_are_pairs_told : FF := fnOf 2 11 (fSeq (fSet 2 2 (fB gLen false (fACons (fVar 1) fANil))) (fSeq (fFor (fRange1 (fIfE (fT (fOp2 gLt false (fVar 2) (fC (.int 20)))) (fC (.int 4)) (fC (.int 3)))) (gN 3) b2__law_are_pairs_told) (fRet 2 true (fC (.bool true)))))
def b1__law_are_forms_told : FS := fFgt [8] (fDrop (fAppend 6 (fCall F__law_put (fACons (fVar 1) (fACons (fVar 3) (fACons (fOp2 gAdd false (fOp2 gAdd false (fSlice false (fVar 5) fONo (fOSo (fVar 4))) (fTup (fACons (fVar 8) fANil))) (fSlice false (fVar 5) (fOSo (fOp2 gAdd false (fVar 4) (fC (.int 1)))) fONo)) fANil))))))
def b2__law_are_forms_told : FS := fFgt [10] (fIf (fNot (fTru (fCall F__law_is_error (fACons (fVar 10) (fACons (fC (.str "form")) (fACons (fOp2 gGt false (fCall F__law_draw (fACons (fVar 0) (fACons (fC (.int 2)) fANil))) (fC (.int 0))) fANil)))))) (fRet 2 true (fC (.bool false))) fNil)
def F__law_are_forms_told : FF := fnOf 2 12 (fSeq (fSet 2 2 (fB gLen false (fACons (fVar 1) fANil))) (fSeq (fPar2 2 3 4 (fCall F__law_pick (fACons (fVar 0) (fACons (fLst false (fACons (fOp2 gSub false (fVar 2) (fC (.int 1))) (fACons (fCall F__law_draw (fACons (fVar 0) (fACons (fVar 2) fANil))) fANil))) fANil))) (fCall F__law_pick (fACons (fVar 0) (fACons (fLst false (fACons (fOp2 gSub false (fVar 2) (fC (.int 1))) (fACons (fCall F__law_draw (fACons (fVar 0) (fACons (fVar 2) fANil))) fANil))) fANil)))) (fSeq (fPar2 2 5 6 (fOp2 gIx false (fVar 1) (fVar 3)) (fLst true fANil)) (fSeq (fSet 2 7 (fCall F__law_pick (fACons (fVar 0) (fACons (fLst false (fACons (fC (.int 0)) (fACons (fC (.int 2)) (fACons (fNeg (fC (.int 2))) (fACons (fC .none) (fACons (fC (.str "1")) (fACons (fTup (fACons (fC (.int 1)) fANil)) (fACons (fC (.int 3)) (fACons (fOp2 gPow false (fC (.int 10)) (fC (.int 30))) fANil))))))))) fANil)))) (fSeq (fFor (fIter (fLst false (fACons (fVar 7) (fACons (fC (.bool true)) (fACons (fOp2 gMulX false (fOp2 gIx false (fVar 5) (fVar 4)) (fC (.int 3))) fANil))))) (gN 8) b1__law_are_forms_told) (fSeq (fSet 2 9 (fOp2 gMulX false (fSlice false (fVar 1) fONo (fOSo (fC (.int 1)))) (fVar 2))) (fSeq (fDrop (fAppend 6 (fCall F__law_put (fACons (fVar 9) (fACons (fVar 3) (fACons (fOp2 gAdd false (fOp2 gAdd false (fSlice false (fVar 5) fONo (fOSo (fVar 4))) (fTup (fACons (fCall F__law_pick (fACons (fVar 0) (fACons (fLst false (fACons (fC (.bool true)) (fACons (fC (.int 0)) (fACons (fC .none) fANil)))) fANil))) fANil))) (fSlice false (fVar 5) (fOSo (fOp2 gAdd false (fVar 4) (fC (.int 1)))) fONo)) fANil)))))) (fSeq (fDrop (fAppend 6 (fCall F__law_put (fACons (fVar 1) (fACons (fVar 3) (fACons (fOp2 gAdd false (fSlice false (fVar 5) fONo (fOSo (fVar 4))) (fSlice false (fVar 5) (fOSo (fOp2 gAdd false (fVar 4) (fC (.int 1)))) fONo)) fANil)))))) (fSeq (fDrop (fAppend 6 (fCall F__law_put (fACons (fVar 1) (fACons (fVar 3) (fACons (fOp2 gAdd false (fVar 5) (fTup (fACons (fCall F__law_pick (fACons (fVar 0) (fACons (fLst false (fACons (fC (.int 1)) (fACons (fNeg (fC (.int 1))) (fACons (fC (.int 0)) fANil)))) fANil))) fANil))) fANil)))))) (fSeq (fDrop (fAppend 6 (fCall F__law_put (fACons (fVar 1) (fACons (fVar 3) (fACons (fB gToL false (fACons (fVar 5) fANil)) fANil)))))) (fSeq (fDrop (fAppend 6 (fOp2 gAdd false (fSlice false (fVar 1) fONo (fOSo (fVar 3))) (fSlice false (fVar 1) (fOSo (fOp2 gAdd false (fVar 3) (fC (.int 1)))) fONo)))) (fSeq (fDrop (fAppend 6 (fOp2 gAdd false (fVar 1) (fTup (fACons (fVar 5) fANil))))) (fSeq (fDrop (fAppend 6 (fB gToL false (fACons (fVar 1) fANil)))) (fSeq (fDrop (fAppend 6 (fCall F__law_pick (fACons (fVar 0) (fACons (fLst false (fACons (fC .none) (fACons (fTup fANil) (fACons (fTup (fACons (fTup fANil) fANil)) (fACons (fC (.int 1)) (fACons (fC (.bool true)) (fACons (fC (.str "1")) (fACons (fTup (fACons (fC (.int 1)) fANil)) (fACons (fFrzE (fDOne (fC (.int 0)) (fTup (fACons (fC (.int 1)) fANil)))) (fACons (fTup (fACons (fC .none) fANil)) (fACons (fTup (fACons (fTup (fACons (fC (.int 1)) (fACons (fC (.int 1)) fANil))) fANil)) (fACons (fTup (fACons (fLst false (fACons (fC (.int 1)) fANil)) fANil)) fANil)))))))))))) fANil))))) (fSeq (fDrop (fAppend 6 (fCall F__law_pick (fACons (fVar 0) (fACons (fLst false (fACons (fTup (fACons (fTup (fACons (fC (.bool true)) fANil)) fANil)) (fACons (fTup (fACons (fTup (fACons (fC (.int 0)) fANil)) fANil)) (fACons (fTup (fACons (fTup (fACons (fC (.int 1)) fANil)) (fACons (fTup (fACons (fC (.int 1)) fANil)) fANil))) (fACons (fTup (fACons (fTup (fACons (fC (.int 1)) (fACons (fC (.int 1)) fANil))) fANil)) (fACons (fTup (fACons (fTup (fACons (fTup (fACons (fC (.int 1)) fANil)) fANil)) fANil)) (fACons (fTup (fACons (fTup (fACons (fC (.str "1")) fANil)) fANil)) (fACons (fTup (fACons (fTup (fACons (fC (.int 2)) fANil)) fANil)) fANil)))))))) fANil))))) (fSeq (fIf (fT (fOp2 (gEqX false) false (fCall F__law_draw (fACons (fVar 0) (fACons (fC (.int 4)) fANil))) (fC (.int 0)))) (fDrop (fAppend 6 (fCall F__law_pick (fACons (fVar 0) (fACons (fLst false (fACons (fOp2 gMulX false (fTup (fACons (fOp2 gMulX false (fTup (fACons (fC (.int 1)) fANil)) (fC (.int 33))) fANil)) (fC (.int 33))) (fACons (fCall F__law_doubled (fACons (fC (.int 6)) fANil)) fANil))) fANil))))) fNil) (fFrz 6 (fSeq (fFor (fIter (fVar 6)) (gN 10) b2__law_are_forms_told) (fSeq (fSet 2 5 (fB gToL false (fACons (fOp2 gIx false (fVar 1) (fC (.int 0))) fANil))) (fSeq (fSet 2 11 (fB gToL false (fACons (fVar 5) fANil))) (fRet 2 true (fAndV (fCall F__law_is_error (fACons (fLst false (fACons (fVar 5) fANil)) (fACons (fC (.str "form")) (fACons (fC (.bool false)) fANil)))) (fAndV (fOp2 (gEqX false) false (fVar 5) (fVar 11)) (fAndV (fCall F__law_is_error (fACons (fTup (fACons (fVar 5) fANil)) (fACons (fC (.str "form")) (fACons (fC (.bool true)) fANil)))) (fOp2 (gEqX false) false (fVar 5) (fVar 11))))))))))))))))))))))))))
def e1__law_are_sums_right : FE := fOp2 gIx false (fVar 7) (fVar 13)
def e2__law_are_sums_right : FE := fOp2 gIx false (fVar 7) (fVar 13)
def b3__law_are_sums_right : FS := fFgt [3, 4, 5, 6, 7, 8, 9, 10, 11, 12] (fSeq (fMulti 2 [4, 5, 6] (fACons (fCall F__law_lot (fACons (fVar 0) (fACons (fVar 2) fANil))) (fACons (fCall F__law_lot (fACons (fVar 0) (fACons (fVar 2) fANil))) (fACons (fOp2 gGt false (fCall F__law_draw (fACons (fVar 0) (fACons (fC (.int 2)) fANil))) (fC (.int 0))) fANil)))) (fSeq (fSet 2 7 (fCall F__law_sums (fACons (fVar 1) (fACons (fVar 5) fANil)))) (fSeq (fPar2 2 8 9 (fB gSumA false (fACons (fLc false (fIter (fVar 4)) (gN 13) tYesF e1__law_are_sums_right [13]) fANil)) (fCall F__law_best (fACons (fVar 7) fANil))) (fSeq (fIf (fTru (fVar 6)) (fPar2 2 10 11 (fCallK F_sum_over 3 [2, 1, 0] (fACons (fVar 5) (fACons (fVar 4) (fACons (fVar 1) fANil)))) (fCallK F_best_rows 2 [1, 0] (fACons (fVar 5) (fACons (fVar 1) fANil)))) (fPar2 2 10 11 (fCall F_sum_over (fACons (fVar 1) (fACons (fVar 4) (fACons (fVar 5) fANil)))) (fCall F_best_rows (fACons (fVar 1) (fACons (fVar 5) fANil))))) (fSeq (fIf (fOr (fNot (fTru (fCall (F__law_same 8) (fACons (fVar 10) (fACons (fVar 8) fANil))))) (fNot (fTru (fCall (F__law_same 8) (fACons (fVar 11) (fACons (fVar 9) fANil)))))) (fRet 2 true (fC (.bool false))) fNil) (fSeq (fSet 2 12 (fCall F_sum_over (fACons (fVar 1) (fACons (fVar 11) (fACons (fVar 5) fANil))))) (fSeq (fIf (fOr (fNot (fTru (fCall (F__law_same 8) (fACons (fVar 12) (fACons (fB gSumA false (fACons (fLc false (fIter (fVar 9)) (gN 13) tYesF e2__law_are_sums_right [13]) fANil)) fANil))))) (fT (fOp2 gLt false (fB gAbs false (fACons (fVar 12) fANil)) (fB gAbs false (fACons (fVar 10) fANil))))) (fRet 2 true (fC (.bool false))) fNil) (fIf (fOr (fT (fOp2 gGt false (fOp2 gMulX false (fVar 10) (fVar 10)) (fOp2 gMulX false (fOp2 gMulX false (fVar 2) (fB gLen false (fACons (fVar 4) fANil))) (fB gLen false (fACons (fVar 5) fANil))))) (fT (fOp2 gGt false (fOp2 gMulX false (fVar 12) (fVar 12)) (fOp2 gMulX false (fOp2 gMulX false (fVar 2) (fB gLen false (fACons (fVar 11) fANil))) (fB gLen false (fACons (fVar 5) fANil)))))) (fRet 2 true (fC (.bool false))) fNil))))))))
def e4__law_are_sums_right : FE := fOp2 gIx false (fOp2 gIx false (fVar 1) (fVar 14)) (fVar 13)
def e5__law_are_sums_right : FE := fB gSumA false (fACons (fLc false (fIter (fVar 5)) (gN 13) tYesF e4__law_are_sums_right [13]) fANil)
def F__law_are_sums_right : FF := fnOf 2 15 (fSeq (fSet 2 2 (fB gLen false (fACons (fVar 1) fANil))) (fSeq (fFor (fRange1 (fIfE (fT (fOp2 gLt false (fVar 2) (fC (.int 20)))) (fC (.int 3)) (fC (.int 2)))) (gN 3) b3__law_are_sums_right) (fSeq (fMulti 2 [4, 5] (fACons (fCall F__law_lot (fACons (fVar 0) (fACons (fVar 2) fANil))) (fACons (fCall F__law_lot (fACons (fVar 0) (fACons (fVar 2) fANil))) fANil))) (fSeq (fSet 2 8 (fB gSumA false (fACons (fLc false (fIter (fVar 4)) (gN 14) tYesF e5__law_are_sums_right [14]) fANil))) (fRet 2 true (fAndV (fCall (F__law_same 8) (fACons (fCall F_sum_over (fACons (fVar 1) (fACons (fVar 4) (fACons (fVar 5) fANil)))) (fACons (fVar 8) fANil))) (fCall (F__law_same 8) (fACons (fCall F_sum_over (fACons (fVar 1) (fACons (fVar 4) (fACons (fVar 5) fANil)))) (fACons (fVar 8) fANil)))))))))
def b1__law_are_rows_square : FS := fFgt [3, 4] (fSeq (fSet 1 4 (fCall F_sum_over (fACons (fVar 0) (fACons (fTup (fACons (fVar 3) fANil)) (fACons (fTupR1 (fVar 1)) fANil))))) (fSeq (fIf (fNot (fTru (fCall (F__law_same 8) (fACons (fVar 4) (fACons (fB gSumA false (fACons (fOp2 gIx false (fVar 0) (fVar 3)) fANil)) fANil))))) (fRet 1 true (fC (.bool false))) fNil) (fSet 1 2 (fOp2 gAdd false (fVar 2) (fOp2 gMulX false (fVar 4) (fVar 4))))))
def F__law_are_rows_square : FF := fnOf 1 5 (fSeq (fPar2 1 1 2 (fB gLen false (fACons (fVar 0) fANil)) (fC (.int 0))) (fSeq (fFor (fRange1 (fVar 1)) (gN 3) b1__law_are_rows_square) (fRet 1 true (fOp2 (gEqX false) false (fVar 2) (fOp2 gMulX false (fVar 1) (fVar 1))))))
def F__law_is_right : FF := fnOf 1 10 (fSeq (fSet 1 1 (fCall F__law_draw (fACons (fVar 0) (fACons (fC (.int 16)) fANil)))) (fSeq (fPar2 1 2 3 (fCall F__law_pick (fACons (fVar 0) (fACons (fLst false (fACons (fC (.int 0)) (fACons (fC (.int 1)) (fACons (fC (.int 1)) (fACons (fC (.int 2)) (fACons (fC (.int 2)) (fACons (fC (.int 3)) (fACons (fC (.int 3)) (fACons (fC (.int 3)) (fACons (fC (.int 4)) fANil)))))))))) fANil))) (fCall F__law_pick (fACons (fVar 0) (fACons (fLst false (fACons (fC (.int 3)) (fACons (fC (.int 3)) (fACons (fC (.int 7)) (fACons (fC (.int 7)) (fACons (fC (.int 11)) fANil)))))) fANil)))) (fSeq (fIf (fT (fOp2 gLt false (fVar 1) (fC (.int 2)))) (fPar2 1 2 3 (fIfE (fT (fOp2 (gEqX false) false (fVar 1) (fC (.int 0)))) (fC (.int 5)) (fC (.int 4))) (fCall F__law_pick (fACons (fVar 0) (fACons (fLst false (fACons (fC (.int 19)) (fACons (fC (.int 23)) (fACons (fC (.int 31)) fANil)))) fANil)))) fNil) (fSeq (fPar2 1 4 5 (fOp2 gGt false (fCall F__law_draw (fACons (fVar 0) (fACons (fC (.int 2)) fANil))) (fC (.int 0))) (fOp2 gGt false (fCall F__law_draw (fACons (fVar 0) (fACons (fC (.int 2)) fANil))) (fC (.int 0)))) (fSeq (fIf (fT (fOp2 gLt false (fVar 1) (fC (.int 2)))) (fSet 1 5 (fOp2 (gEqX false) false (fVar 1) (fC (.int 0)))) fNil) (fSeq (fIf (fTru (fVar 5)) (fPar2 1 6 7 (fIfE (fTru (fVar 4)) (fCallK F_doubled_table 1 [0] (fACons (fVar 2) fANil)) (fCall F_doubled_table (fACons (fVar 2) fANil))) (fCall F__law_doubled (fACons (fVar 2) fANil))) (fPar2 1 6 7 (fIfE (fTru (fVar 4)) (fCallK F_leftover_table 1 [0] (fACons (fVar 3) fANil)) (fCall F_leftover_table (fACons (fVar 3) fANil))) (fCall F__law_leftover (fACons (fVar 3) fANil)))) (fSeq (fIf (fNot (fTru (fCall (F__law_same 8) (fACons (fVar 6) (fACons (fVar 7) fANil))))) (fRet 1 true (fC (.bool false))) fNil) (fSeq (fSet 1 8 (fCall F__law_own_table (fACons (fVar 0) (fACons (fVar 7) fANil)))) (fSeq (fIf (fOr (fNot (fTru (fCall F__law_is_error (fACons (fVar 8) (fACons (fC .none) (fACons (fVar 4) fANil)))))) (fNot (fTru (fCall F__law_are_sums_right (fACons (fVar 0) (fACons (fVar 8) fANil)))))) (fRet 1 true (fC (.bool false))) fNil) (fSeq (fIf (fOr (fNot (fTru (fCall F__law_are_forms_told (fACons (fVar 0) (fACons (fVar 8) fANil))))) (fAnd (fT (fOp2 gGt false (fB gLen false (fACons (fVar 8) fANil)) (fC (.int 1)))) (fNot (fTru (fCall F__law_are_pairs_told (fACons (fVar 0) (fACons (fVar 8) fANil))))))) (fRet 1 true (fC (.bool false))) fNil) (fSeq (fIf (fT (fOp2 gGt false (fB gLen false (fACons (fVar 8) fANil)) (fC (.int 12)))) (fRet 1 true (fC (.bool true))) fNil) (fSeq (fIf (fOr (fNot (fTru (fCall F__law_is_error (fACons (fVar 6) (fACons (fC .none) (fACons (fNotV (fVar 4)) fANil)))))) (fNot (fTru (fCall F__law_is_error (fACons (fVar 8) (fACons (fC .none) (fACons (fC (.bool false)) fANil))))))) (fRet 1 true (fC (.bool false))) fNil) (fSeq (fMulti 1 [2, 3, 9] (fACons (fCall F__law_draw (fACons (fVar 0) (fACons (fC (.int 6)) fANil))) (fACons (fCall F__law_pick (fACons (fVar 0) (fACons (fLst false (fACons (fC (.int 3)) (fACons (fC (.int 7)) (fACons (fC (.int 11)) (fACons (fC (.int 19)) (fACons (fC (.int 23)) (fACons (fC (.int 31)) fANil))))))) fANil))) (fACons (fCall F_leftover_table (fACons (fC (.int 3)) fANil)) fANil)))) (fSeq (fIf (fOr (fNot (fTru (fCall (F__law_same 8) (fACons (fCall F_doubled_table (fACons (fVar 2) fANil)) (fACons (fCall F__law_doubled (fACons (fVar 2) fANil)) fANil))))) (fNot (fTru (fCall (F__law_same 8) (fACons (fCall F_leftover_table (fACons (fVar 3) fANil)) (fACons (fCall F__law_leftover (fACons (fVar 3) fANil)) fANil)))))) (fRet 1 true (fC (.bool false))) fNil) (fRet 1 true (fAndV (fCall F__law_are_rows_square (fACons (fVar 8) fANil)) (fAndV (fCall F__law_is_error (fACons (fVar 9) (fACons (fC .none) (fACons (fC (.bool true)) fANil)))) (fCall (F__law_same 8) (fACons (fVar 9) (fACons (fCall F__law_leftover (fACons (fC (.int 3)) fANil)) fANil))))))))))))))))))))
def F_law : FF := fnOf 1 1 (fRet 1 true (fCallO 1 F__law_is_right (fCall F__law_own_bag (fACons (fVar 0) fANil))))
structure Bs (mg : Str → Option Value) : Prop where
  abs : mg "abs" = none
  «all» : mg "all" = none
  bool : mg "bool" = none
  enumerate : mg "enumerate" = none
  int : mg "int" = none
  isinstance : mg "isinstance" = none
  len : mg "len" = none
  list : mg "list" = none
  max : mg "max" = none
  min : mg "min" = none
  range : mg "range" = none
  reversed : mg "reversed" = none
  str : mg "str" = none
  sum : mg "sum" = none
  tuple : mg "tuple" = none
  zip : mg "zip" = none
  g_MAX_SIGNED : ∃ t, mg "MAX_SIGNED" = some (.int 32 t)
section
variable {P : Program} {w : World} {K : PySem.W.Frag} {mg : Str → Option Value} {base : Heap}
theorem sc_is_integer : FnScope ["value"] ["value"] (defScope s_is_integer) := ⟨rfl, rfl, rfl, by decide +kernel, rfl, by decide +kernel, by decide +kernel⟩
theorem ok_is_integer (B : Bs mg) (E : At K mg "is_integer" s_is_integer) : Def P w K mg base 1 "is_integer" s_is_integer ["value"] F_is_integer :=
  def_ok 0 E sc_is_integer (fun _ _ _ _ _ _ us hl => match us, hl with | [_], _ => rfl) (fun f cdv A outer s H E hr =>
    fss_one (fs_ret (fz := true) (fx_and (fx_isi (T := "int") B.isinstance B.int (fx_var 0)) (fx_one (fx_not (fx_isi (T := "bool") B.isinstance B.bool (fx_var 0)))))))
theorem sc_is_sign_row : FnScope ["value", "n", "item"] ["value", "n"] (defScope s_is_sign_row) := ⟨rfl, rfl, rfl, by decide +kernel, rfl, by decide +kernel, by decide +kernel⟩
theorem ok_is_sign_row (B : Bs mg) (D_is_integer : Def P w K mg base 1 "is_integer" s_is_integer ["value"] F_is_integer) (E : At K mg "is_sign_row" s_is_sign_row) : Def P w K mg base 2 "is_sign_row" s_is_sign_row ["value", "n"] F_is_sign_row :=
  def_ok 1 E sc_is_sign_row (fun _ _ _ _ _ _ us hl => match us, hl with | [_, _], _ => rfl) (fun f cdv A outer s H E hr =>
    fss_cons (fs_if ((fw_or (ft_not (ft_truth (fx_isi (T := "tuple") B.isinstance B.tuple (fx_var 0)))) (fw_or1 (ft_cmp (op_neA hr.units) snd_neX (fx_B (ow := false) call_len snd_len B.len (fa_cons (fx_var 0) fa_nil)) (fx_var 1) (nomark _)))).ft) (fss_one (fs_ret (fz := true) fx_bl)) fss_nil) (fss_one (fs_ret (fz := true) (fx_B (ow := false) (cr_all rfl) snd_all B.«all» (fa_cons (fx_lc (own := [("item", 2)]) (ow := false) rfl sc_is_sign_row.nd (fi_seq (fx_var 0)) (blkOk_by (own := [("item", 2)]) (N := N_is_sign_row) (sc := defScope s_is_sign_row) (by decide +kernel)) (fun _ _ _ _ _ => fg_name (i := 2) sc_is_sign_row.nd) (fun _ _ _ _ _ => fts_nil) (fun _ _ _ _ _ => fx_and (fx_callD D_is_integer (hr.mono (by first | decide | omega)) (fa_cons (fx_var 2) fa_nil)) (fx_one (fx_cmp op_in_seq snd_in (fx_var 2) (fx_tup (fa_cons fx_int (fa_cons (fx_neg fx_int) fa_nil))) (by rfl))))) fa_nil)))))
theorem sc_table_error : FnScope ["value", "i", "row", "j", "x", "y"] ["value"] (defScope s_table_error) := ⟨rfl, rfl, rfl, by decide +kernel, rfl, by decide +kernel, by decide +kernel⟩
theorem ok_table_error (B : Bs mg) (D_is_sign_row : Def P w K mg base 2 "is_sign_row" s_is_sign_row ["value", "n"] F_is_sign_row) (E : At K mg "table_error" s_table_error) : Def P w K mg base 3 "table_error" s_table_error ["value"] F_table_error :=
  def_ok 2 E sc_table_error (fun _ _ _ _ _ _ us hl => match us, hl with | [_], _ => rfl) (fun f cdv A outer s H E hr =>
    fss_cons (fs_if ((fw_or (ft_not (ft_truth (fx_isi (T := "tuple") B.isinstance B.tuple (fx_var 0)))) (fw_or1 (ft_not (ft_chain op_le snd_rel op_le snd_rel fx_int (fx_B (ow := false) call_len snd_len B.len (fa_cons (fx_var 0) fa_nil)) (fx_globI (by rfl) B.g_MAX_SIGNED))))).ft) (fss_one (fs_ret (fz := true) fx_str)) fss_nil) (fss_cons (fs_if (ft_not (ft_truth (fx_B (ow := false) (cr_all rfl) snd_all B.«all» (fa_cons (fx_lc (own := [("row", 2)]) (ow := false) rfl sc_table_error.nd (fi_seq (fx_var 0)) (blkOk_by (own := [("row", 2)]) (N := N_table_error) (sc := defScope s_table_error) (by decide +kernel)) (fun _ _ _ _ _ => fg_name (i := 2) sc_table_error.nd) (fun _ _ _ _ _ => fts_nil) (fun _ _ _ _ _ => fx_callD D_is_sign_row (hr.mono (by first | decide | omega)) (fa_cons (fx_var 2) (fa_cons (fx_B (ow := false) call_len snd_len B.len (fa_cons (fx_var 0) fa_nil)) fa_nil)))) fa_nil)))) (fss_one (fs_ret (fz := true) fx_str)) fss_nil) (fss_cons (fs_for PassesOwn.never rfl (fi_enumA B.enumerate (fx_var 0)) (fg_tup rfl (fgs_cons (fg_name (i := 1) sc_table_error.nd) (fgs_cons (fg_name (i := 2) sc_table_error.nd) fgs_nil))) (fss_fgt [1, 2, 3] (fss_one (fs_for PassesOwn.never rfl (fi_range2 B.range (fx_op (ow := false) op_addA snd_add (fx_var 1) fx_int) (fx_B (ow := false) call_len snd_len B.len (fa_cons (fx_var 0) fa_nil))) (fg_name (i := 3) sc_table_error.nd) (fss_fgt [3] (fss_one (fs_if (ft_cmp (op_neA hr.units) snd_neX (fx_B (ow := false) (cr_sumA rfl) snd_sumA B.sum (fa_cons (fx_lc (own := [("x", 4), ("y", 5)]) (ow := false) rfl sc_table_error.nd (fi_zip B.zip (fa_cons (fx_var 2) (fa_cons (fx_ix (fx_var 0) (fx_var 3)) fa_nil))) (blkOk_by (own := [("x", 4), ("y", 5)]) (N := N_table_error) (sc := defScope s_table_error) (by decide +kernel)) (fun _ _ _ _ _ => fg_tup rfl (fgs_cons (fg_name (i := 4) sc_table_error.nd) (fgs_cons (fg_name (i := 5) sc_table_error.nd) fgs_nil))) (fun _ _ _ _ _ => fts_nil) (fun _ _ _ _ _ => fx_op (ow := false) op_mulX snd_mulX (fx_var 4) (fx_var 5))) fa_nil)) fx_int (nomark _)) (fss_one (fs_ret (fz := true) (fx_tup (fa_cons fx_str (fa_cons (fx_var 1) (fa_cons (fx_var 3) fa_nil)))))) fss_nil))))))) (fss_one (fs_ret (fz := true) fx_non)))))
theorem sc_doubled_table : FnScope ["many", "found", "turn", "above", "row", "item"] ["many"] (defScope s_doubled_table) := ⟨rfl, rfl, rfl, by decide +kernel, rfl, by decide +kernel, by decide +kernel⟩
theorem ok_doubled_table (B : Bs mg) (E : At K mg "doubled_table" s_doubled_table) : Def P w K mg base 1 "doubled_table" s_doubled_table ["many"] F_doubled_table :=
  def_ok 0 E sc_doubled_table (fun _ _ _ _ _ _ us hl => match us, hl with | [_], _ => rfl) (fun f cdv A outer s H E hr =>
    fss_cons (fs_set (i := 1) sc_doubled_table.nd (fx_lst (ow := false) (fa_cons (fx_tup (fa_cons fx_int fa_nil)) fa_nil))) (fss_cons (fs_for PassesOwn.never rfl (fi_range1 B.range (fx_var 0)) (fg_name (i := 2) sc_doubled_table.nd) (fss_fgt [2, 3] (fss_cons (fs_setLc (i := 3) (own := [("row", 4)]) (ow := false) rfl sc_doubled_table.nd rfl (sw_true rfl rfl rfl (by decide +kernel)) (fi_seq (fx_var 1)) (blkOk_by (own := [("row", 4)]) (N := N_doubled_table) (sc := defScope s_doubled_table) (by decide +kernel)) (fun _ _ _ _ _ => fg_name (i := 4) sc_doubled_table.nd) (fun _ _ _ _ _ => fts_nil) (fun _ _ _ _ _ => fx_op (ow := false) op_addA snd_add (fx_var 4) (fx_var 4))) (fss_one (fs_set (i := 1) sc_doubled_table.nd (fx_op (ow := false) op_addA snd_add (fx_var 3) (fx_lc (own := [("row", 4)]) (ow := false) rfl sc_doubled_table.nd (fi_seq (fx_var 1)) (blkOk_by (own := [("row", 4)]) (N := N_doubled_table) (sc := defScope s_doubled_table) (by decide +kernel)) (fun _ _ _ _ _ => fg_name (i := 4) sc_doubled_table.nd) (fun _ _ _ _ _ => fts_nil) (fun _ _ _ _ _ => fx_op (ow := false) op_addA snd_add (fx_var 4) (fx_Ty (ow := false) call_tuple_of snd_toT B.tuple (fa_cons (fx_lc (own := [("item", 5)]) (ow := false) rfl sc_doubled_table.nd (fi_seq (fx_var 4)) (blk_in (own := [("item", 5)]) (N := N_doubled_table) rfl (by decide +kernel)) (fun _ _ _ _ _ => fg_name (i := 5) sc_doubled_table.nd) (fun _ _ _ _ _ => fts_nil) (fun _ _ _ _ _ => fx_neg (fx_var 5))) fa_nil)))))))))) (fss_one (fs_ret (fz := true) (fx_Ty (ow := false) call_tuple_of snd_toT B.tuple (fa_cons (fx_var 1) fa_nil))))))
theorem sc_leftover_table : FnScope ["p", "squares", "found", "i", "row", "x", "j"] ["p"] (defScope s_leftover_table) := ⟨rfl, rfl, rfl, by decide +kernel, rfl, by decide +kernel, by decide +kernel⟩
theorem ok_leftover_table (B : Bs mg) (E : At K mg "leftover_table" s_leftover_table) : Def P w K mg base 1 "leftover_table" s_leftover_table ["p"] F_leftover_table :=
  def_ok 0 E sc_leftover_table (fun _ _ _ _ _ _ us hl => match us, hl with | [_], _ => rfl) (fun f cdv A outer s H E hr =>
    fss_cons (fs_set (i := 1) sc_leftover_table.nd (fx_lc (own := [("x", 5)]) (ow := false) rfl sc_leftover_table.nd (fi_range2 B.range fx_int (fx_var 0)) (blkOk_by (own := [("x", 5)]) (N := N_leftover_table) (sc := defScope s_leftover_table) (by decide +kernel)) (fun _ _ _ _ _ => fg_name (i := 5) sc_leftover_table.nd) (fun _ _ _ _ _ => fts_nil) (fun _ _ _ _ _ => fx_op (ow := false) op_mod snd_mod (fx_op (ow := false) op_mulX snd_mulX (fx_var 5) (fx_var 5)) (fx_var 0)))) (fss_cons (fs_set (i := 2) sc_leftover_table.nd (fx_lst (ow := true) (fa_cons (fx_op (ow := false) op_mulX snd_mulX (fx_tup (fa_cons fx_int fa_nil)) (fx_op (ow := false) op_addA snd_add (fx_var 0) fx_int)) fa_nil))) (fss_cons (fs_for PassesOwn.never rfl (fi_range2 B.range fx_int (fx_op (ow := false) op_addA snd_add (fx_var 0) fx_int)) (fg_name (i := 3) sc_leftover_table.nd) (fss_fgt [3, 4] (fss_cons (fs_set (i := 4) sc_leftover_table.nd (fx_lst (ow := true) (fa_cons (fx_neg fx_int) fa_nil))) (fss_cons (fs_expr (fx_extend 4 (fx_lc (own := [("j", 6)]) (ow := false) rfl sc_leftover_table.nd (fi_range2 B.range fx_int (fx_op (ow := false) op_addA snd_add (fx_var 0) fx_int)) (blkOk_by (own := [("j", 6)]) (N := N_leftover_table) (sc := defScope s_leftover_table) (by decide +kernel)) (fun _ _ _ _ _ => fg_name (i := 6) sc_leftover_table.nd) (fun _ _ _ _ _ => fts_nil) (fun _ _ _ _ _ => fx_ifE ((fw_or (ft_cmp (op_eqA hr.units) snd_eqX (fx_var 3) (fx_var 6) (nomark _)) (fw_or1 (ft_cmp op_in_seq snd_in (fx_op (ow := false) op_mod snd_mod (fx_op (ow := false) op_sub snd_int2 (fx_var 6) (fx_var 3)) (fx_var 0)) (fx_var 1) (by rfl)))).ft) fx_int (fx_neg fx_int))))) (fss_frz 4 (fss_one (fs_expr (fx_append 2 (fx_Ty (ow := false) call_tuple_of snd_toT B.tuple (fa_cons (fx_var 4) fa_nil)))))))))) (fss_frz 2 (fss_one (fs_ret (fz := true) (fx_Ty (ow := false) call_tuple_of snd_toT B.tuple (fa_cons (fx_var 2) fa_nil))))))))
theorem sc_sum_over : FnScope ["table", "rows", "columns", "i", "j"] ["table", "rows", "columns"] (defScope s_sum_over) := ⟨rfl, rfl, rfl, by decide +kernel, rfl, by decide +kernel, by decide +kernel⟩
theorem ok_sum_over (B : Bs mg) (E : At K mg "sum_over" s_sum_over) : Def P w K mg base 1 "sum_over" s_sum_over ["table", "rows", "columns"] F_sum_over :=
  def_ok 0 E sc_sum_over (fun _ _ _ _ _ _ us hl => match us, hl with | [_, _, _], _ => rfl) (fun f cdv A outer s H E hr =>
    fss_one (fs_ret (fz := true) (fx_B (ow := false) (cr_sumA rfl) snd_sumA B.sum (fa_cons (fx_lc (own := [("i", 3)]) (ow := false) rfl sc_sum_over.nd (fi_seq (fx_var 1)) (blkOk_by (own := [("i", 3)]) (N := N_sum_over) (sc := defScope s_sum_over) (by decide +kernel)) (fun _ _ _ _ _ => fg_name (i := 3) sc_sum_over.nd) (fun _ _ _ _ _ => fts_nil) (fun _ _ _ _ _ => fx_B (ow := false) (cr_sumA rfl) snd_sumA B.sum (fa_cons (fx_lc (own := [("j", 4)]) (ow := false) rfl sc_sum_over.nd (fi_seq (fx_var 2)) (blk_in (own := [("j", 4)]) (N := N_sum_over) rfl (by decide +kernel)) (fun _ _ _ _ _ => fg_name (i := 4) sc_sum_over.nd) (fun _ _ _ _ _ => fts_nil) (fun _ _ _ _ _ => fx_ix (fx_ix (fx_var 0) (fx_var 3)) (fx_var 4))) fa_nil))) fa_nil))))
theorem sc_best_rows : FnScope ["table", "columns", "sums", "above", "below", "is_above", "row", "j", "i", "own"] ["table", "columns"] (defScope s_best_rows) := ⟨rfl, rfl, rfl, by decide +kernel, rfl, by decide +kernel, by decide +kernel⟩
theorem ok_best_rows (B : Bs mg) (E : At K mg "best_rows" s_best_rows) : Def P w K mg base 1 "best_rows" s_best_rows ["table", "columns"] F_best_rows :=
  def_ok 0 E sc_best_rows (fun _ _ _ _ _ _ us hl => match us, hl with | [_, _], _ => rfl) (fun f cdv A outer s H E hr =>
    fss_cons (fs_set (i := 2) sc_best_rows.nd (fx_lc (own := [("row", 6)]) (ow := false) rfl sc_best_rows.nd (fi_seq (fx_var 0)) (blkOk_by (own := [("row", 6)]) (N := N_best_rows) (sc := defScope s_best_rows) (by decide +kernel)) (fun _ _ _ _ _ => fg_name (i := 6) sc_best_rows.nd) (fun _ _ _ _ _ => fts_nil) (fun _ _ _ _ _ => fx_B (ow := false) (cr_sumA rfl) snd_sumA B.sum (fa_cons (fx_lc (own := [("j", 7)]) (ow := false) rfl sc_best_rows.nd (fi_seq (fx_var 1)) (blk_in (own := [("j", 7)]) (N := N_best_rows) rfl (by decide +kernel)) (fun _ _ _ _ _ => fg_name (i := 7) sc_best_rows.nd) (fun _ _ _ _ _ => fts_nil) (fun _ _ _ _ _ => fx_ix (fx_var 6) (fx_var 7))) fa_nil)))) (fss_cons (fs_setLc (i := 3) (own := [("i", 8), ("own", 9)]) (ow := false) rfl sc_best_rows.nd rfl (sw_true rfl rfl rfl (by decide +kernel)) (fi_enumA B.enumerate (fx_var 2)) (blkOk_by (own := [("i", 8), ("own", 9)]) (N := N_best_rows) (sc := defScope s_best_rows) (by decide +kernel)) (fun _ _ _ _ _ => fg_tup rfl (fgs_cons (fg_name (i := 8) sc_best_rows.nd) (fgs_cons (fg_name (i := 9) sc_best_rows.nd) fgs_nil))) (fun _ _ _ _ _ => fts_one (ft_cmp op_gt snd_rel (fx_var 9) fx_int (nomark _))) (fun _ _ _ _ _ => fx_var 8)) (fss_cons (fs_setLc (i := 4) (own := [("i", 8), ("own", 9)]) (ow := false) rfl sc_best_rows.nd rfl (sw_true rfl rfl rfl (by decide +kernel)) (fi_enumA B.enumerate (fx_var 2)) (blkOk_by (own := [("i", 8), ("own", 9)]) (N := N_best_rows) (sc := defScope s_best_rows) (by decide +kernel)) (fun _ _ _ _ _ => fg_tup rfl (fgs_cons (fg_name (i := 8) sc_best_rows.nd) (fgs_cons (fg_name (i := 9) sc_best_rows.nd) fgs_nil))) (fun _ _ _ _ _ => fts_one (ft_cmp op_lt snd_rel (fx_var 9) fx_int (nomark _))) (fun _ _ _ _ _ => fx_var 8)) (fss_cons (fs_set (i := 5) sc_best_rows.nd (fx_cmp op_ge snd_rel (fx_B (ow := false) (cr_sumA rfl) snd_sumA B.sum (fa_cons (fx_lc (own := [("i", 8)]) (ow := false) rfl sc_best_rows.nd (fi_seq (fx_var 3)) (blkOk_by (own := [("i", 8)]) (N := N_best_rows) (sc := defScope s_best_rows) (by decide +kernel)) (fun _ _ _ _ _ => fg_name (i := 8) sc_best_rows.nd) (fun _ _ _ _ _ => fts_nil) (fun _ _ _ _ _ => fx_ix (fx_var 2) (fx_var 8))) fa_nil)) (fx_neg (fx_B (ow := false) (cr_sumA rfl) snd_sumA B.sum (fa_cons (fx_lc (own := [("i", 8)]) (ow := false) rfl sc_best_rows.nd (fi_seq (fx_var 4)) (blkOk_by (own := [("i", 8)]) (N := N_best_rows) (sc := defScope s_best_rows) (by decide +kernel)) (fun _ _ _ _ _ => fg_name (i := 8) sc_best_rows.nd) (fun _ _ _ _ _ => fts_nil) (fun _ _ _ _ _ => fx_ix (fx_var 2) (fx_var 8))) fa_nil))) (nomark _))) (fss_one (fs_ret (fz := true) (fx_Ty (ow := false) call_tuple_of snd_toT B.tuple (fa_cons (fx_ifE (ft_truth (fx_var 5)) (fx_var 3) (fx_var 4)) fa_nil))))))))
theorem sc__law_own_bag : FnScope ["script", "cells", "mixed", "cell"] ["script"] (defScope s__law_own_bag) := ⟨rfl, rfl, rfl, by decide +kernel, rfl, by decide +kernel, by decide +kernel⟩
theorem ok__law_own_bag (B : Bs mg) (E : At K mg "_law_own_bag" s__law_own_bag) : Def P w K mg base 1 "_law_own_bag" s__law_own_bag ["script"] F__law_own_bag :=
  def_ok 0 E sc__law_own_bag (fun _ _ _ _ _ _ us hl => match us, hl with | [_], _ => rfl) (fun f cdv A outer s H E hr =>
    fss_cons (fs_setLc (i := 1) (own := [("cell", 3)]) (ow := false) rfl sc__law_own_bag.nd rfl (sw_true rfl rfl rfl (by decide +kernel)) (fi_seq (fx_slice (ow := false) (fx_var 0) fo_none (fo_some fx_int))) (blkOk_by (own := [("cell", 3)]) (N := N__law_own_bag) (sc := defScope s__law_own_bag) (by decide +kernel)) (fun _ _ _ _ _ => fg_name (i := 3) sc__law_own_bag.nd) (fun _ _ _ _ _ => fts_nil) (fun _ _ _ _ _ => fx_B (ow := false) call_abs snd_abs B.abs (fa_cons (fx_var 3) fa_nil))) (fss_cons (fs_set (i := 2) sc__law_own_bag.nd (fx_op (ow := false) op_addA snd_add fx_int (fx_B (ow := false) call_len snd_len B.len (fa_cons (fx_var 1) fa_nil)))) (fss_cons (fs_for PassesOwn.never rfl (fi_seq (fx_var 1)) (fg_name (i := 3) sc__law_own_bag.nd) (fss_fgt [3] (fss_one (fs_set (i := 2) sc__law_own_bag.nd (fx_op (ow := false) op_mod snd_mod (fx_Ty (ow := false) call_int1 snd_toInt B.int (fa_cons (fx_op (ow := false) op_addA snd_add (fx_op (ow := false) op_addA snd_add (fx_op (ow := false) op_mulX snd_mulX (fx_var 2) fx_int) (fx_op (ow := false) op_mod snd_mod (fx_Ty (ow := false) call_int1 snd_toInt B.int (fa_cons (fx_var 3) fa_nil)) fx_int)) fx_int) fa_nil)) fx_int))))) (fss_one (fs_ret (fz := false) (fx_mkBag (fx_listRev (ow := true) rfl B.list B.reversed (fx_Ty (ow := false) call_list_of snd_toL B.list (fa_cons (fx_var 1) fa_nil))) fx_int (fx_var 2)))))))
theorem sc__law_draw : FnScope ["bag", "below", "cell", "found"] ["bag", "below"] (defScope s__law_draw) := ⟨rfl, rfl, rfl, by decide +kernel, rfl, by decide +kernel, by decide +kernel⟩
theorem ok__law_draw (B : Bs mg) (E : At K mg "_law_draw" s__law_draw) : Def P w K mg base 1 "_law_draw" s__law_draw ["bag", "below"] F__law_draw :=
  def_ok 0 E sc__law_draw (fun _ _ _ _ _ _ us hl => match us, hl with | [_, _], _ => rfl) (fun f cdv A outer s H E hr =>
    fss_cons (fs_while FUEL PassesOwn.never ((fw_and (ft_cmp (op_eqA hr.units) snd_eqX (fx_bagIx 0) fx_int (nomark _)) (fw_and1 (ft_bagNe 0 hr.units))).ft) (fss_fgt [2] (fss_cons (fs_set (i := 2) sc__law_draw.nd (fx_bagPop 0)) (fss_one (fs_bagPut 0 (fx_ifE (ft_cmp op_gt snd_rel (fx_var 2) (fx_op (ow := false) op_pow snd_pow fx_int fx_int) (nomark _)) (fx_var 2) fx_int)))))) (fss_cons (fs_if (ft_cmp op_gt snd_rel (fx_bagIx 0) fx_int (nomark _)) (fss_cons (fs_set (i := 3) sc__law_draw.nd (fx_op (ow := false) op_mod snd_mod (fx_Ty (ow := false) call_int1 snd_toInt B.int (fa_cons (fx_bagIx 0) fa_nil)) (fx_var 1))) (fss_cons (fs_bagPut 0 (fx_op (ow := false) op_fdivW snd_div (fx_bagIx 0) (fx_var 1))) (fss_one (fs_ret (fz := true) (fx_var 3))))) fss_nil) (fss_cons (fs_bagPut 0 (fx_op (ow := false) op_mod snd_mod (fx_Ty (ow := false) call_int1 snd_toInt B.int (fa_cons (fx_op (ow := false) op_addA snd_add (fx_op (ow := false) op_mulX snd_mulX (fx_bagIx 0) fx_int) fx_int) fa_nil)) fx_int)) (fss_one (fs_ret (fz := true) (fx_op (ow := false) op_mod snd_mod (fx_Ty (ow := false) call_int1 snd_toInt B.int (fa_cons (fx_op (ow := false) op_fdivW snd_div (fx_op (ow := false) op_mod snd_mod (fx_Ty (ow := false) call_int1 snd_toInt B.int (fa_cons (fx_op (ow := false) op_mulX snd_mulX (fx_bagIx 0) (fx_bagIx 0)) fa_nil)) fx_int) fx_int) fa_nil)) (fx_var 1)))))))
theorem sc__law_pick : FnScope ["bag", "some"] ["bag", "some"] (defScope s__law_pick) := ⟨rfl, rfl, rfl, by decide +kernel, rfl, by decide +kernel, by decide +kernel⟩
theorem ok__law_pick (B : Bs mg) (D__law_draw : Def P w K mg base 1 "_law_draw" s__law_draw ["bag", "below"] F__law_draw) (E : At K mg "_law_pick" s__law_pick) : Def P w K mg base 2 "_law_pick" s__law_pick ["bag", "some"] F__law_pick :=
  def_ok 1 E sc__law_pick (fun _ _ _ _ _ _ us hl => match us, hl with | [_, _], _ => rfl) (fun f cdv A outer s H E hr =>
    fss_one (fs_ret (fz := true) (fx_ix (fx_var 1) (fx_callD D__law_draw (hr.mono (by first | decide | omega)) (fa_cons (fx_var 0) (fa_cons (fx_B (ow := false) call_len snd_len B.len (fa_cons (fx_var 1) fa_nil)) fa_nil))))))
theorem sc__law_same : FnScope ["told", "due", "one", "two"] ["told", "due"] (defScope s__law_same) := ⟨rfl, rfl, rfl, by decide +kernel, rfl, by decide +kernel, by decide +kernel⟩
theorem ok__law_same (B : Bs mg) (E : At K mg "_law_same" s__law_same) : ∀ n : Nat, Def P w K mg base (0 + n + 1) "_law_same" s__law_same ["told", "due"] (F__law_same n)
  | 0 => by
    obtain ⟨f, fd, Fn, hm⟩ := E
    exact ⟨⟨f, fd, Fn, fnG_none, hm⟩, (fun _ _ _ _ _ _ us hl => match us, hl with | [_, _], _ => rfl)⟩
  | n + 1 => by
    have D__law_same := ok__law_same B E n
    exact def_ok (0 + n + 1) E sc__law_same (fun _ _ _ _ _ _ us hl => match us, hl with | [_, _], _ => rfl) (fun f cdv A outer s H E hr =>
      fss_cons (fs_if (ft_truth (fx_isi (T := "tuple") B.isinstance B.tuple (fx_var 1))) (fss_cons (fs_if ((fw_or (ft_not (ft_truth (fx_isi (T := "tuple") B.isinstance B.tuple (fx_var 0)))) (fw_or1 (ft_cmp (op_neA hr.units) snd_neX (fx_B (ow := false) call_len snd_len B.len (fa_cons (fx_var 0) fa_nil)) (fx_B (ow := false) call_len snd_len B.len (fa_cons (fx_var 1) fa_nil)) (nomark _)))).ft) (fss_one (fs_ret (fz := true) fx_bl)) fss_nil) (fss_one (fs_ret (fz := true) (fx_B (ow := false) (cr_all rfl) snd_all B.«all» (fa_cons (fx_lc (own := [("one", 2), ("two", 3)]) (ow := false) rfl sc__law_same.nd (fi_seq (fx_listZip (ow := false) rfl B.list B.zip (fa_cons (fx_var 0) (fa_cons (fx_var 1) fa_nil)))) (blkOk_by (own := [("one", 2), ("two", 3)]) (N := N__law_same) (sc := defScope s__law_same) (by decide +kernel)) (fun _ _ _ _ _ => fg_tup rfl (fgs_cons (fg_name (i := 2) sc__law_same.nd) (fgs_cons (fg_name (i := 3) sc__law_same.nd) fgs_nil))) (fun _ _ _ _ _ => fts_nil) (fun _ _ _ _ _ => fx_callD D__law_same (hr.mono (by first | decide | omega)) (fa_cons (fx_var 2) (fa_cons (fx_var 3) fa_nil)))) fa_nil))))) fss_nil) (fss_cons (fs_if (ft_cmp op_isA snd_is (fx_var 1) fx_non (nomark _)) (fss_one (fs_ret (fz := true) (fx_cmp op_isA snd_is (fx_var 0) fx_non (nomark _)))) fss_nil) (fss_cons (fs_if (ft_truth (fx_isi (T := "str") B.isinstance B.str (fx_var 1))) (fss_one (fs_ret (fz := true) (fx_and (fx_isi (T := "str") B.isinstance B.str (fx_var 0)) (fx_one (fx_cmp (op_eqA hr.units) snd_eqX (fx_var 0) (fx_var 1) (nomark _)))))) fss_nil) (fss_one (fs_ret (fz := true) (fx_and (fx_isi (T := "int") B.isinstance B.int (fx_var 0)) (fx_and (fx_not (fx_isi (T := "bool") B.isinstance B.bool (fx_var 0))) (fx_one (fx_cmp (op_eqA hr.units) snd_eqX (fx_var 0) (fx_var 1) (nomark _))))))))))
theorem sc__law_doubled : FnScope ["many", "rows", "step", "above", "below", "row", "x"] ["many"] (defScope s__law_doubled) := ⟨rfl, rfl, rfl, by decide +kernel, rfl, by decide +kernel, by decide +kernel⟩
theorem ok__law_doubled (B : Bs mg) (E : At K mg "_law_doubled" s__law_doubled) : Def P w K mg base 1 "_law_doubled" s__law_doubled ["many"] F__law_doubled :=
  def_ok 0 E sc__law_doubled (fun _ _ _ _ _ _ us hl => match us, hl with | [_], _ => rfl) (fun f cdv A outer s H E hr =>
    fss_cons (fs_set (i := 1) sc__law_doubled.nd (fx_lst (ow := false) (fa_cons (fx_tup (fa_cons fx_int fa_nil)) fa_nil))) (fss_cons (fs_for PassesOwn.never rfl (fi_range1 B.range (fx_var 0)) (fg_name (i := 2) sc__law_doubled.nd) (fss_fgt [2, 3, 4, 5] (fss_cons (fs_par2 (i := 3) (j := 4) rfl sc__law_doubled.nd (fx_lst (ow := true) fa_nil) (fx_lst (ow := true) fa_nil)) (fss_cons (fs_for PassesOwn.never rfl (fi_seq (fx_var 1)) (fg_name (i := 5) sc__law_doubled.nd) (fss_fgt [5] (fss_cons (fs_expr (fx_append 3 (fx_op (ow := false) op_addA snd_add (fx_var 5) (fx_var 5)))) (fss_one (fs_expr (fx_append 4 (fx_op (ow := false) op_addA snd_add (fx_var 5) (fx_Ty (ow := false) call_tuple_of snd_toT B.tuple (fa_cons (fx_lc (own := [("x", 6)]) (ow := false) rfl sc__law_doubled.nd (fi_seq (fx_var 5)) (blkOk_by (own := [("x", 6)]) (N := N__law_doubled) (sc := defScope s__law_doubled) (by decide +kernel)) (fun _ _ _ _ _ => fg_name (i := 6) sc__law_doubled.nd) (fun _ _ _ _ _ => fts_nil) (fun _ _ _ _ _ => fx_neg (fx_var 6))) fa_nil))))))))) (fss_frz 3 (fss_frz 4 (fss_one (fs_set (i := 1) sc__law_doubled.nd (fx_op (ow := false) op_addA snd_add (fx_var 3) (fx_var 4)))))))))) (fss_one (fs_ret (fz := true) (fx_Ty (ow := false) call_tuple_of snd_toT B.tuple (fa_cons (fx_var 1) fa_nil))))))
theorem sc__law_leftover : FnScope ["p", "signs", "x", "rows", "i", "j"] ["p"] (defScope s__law_leftover) := ⟨rfl, rfl, rfl, by decide +kernel, rfl, by decide +kernel, by decide +kernel⟩
theorem ok__law_leftover (B : Bs mg) (E : At K mg "_law_leftover" s__law_leftover) : Def P w K mg base 1 "_law_leftover" s__law_leftover ["p"] F__law_leftover :=
  def_ok 0 E sc__law_leftover (fun _ _ _ _ _ _ us hl => match us, hl with | [_], _ => rfl) (fun f cdv A outer s H E hr =>
    fss_cons (fs_set (i := 1) sc__law_leftover.nd (fx_op (ow := true) op_mulX snd_mulX (fx_lst (ow := false) (fa_cons (fx_neg fx_int) fa_nil)) (fx_var 0))) (fss_cons (fs_for PassesOwn.never rfl (fi_range2 B.range fx_int (fx_var 0)) (fg_name (i := 2) sc__law_leftover.nd) (fss_fgt [2] (fss_one (fs_putIx 1 fx_int (fx_op (ow := false) op_mod snd_mod (fx_Ty (ow := false) call_int1 snd_toInt B.int (fa_cons (fx_op (ow := false) op_mulX snd_mulX (fx_var 2) (fx_var 2)) fa_nil)) (fx_var 0)))))) (fss_cons (fs_putIx 1 fx_int fx_int) (fss_frz 1 (fss_cons (fs_set (i := 3) sc__law_leftover.nd (fx_lst (ow := true) (fa_cons (fx_op (ow := false) op_mulX snd_mulX (fx_tup (fa_cons fx_int fa_nil)) (fx_op (ow := false) op_addA snd_add (fx_var 0) fx_int)) fa_nil))) (fss_cons (fs_for PassesOwn.never rfl (fi_range1 B.range (fx_var 0)) (fg_name (i := 4) sc__law_leftover.nd) (fss_fgt [4] (fss_one (fs_expr (fx_append 3 (fx_op (ow := false) op_addA snd_add (fx_tup (fa_cons (fx_neg fx_int) fa_nil)) (fx_Ty (ow := false) call_tuple_of snd_toT B.tuple (fa_cons (fx_lc (own := [("j", 5)]) (ow := false) rfl sc__law_leftover.nd (fi_range1 B.range (fx_var 0)) (blkOk_by (own := [("j", 5)]) (N := N__law_leftover) (sc := defScope s__law_leftover) (by decide +kernel)) (fun _ _ _ _ _ => fg_name (i := 5) sc__law_leftover.nd) (fun _ _ _ _ _ => fts_nil) (fun _ _ _ _ _ => fx_ix (fx_var 1) (fx_op (ow := false) op_mod snd_mod (fx_Ty (ow := false) call_int1 snd_toInt B.int (fa_cons (fx_op (ow := false) op_sub snd_int2 (fx_op (ow := false) op_addA snd_add (fx_var 5) (fx_var 0)) (fx_var 4)) fa_nil)) (fx_var 0)))) fa_nil)))))))) (fss_frz 3 (fss_one (fs_ret (fz := true) (fx_Ty (ow := false) call_tuple_of snd_toT B.tuple (fa_cons (fx_var 3) fa_nil)))))))))))
theorem sc__law_order : FnScope ["bag", "n", "found", "k", "other"] ["bag", "n"] (defScope s__law_order) := ⟨rfl, rfl, rfl, by decide +kernel, rfl, by decide +kernel, by decide +kernel⟩
theorem ok__law_order (B : Bs mg) (D__law_draw : Def P w K mg base 1 "_law_draw" s__law_draw ["bag", "below"] F__law_draw) (E : At K mg "_law_order" s__law_order) : Def P w K mg base 2 "_law_order" s__law_order ["bag", "n"] F__law_order :=
  def_ok 1 E sc__law_order (fun _ _ _ _ _ _ us hl => match us, hl with | [_, _], _ => rfl) (fun f cdv A outer s H E hr =>
    fss_cons (fs_set (i := 2) sc__law_order.nd (fx_listR1 (ow := true) rfl B.list B.range (fx_var 1))) (fss_cons (fs_for PassesOwn.never rfl (fi_range1 B.range (fx_var 1)) (fg_name (i := 3) sc__law_order.nd) (fss_fgt [3, 4] (fss_cons (fs_set (i := 4) sc__law_order.nd (fx_op (ow := false) op_addA snd_add (fx_var 3) (fx_callD D__law_draw (hr.mono (by first | decide | omega)) (fa_cons (fx_var 0) (fa_cons (fx_op (ow := false) op_sub snd_int2 (fx_var 1) (fx_var 3)) fa_nil))))) (fss_one (fs_asgG (fx_tup (fa_cons (fx_ix (fx_var 2) (fx_var 4)) (fa_cons (fx_ix (fx_var 2) (fx_var 3)) fa_nil))) (fg_tup rfl (fgs_cons (fg_ix 2 (fx_var 3)) (fgs_cons (fg_ix 2 (fx_var 4)) fgs_nil)))))))) (fss_one (fs_ret (fz := true) (fx_var 2)))))
theorem sc__law_about : FnScope ["table", "k", "row"] ["table"] (defScope s__law_about) := ⟨rfl, rfl, rfl, by decide +kernel, rfl, by decide +kernel, by decide +kernel⟩
theorem ok__law_about (B : Bs mg) (E : At K mg "_law_about" s__law_about) : Def P w K mg base 1 "_law_about" s__law_about ["table"] F__law_about :=
  def_ok 0 E sc__law_about (fun _ _ _ _ _ _ us hl => match us, hl with | [_], _ => rfl) (fun f cdv A outer s H E hr =>
    fss_one (fs_ret (fz := true) (fx_Ty (ow := false) call_tuple_of snd_toT B.tuple (fa_cons (fx_lc (own := [("k", 1)]) (ow := false) rfl sc__law_about.nd (fi_range1 B.range (fx_B (ow := false) call_len snd_len B.len (fa_cons (fx_var 0) fa_nil))) (blkOk_by (own := [("k", 1)]) (N := N__law_about) (sc := defScope s__law_about) (by decide +kernel)) (fun _ _ _ _ _ => fg_name (i := 1) sc__law_about.nd) (fun _ _ _ _ _ => fts_nil) (fun _ _ _ _ _ => fx_Ty (ow := false) call_tuple_of snd_toT B.tuple (fa_cons (fx_lc (own := [("row", 2)]) (ow := false) rfl sc__law_about.nd (fi_seq (fx_var 0)) (blk_in (own := [("row", 2)]) (N := N__law_about) rfl (by decide +kernel)) (fun _ _ _ _ _ => fg_name (i := 2) sc__law_about.nd) (fun _ _ _ _ _ => fts_nil) (fun _ _ _ _ _ => fx_ix (fx_var 2) (fx_var 1))) fa_nil))) fa_nil))))
theorem sc__law_led : FnScope ["bag", "table", "signs", "found", "k", "is_turned", "x"] ["bag", "table"] (defScope s__law_led) := ⟨rfl, rfl, rfl, by decide +kernel, rfl, by decide +kernel, by decide +kernel⟩
theorem ok__law_led (B : Bs mg) (D__law_draw : Def P w K mg base 1 "_law_draw" s__law_draw ["bag", "below"] F__law_draw) (D__law_order : Def P w K mg base 2 "_law_order" s__law_order ["bag", "n"] F__law_order) (E : At K mg "_law_led" s__law_led) : Def P w K mg base 3 "_law_led" s__law_led ["bag", "table"] F__law_led :=
  def_ok 2 E sc__law_led (fun _ _ _ _ _ _ us hl => match us, hl with | [_, _], _ => rfl) (fun f cdv A outer s H E hr =>
    fss_cons (fs_par2 (i := 2) (j := 3) rfl sc__law_led.nd (fx_cmp op_gt snd_rel (fx_callD D__law_draw (hr.mono (by first | decide | omega)) (fa_cons (fx_var 0) (fa_cons fx_int fa_nil))) fx_int (nomark _)) (fx_lst (ow := true) fa_nil)) (fss_cons (fs_for PassesOwn.never rfl (fi_seq (fx_callD D__law_order (hr.mono (by first | decide | omega)) (fa_cons (fx_var 0) (fa_cons (fx_B (ow := false) call_len snd_len B.len (fa_cons (fx_var 1) fa_nil)) fa_nil)))) (fg_name (i := 4) sc__law_led.nd) (fss_fgt [4, 5] (fss_cons (fs_set (i := 5) sc__law_led.nd (fx_and (fx_var 2) (fx_one (fx_cmp op_gt snd_rel (fx_callD D__law_draw (hr.mono (by first | decide | omega)) (fa_cons (fx_var 0) (fa_cons fx_int fa_nil))) fx_int (nomark _))))) (fss_one (fs_expr (fx_append 3 (fx_ifE (ft_truth (fx_var 5)) (fx_Ty (ow := false) call_tuple_of snd_toT B.tuple (fa_cons (fx_lc (own := [("x", 6)]) (ow := false) rfl sc__law_led.nd (fi_seq (fx_ix (fx_var 1) (fx_var 4))) (blkOk_by (own := [("x", 6)]) (N := N__law_led) (sc := defScope s__law_led) (by decide +kernel)) (fun _ _ _ _ _ => fg_name (i := 6) sc__law_led.nd) (fun _ _ _ _ _ => fts_nil) (fun _ _ _ _ _ => fx_neg (fx_var 6))) fa_nil)) (fx_ix (fx_var 1) (fx_var 4))))))))) (fss_frz 3 (fss_one (fs_ret (fz := true) (fx_Ty (ow := false) call_tuple_of snd_toT B.tuple (fa_cons (fx_var 3) fa_nil)))))))
theorem sc__law_own_table : FnScope ["bag", "first", "table", "way"] ["bag", "first"] (defScope s__law_own_table) := ⟨rfl, rfl, rfl, by decide +kernel, rfl, by decide +kernel, by decide +kernel⟩
theorem ok__law_own_table (B : Bs mg) (D__law_draw : Def P w K mg base 1 "_law_draw" s__law_draw ["bag", "below"] F__law_draw) (D__law_led : Def P w K mg base 3 "_law_led" s__law_led ["bag", "table"] F__law_led) (D__law_about : Def P w K mg base 1 "_law_about" s__law_about ["table"] F__law_about) (E : At K mg "_law_own_table" s__law_own_table) : Def P w K mg base 4 "_law_own_table" s__law_own_table ["bag", "first"] F__law_own_table :=
  def_ok 3 E sc__law_own_table (fun _ _ _ _ _ _ us hl => match us, hl with | [_, _], _ => rfl) (fun f cdv A outer s H E hr =>
    fss_cons (fs_par2 (i := 2) (j := 3) rfl sc__law_own_table.nd (fx_var 1) (fx_callD D__law_draw (hr.mono (by first | decide | omega)) (fa_cons (fx_var 0) (fa_cons fx_int fa_nil)))) (fss_cons (fs_if (ft_cmp op_gt snd_rel (fx_var 3) fx_int (nomark _)) (fss_one (fs_set (i := 2) sc__law_own_table.nd (fx_callD D__law_led (hr.mono (by first | decide | omega)) (fa_cons (fx_var 0) (fa_cons (fx_var 2) fa_nil))))) fss_nil) (fss_cons (fs_if (ft_cmp op_gt snd_rel (fx_var 3) fx_int (nomark _)) (fss_one (fs_set (i := 2) sc__law_own_table.nd (fx_callD D__law_about (hr.mono (by first | decide | omega)) (fa_cons (fx_callD D__law_led (hr.mono (by first | decide | omega)) (fa_cons (fx_var 0) (fa_cons (fx_callD D__law_about (hr.mono (by first | decide | omega)) (fa_cons (fx_var 2) fa_nil)) fa_nil))) fa_nil)))) fss_nil) (fss_one (fs_ret (fz := true) (fx_ifE (ft_cmp (op_eqA hr.units) snd_eqX (fx_var 3) fx_int (nomark _)) (fx_callD D__law_about (hr.mono (by first | decide | omega)) (fa_cons (fx_var 2) fa_nil)) (fx_var 2)))))))
theorem sc__law_lot : FnScope ["bag", "n", "way", "k"] ["bag", "n"] (defScope s__law_lot) := ⟨rfl, rfl, rfl, by decide +kernel, rfl, by decide +kernel, by decide +kernel⟩
theorem ok__law_lot (B : Bs mg) (D__law_draw : Def P w K mg base 1 "_law_draw" s__law_draw ["bag", "below"] F__law_draw) (E : At K mg "_law_lot" s__law_lot) : Def P w K mg base 2 "_law_lot" s__law_lot ["bag", "n"] F__law_lot :=
  def_ok 1 E sc__law_lot (fun _ _ _ _ _ _ us hl => match us, hl with | [_, _], _ => rfl) (fun f cdv A outer s H E hr =>
    fss_cons (fs_set (i := 2) sc__law_lot.nd (fx_callD D__law_draw (hr.mono (by first | decide | omega)) (fa_cons (fx_var 0) (fa_cons fx_int fa_nil)))) (fss_cons (fs_if (ft_cmp (op_eqA hr.units) snd_eqX (fx_var 2) fx_int (nomark _)) (fss_one (fs_ret (fz := true) (fx_tup fa_nil))) fss_nil) (fss_cons (fs_if (ft_cmp (op_eqA hr.units) snd_eqX (fx_var 2) fx_int (nomark _)) (fss_one (fs_ret (fz := true) (fx_tup (fa_cons (fx_callD D__law_draw (hr.mono (by first | decide | omega)) (fa_cons (fx_var 0) (fa_cons (fx_var 1) fa_nil))) fa_nil)))) fss_nil) (fss_cons (fs_if (ft_cmp (op_eqA hr.units) snd_eqX (fx_var 2) fx_int (nomark _)) (fss_one (fs_ret (fz := true) (fx_tupR1 rfl B.tuple B.range (fx_var 1)))) fss_nil) (fss_one (fs_ret (fz := true) (fx_Ty (ow := false) call_tuple_of snd_toT B.tuple (fa_cons (fx_lc (own := [("k", 3)]) (ow := false) rfl sc__law_lot.nd (fi_range1 B.range (fx_var 1)) (blkOk_by (own := [("k", 3)]) (N := N__law_lot) (sc := defScope s__law_lot) (by decide +kernel)) (fun _ _ _ _ _ => fg_name (i := 3) sc__law_lot.nd) (fun _ _ _ _ _ => fts_one (ft_cmp op_gt snd_rel (fx_callD D__law_draw (hr.mono (by first | decide | omega)) (fa_cons (fx_var 0) (fa_cons fx_int fa_nil))) fx_int (nomark _))) (fun _ _ _ _ _ => fx_var 3)) fa_nil))))))))
theorem sc__law_sums : FnScope ["table", "columns", "row", "k"] ["table", "columns"] (defScope s__law_sums) := ⟨rfl, rfl, rfl, by decide +kernel, rfl, by decide +kernel, by decide +kernel⟩
theorem ok__law_sums (B : Bs mg) (E : At K mg "_law_sums" s__law_sums) : Def P w K mg base 1 "_law_sums" s__law_sums ["table", "columns"] F__law_sums :=
  def_ok 0 E sc__law_sums (fun _ _ _ _ _ _ us hl => match us, hl with | [_, _], _ => rfl) (fun f cdv A outer s H E hr =>
    fss_one (fs_ret (fz := true) (fx_lc (own := [("row", 2)]) (ow := false) rfl sc__law_sums.nd (fi_seq (fx_var 0)) (blkOk_by (own := [("row", 2)]) (N := N__law_sums) (sc := defScope s__law_sums) (by decide +kernel)) (fun _ _ _ _ _ => fg_name (i := 2) sc__law_sums.nd) (fun _ _ _ _ _ => fts_nil) (fun _ _ _ _ _ => fx_B (ow := false) (cr_sumA rfl) snd_sumA B.sum (fa_cons (fx_lc (own := [("k", 3)]) (ow := false) rfl sc__law_sums.nd (fi_seq (fx_var 1)) (blk_in (own := [("k", 3)]) (N := N__law_sums) rfl (by decide +kernel)) (fun _ _ _ _ _ => fg_name (i := 3) sc__law_sums.nd) (fun _ _ _ _ _ => fts_nil) (fun _ _ _ _ _ => fx_ix (fx_var 2) (fx_var 3))) fa_nil)))))
theorem sc__law_best : FnScope ["sums", "above", "below", "x", "k"] ["sums"] (defScope s__law_best) := ⟨rfl, rfl, rfl, by decide +kernel, rfl, by decide +kernel, by decide +kernel⟩
theorem ok__law_best (B : Bs mg) (E : At K mg "_law_best" s__law_best) : Def P w K mg base 1 "_law_best" s__law_best ["sums"] F__law_best :=
  def_ok 0 E sc__law_best (fun _ _ _ _ _ _ us hl => match us, hl with | [_], _ => rfl) (fun f cdv A outer s H E hr =>
    fss_cons (fs_par2 (i := 1) (j := 2) rfl sc__law_best.nd (fx_B (ow := false) (cr_sumA rfl) snd_sumA B.sum (fa_cons (fx_lc (own := [("x", 3)]) (ow := false) rfl sc__law_best.nd (fi_seq (fx_var 0)) (blkOk_by (own := [("x", 3)]) (N := N__law_best) (sc := defScope s__law_best) (by decide +kernel)) (fun _ _ _ _ _ => fg_name (i := 3) sc__law_best.nd) (fun _ _ _ _ _ => fts_one (ft_cmp op_gt snd_rel (fx_var 3) fx_int (nomark _))) (fun _ _ _ _ _ => fx_var 3)) fa_nil)) (fx_B (ow := false) (cr_sumA rfl) snd_sumA B.sum (fa_cons (fx_lc (own := [("x", 3)]) (ow := false) rfl sc__law_best.nd (fi_seq (fx_var 0)) (blkOk_by (own := [("x", 3)]) (N := N__law_best) (sc := defScope s__law_best) (by decide +kernel)) (fun _ _ _ _ _ => fg_name (i := 3) sc__law_best.nd) (fun _ _ _ _ _ => fts_one (ft_cmp op_lt snd_rel (fx_var 3) fx_int (nomark _))) (fun _ _ _ _ _ => fx_neg (fx_var 3))) fa_nil))) (fss_cons (fs_if (ft_cmp op_ge snd_rel (fx_var 1) (fx_var 2) (nomark _)) (fss_one (fs_ret (fz := true) (fx_Ty (ow := false) call_tuple_of snd_toT B.tuple (fa_cons (fx_lc (own := [("k", 4), ("x", 3)]) (ow := false) rfl sc__law_best.nd (fi_enumA B.enumerate (fx_var 0)) (blkOk_by (own := [("k", 4), ("x", 3)]) (N := N__law_best) (sc := defScope s__law_best) (by decide +kernel)) (fun _ _ _ _ _ => fg_tup rfl (fgs_cons (fg_name (i := 4) sc__law_best.nd) (fgs_cons (fg_name (i := 3) sc__law_best.nd) fgs_nil))) (fun _ _ _ _ _ => fts_one (ft_cmp op_gt snd_rel (fx_var 3) fx_int (nomark _))) (fun _ _ _ _ _ => fx_var 4)) fa_nil)))) fss_nil) (fss_one (fs_ret (fz := true) (fx_Ty (ow := false) call_tuple_of snd_toT B.tuple (fa_cons (fx_lc (own := [("k", 4), ("x", 3)]) (ow := false) rfl sc__law_best.nd (fi_enumA B.enumerate (fx_var 0)) (blkOk_by (own := [("k", 4), ("x", 3)]) (N := N__law_best) (sc := defScope s__law_best) (by decide +kernel)) (fun _ _ _ _ _ => fg_tup rfl (fgs_cons (fg_name (i := 4) sc__law_best.nd) (fgs_cons (fg_name (i := 3) sc__law_best.nd) fgs_nil))) (fun _ _ _ _ _ => fts_one (ft_cmp op_lt snd_rel (fx_var 3) fx_int (nomark _))) (fun _ _ _ _ _ => fx_var 4)) fa_nil))))))
theorem sc__law_least_pair : FnScope ["table", "i", "row", "j", "x", "y"] ["table"] (defScope s__law_least_pair) := ⟨rfl, rfl, rfl, by decide +kernel, rfl, by decide +kernel, by decide +kernel⟩
theorem ok__law_least_pair (B : Bs mg) (E : At K mg "_law_least_pair" s__law_least_pair) : Def P w K mg base 1 "_law_least_pair" s__law_least_pair ["table"] F__law_least_pair :=
  def_ok 0 E sc__law_least_pair (fun _ _ _ _ _ _ us hl => match us, hl with | [_], _ => rfl) (fun f cdv A outer s H E hr =>
    fss_cons (fs_for PassesOwn.never rfl (fi_enumA B.enumerate (fx_var 0)) (fg_tup rfl (fgs_cons (fg_name (i := 1) sc__law_least_pair.nd) (fgs_cons (fg_name (i := 2) sc__law_least_pair.nd) fgs_nil))) (fss_fgt [1, 2, 3] (fss_one (fs_for PassesOwn.never rfl (fi_range2 B.range (fx_op (ow := false) op_addA snd_add (fx_var 1) fx_int) (fx_B (ow := false) call_len snd_len B.len (fa_cons (fx_var 0) fa_nil))) (fg_name (i := 3) sc__law_least_pair.nd) (fss_fgt [3] (fss_one (fs_if (ft_cmp (op_neA hr.units) snd_neX (fx_B (ow := false) (cr_sumA rfl) snd_sumA B.sum (fa_cons (fx_lc (own := [("x", 4), ("y", 5)]) (ow := false) rfl sc__law_least_pair.nd (fi_seq (fx_listZip (ow := false) rfl B.list B.zip (fa_cons (fx_var 2) (fa_cons (fx_ix (fx_var 0) (fx_var 3)) fa_nil)))) (blkOk_by (own := [("x", 4), ("y", 5)]) (N := N__law_least_pair) (sc := defScope s__law_least_pair) (by decide +kernel)) (fun _ _ _ _ _ => fg_tup rfl (fgs_cons (fg_name (i := 4) sc__law_least_pair.nd) (fgs_cons (fg_name (i := 5) sc__law_least_pair.nd) fgs_nil))) (fun _ _ _ _ _ => fts_nil) (fun _ _ _ _ _ => fx_op (ow := false) op_mulX snd_mulX (fx_var 4) (fx_var 5))) fa_nil)) fx_int (nomark _)) (fss_one (fs_ret (fz := true) (fx_tup (fa_cons fx_str (fa_cons (fx_var 1) (fa_cons (fx_var 3) fa_nil)))))) fss_nil))))))) (fss_one (fs_ret (fz := true) fx_non)))
theorem sc__law_put : FnScope ["table", "i", "row"] ["table", "i", "row"] (defScope s__law_put) := ⟨rfl, rfl, rfl, by decide +kernel, rfl, by decide +kernel, by decide +kernel⟩
theorem ok__law_put (B : Bs mg) (E : At K mg "_law_put" s__law_put) : Def P w K mg base 1 "_law_put" s__law_put ["table", "i", "row"] F__law_put :=
  def_ok 0 E sc__law_put (fun _ _ _ _ _ _ us hl => match us, hl with | [_, _, _], _ => rfl) (fun f cdv A outer s H E hr =>
    fss_one (fs_ret (fz := true) (fx_op (ow := false) op_addA snd_add (fx_op (ow := false) op_addA snd_add (fx_slice (ow := false) (fx_var 0) fo_none (fo_some (fx_var 1))) (fx_tup (fa_cons (fx_var 2) fa_nil))) (fx_slice (ow := false) (fx_var 0) (fo_some (fx_op (ow := false) op_addA snd_add (fx_var 1) fx_int)) fo_none))))
theorem sc__law_is_error : FnScope ["value", "due", "is_named"] ["value", "due", "is_named"] (defScope s__law_is_error) := ⟨rfl, rfl, rfl, by decide +kernel, rfl, by decide +kernel, by decide +kernel⟩
theorem ok__law_is_error (B : Bs mg) (D__law_same : Def P w K mg base 9 "_law_same" s__law_same ["told", "due"] (F__law_same 8)) (D_table_error : Def P w K mg base 3 "table_error" s_table_error ["value"] F_table_error) (E : At K mg "_law_is_error" s__law_is_error) : Def P w K mg base 10 "_law_is_error" s__law_is_error ["value", "due", "is_named"] F__law_is_error :=
  def_ok 9 E sc__law_is_error (fun _ _ _ _ _ _ us hl => match us, hl with | [_, _, _], _ => rfl) (fun f cdv A outer s H E hr =>
    fss_one (fs_ret (fz := true) (fx_callD D__law_same (hr.mono (by first | decide | omega)) (fa_cons (fx_ifE (ft_truth (fx_var 2)) (fx_callK0 (js := [0]) D_table_error (hr.mono (by first | decide | omega)) (by decide) (fun _ _ _ _ _ _ us ws h1 h2 => match us, ws, h1, h2 with | [], [_], _, _ => rfl) (fk_cons (fx_var 0) fk_nil)) (fx_callD D_table_error (hr.mono (by first | decide | omega)) (fa_cons (fx_var 0) fa_nil))) (fa_cons (fx_var 1) fa_nil)))))
theorem sc__law_are_pairs_told : FnScope ["bag", "table", "n", "turn", "i", "row", "k", "bad", "due", "j", "x"] ["bag", "table"] (defScope s__law_are_pairs_told) := ⟨rfl, rfl, rfl, by decide +kernel, rfl, by decide +kernel, by decide +kernel⟩
theorem ok__law_are_pairs_told (B : Bs mg) (D__law_pick : Def P w K mg base 2 "_law_pick" s__law_pick ["bag", "some"] F__law_pick) (D__law_draw : Def P w K mg base 1 "_law_draw" s__law_draw ["bag", "below"] F__law_draw) (D__law_put : Def P w K mg base 1 "_law_put" s__law_put ["table", "i", "row"] F__law_put) (D__law_least_pair : Def P w K mg base 1 "_law_least_pair" s__law_least_pair ["table"] F__law_least_pair) (D__law_is_error : Def P w K mg base 10 "_law_is_error" s__law_is_error ["value", "due", "is_named"] F__law_is_error) (E : At K mg "_law_are_pairs_told" s__law_are_pairs_told) : Def P w K mg base 11 "_law_are_pairs_told" s__law_are_pairs_told ["bag", "table"] F__law_are_pairs_told :=
  def_ok 10 E sc__law_are_pairs_told (fun _ _ _ _ _ _ us hl => match us, hl with | [_, _], _ => rfl) (fun f cdv A outer s H E hr =>
    fss_cons (fs_set (i := 2) sc__law_are_pairs_told.nd (fx_B (ow := false) call_len snd_len B.len (fa_cons (fx_var 1) fa_nil))) (fss_cons (fs_for PassesOwn.never rfl (fi_range1 B.range (fx_ifE (ft_cmp op_lt snd_rel (fx_var 2) fx_int (nomark _)) fx_int fx_int)) (fg_name (i := 3) sc__law_are_pairs_told.nd) (fss_fgt [3, 4, 5, 6, 7, 8, 9] (fss_cons (fs_set (i := 4) sc__law_are_pairs_told.nd (fx_callD D__law_pick (hr.mono (by first | decide | omega)) (fa_cons (fx_var 0) (fa_cons (fx_lst (ow := false) (fa_cons (fx_op (ow := false) op_sub snd_int2 (fx_var 2) fx_int) (fa_cons (fx_callD D__law_draw (hr.mono (by first | decide | omega)) (fa_cons (fx_var 0) (fa_cons (fx_var 2) fa_nil))) fa_nil))) fa_nil)))) (fss_cons (fs_par2 (i := 5) (j := 6) rfl sc__law_are_pairs_told.nd (fx_ix (fx_var 1) (fx_var 4)) (fx_callD D__law_draw (hr.mono (by first | decide | omega)) (fa_cons (fx_var 0) (fa_cons (fx_var 2) fa_nil)))) (fss_cons (fs_if (ft_cmp (op_eqA hr.units) snd_eqX (fx_var 3) fx_int (nomark _)) (fss_cons (fs_set (i := 7) sc__law_are_pairs_told.nd (fx_callD D__law_put (hr.mono (by first | decide | omega)) (fa_cons (fx_var 1) (fa_cons (fx_var 4) (fa_cons (fx_op (ow := false) op_addA snd_add (fx_op (ow := false) op_addA snd_add (fx_slice (ow := false) (fx_var 5) fo_none (fo_some (fx_var 6))) (fx_tup (fa_cons (fx_neg (fx_ix (fx_var 5) (fx_var 6))) fa_nil))) (fx_slice (ow := false) (fx_var 5) (fo_some (fx_op (ow := false) op_addA snd_add (fx_var 6) fx_int)) fo_none)) fa_nil))))) (fss_one (fs_set (i := 8) sc__law_are_pairs_told.nd (fx_tup (fa_cons fx_str (fa_cons fx_int (fa_cons (fx_ifE (ft_cmp op_gt snd_rel (fx_var 4) fx_int (nomark _)) (fx_var 4) fx_int) fa_nil))))))) (fss_one (fs_if (ft_cmp op_lt snd_rel (fx_var 3) fx_int (nomark _)) (fss_cons (fs_set (i := 9) sc__law_are_pairs_told.nd (fx_ifE ((fw_and (ft_cmp (op_eqA hr.units) snd_eqX (fx_var 3) fx_int (nomark _)) (fw_and1 (ft_cmp (op_eqA hr.units) snd_eqX (fx_var 4) (fx_op (ow := false) op_sub snd_int2 (fx_var 2) fx_int) (nomark _)))).ft) (fx_op (ow := false) op_sub snd_int2 (fx_var 2) fx_int) (fx_op (ow := false) op_mod snd_mod (fx_Ty (ow := false) call_int1 snd_toInt B.int (fa_cons (fx_op (ow := false) op_addA snd_add (fx_op (ow := false) op_addA snd_add (fx_var 4) fx_int) (fx_callD D__law_draw (hr.mono (by first | decide | omega)) (fa_cons (fx_var 0) (fa_cons (fx_op (ow := false) op_sub snd_int2 (fx_var 2) fx_int) fa_nil)))) fa_nil)) (fx_var 2)))) (fss_cons (fs_set (i := 7) sc__law_are_pairs_told.nd (fx_callD D__law_put (hr.mono (by first | decide | omega)) (fa_cons (fx_var 1) (fa_cons (fx_var 4) (fa_cons (fx_ifE (ft_cmp op_gt snd_rel (fx_callD D__law_draw (hr.mono (by first | decide | omega)) (fa_cons (fx_var 0) (fa_cons fx_int fa_nil))) fx_int (nomark _)) (fx_ix (fx_var 1) (fx_var 9)) (fx_Ty (ow := false) call_tuple_of snd_toT B.tuple (fa_cons (fx_lc (own := [("x", 10)]) (ow := false) rfl sc__law_are_pairs_told.nd (fi_seq (fx_ix (fx_var 1) (fx_var 9))) (blkOk_by (own := [("x", 10)]) (N := N__law_are_pairs_told) (sc := defScope s__law_are_pairs_told) (by decide +kernel)) (fun _ _ _ _ _ => fg_name (i := 10) sc__law_are_pairs_told.nd) (fun _ _ _ _ _ => fts_nil) (fun _ _ _ _ _ => fx_neg (fx_var 10))) fa_nil))) fa_nil))))) (fss_one (fs_set (i := 8) sc__law_are_pairs_told.nd (fx_tup (fa_cons fx_str (fa_cons (fx_B (ow := false) (call_min2 rfl) snd_min2 B.min (fa_cons (fx_var 4) (fa_cons (fx_var 9) fa_nil))) (fa_cons (fx_B (ow := false) (call_max2 rfl) snd_max2 B.max (fa_cons (fx_var 4) (fa_cons (fx_var 9) fa_nil))) fa_nil)))))))) (fss_cons (fs_set (i := 7) sc__law_are_pairs_told.nd (fx_callD D__law_put (hr.mono (by first | decide | omega)) (fa_cons (fx_callD D__law_put (hr.mono (by first | decide | omega)) (fa_cons (fx_var 1) (fa_cons (fx_var 4) (fa_cons (fx_ix (fx_var 1) (fx_callD D__law_draw (hr.mono (by first | decide | omega)) (fa_cons (fx_var 0) (fa_cons (fx_var 2) fa_nil)))) fa_nil)))) (fa_cons (fx_op (ow := false) op_sub snd_int2 (fx_op (ow := false) op_sub snd_int2 (fx_var 2) fx_int) (fx_var 4)) (fa_cons (fx_ix (fx_var 1) (fx_callD D__law_draw (hr.mono (by first | decide | omega)) (fa_cons (fx_var 0) (fa_cons (fx_var 2) fa_nil)))) fa_nil))))) (fss_one (fs_set (i := 8) sc__law_are_pairs_told.nd (fx_callD D__law_least_pair (hr.mono (by first | decide | omega)) (fa_cons (fx_var 7) fa_nil)))))))) (fss_one (fs_if (ft_not (ft_truth (fx_callD D__law_is_error (hr.mono (by first | decide | omega)) (fa_cons (fx_var 7) (fa_cons (fx_var 8) (fa_cons (fx_cmp op_gt snd_rel (fx_callD D__law_draw (hr.mono (by first | decide | omega)) (fa_cons (fx_var 0) (fa_cons fx_int fa_nil))) fx_int (nomark _)) fa_nil)))))) (fss_one (fs_ret (fz := true) fx_bl)) fss_nil))))))) (fss_one (fs_ret (fz := true) fx_bl))))
theorem sc__law_are_forms_told : FnScope ["bag", "table", "n", "i", "k", "row", "wrong", "odd", "item", "same", "value", "copy"] ["bag", "table"] (defScope s__law_are_forms_told) := ⟨rfl, rfl, rfl, by decide +kernel, rfl, by decide +kernel, by decide +kernel⟩
theorem ok__law_are_forms_told (B : Bs mg) (D__law_pick : Def P w K mg base 2 "_law_pick" s__law_pick ["bag", "some"] F__law_pick) (D__law_draw : Def P w K mg base 1 "_law_draw" s__law_draw ["bag", "below"] F__law_draw) (D__law_put : Def P w K mg base 1 "_law_put" s__law_put ["table", "i", "row"] F__law_put) (D__law_doubled : Def P w K mg base 1 "_law_doubled" s__law_doubled ["many"] F__law_doubled) (D__law_is_error : Def P w K mg base 10 "_law_is_error" s__law_is_error ["value", "due", "is_named"] F__law_is_error) (E : At K mg "_law_are_forms_told" s__law_are_forms_told) : Def P w K mg base 11 "_law_are_forms_told" s__law_are_forms_told ["bag", "table"] F__law_are_forms_told :=
  def_ok 10 E sc__law_are_forms_told (fun _ _ _ _ _ _ us hl => match us, hl with | [_, _], _ => rfl) (fun f cdv A outer s H E hr =>
    fss_cons (fs_set (i := 2) sc__law_are_forms_told.nd (fx_B (ow := false) call_len snd_len B.len (fa_cons (fx_var 1) fa_nil))) (fss_cons (fs_par2 (i := 3) (j := 4) rfl sc__law_are_forms_told.nd (fx_callD D__law_pick (hr.mono (by first | decide | omega)) (fa_cons (fx_var 0) (fa_cons (fx_lst (ow := false) (fa_cons (fx_op (ow := false) op_sub snd_int2 (fx_var 2) fx_int) (fa_cons (fx_callD D__law_draw (hr.mono (by first | decide | omega)) (fa_cons (fx_var 0) (fa_cons (fx_var 2) fa_nil))) fa_nil))) fa_nil))) (fx_callD D__law_pick (hr.mono (by first | decide | omega)) (fa_cons (fx_var 0) (fa_cons (fx_lst (ow := false) (fa_cons (fx_op (ow := false) op_sub snd_int2 (fx_var 2) fx_int) (fa_cons (fx_callD D__law_draw (hr.mono (by first | decide | omega)) (fa_cons (fx_var 0) (fa_cons (fx_var 2) fa_nil))) fa_nil))) fa_nil)))) (fss_cons (fs_par2 (i := 5) (j := 6) rfl sc__law_are_forms_told.nd (fx_ix (fx_var 1) (fx_var 3)) (fx_lst (ow := true) fa_nil)) (fss_cons (fs_set (i := 7) sc__law_are_forms_told.nd (fx_callD D__law_pick (hr.mono (by first | decide | omega)) (fa_cons (fx_var 0) (fa_cons (fx_lst (ow := false) (fa_cons fx_int (fa_cons fx_int (fa_cons (fx_neg fx_int) (fa_cons fx_non (fa_cons fx_str (fa_cons (fx_tup (fa_cons fx_int fa_nil)) (fa_cons fx_int (fa_cons (fx_op (ow := false) op_pow snd_pow fx_int fx_int) fa_nil))))))))) fa_nil)))) (fss_cons (fs_for PassesOwn.never rfl (fi_seq (fx_lst (ow := false) (fa_cons (fx_var 7) (fa_cons fx_bl (fa_cons (fx_op (ow := false) op_mulX snd_mulX (fx_ix (fx_var 5) (fx_var 4)) fx_int) fa_nil))))) (fg_name (i := 8) sc__law_are_forms_told.nd) (fss_fgt [8] (fss_one (fs_expr (fx_append 6 (fx_callD D__law_put (hr.mono (by first | decide | omega)) (fa_cons (fx_var 1) (fa_cons (fx_var 3) (fa_cons (fx_op (ow := false) op_addA snd_add (fx_op (ow := false) op_addA snd_add (fx_slice (ow := false) (fx_var 5) fo_none (fo_some (fx_var 4))) (fx_tup (fa_cons (fx_var 8) fa_nil))) (fx_slice (ow := false) (fx_var 5) (fo_some (fx_op (ow := false) op_addA snd_add (fx_var 4) fx_int)) fo_none)) fa_nil))))))))) (fss_cons (fs_set (i := 9) sc__law_are_forms_told.nd (fx_op (ow := false) op_mulX snd_mulX (fx_slice (ow := false) (fx_var 1) fo_none (fo_some fx_int)) (fx_var 2))) (fss_cons (fs_expr (fx_append 6 (fx_callD D__law_put (hr.mono (by first | decide | omega)) (fa_cons (fx_var 9) (fa_cons (fx_var 3) (fa_cons (fx_op (ow := false) op_addA snd_add (fx_op (ow := false) op_addA snd_add (fx_slice (ow := false) (fx_var 5) fo_none (fo_some (fx_var 4))) (fx_tup (fa_cons (fx_callD D__law_pick (hr.mono (by first | decide | omega)) (fa_cons (fx_var 0) (fa_cons (fx_lst (ow := false) (fa_cons fx_bl (fa_cons fx_int (fa_cons fx_non fa_nil)))) fa_nil))) fa_nil))) (fx_slice (ow := false) (fx_var 5) (fo_some (fx_op (ow := false) op_addA snd_add (fx_var 4) fx_int)) fo_none)) fa_nil)))))) (fss_cons (fs_expr (fx_append 6 (fx_callD D__law_put (hr.mono (by first | decide | omega)) (fa_cons (fx_var 1) (fa_cons (fx_var 3) (fa_cons (fx_op (ow := false) op_addA snd_add (fx_slice (ow := false) (fx_var 5) fo_none (fo_some (fx_var 4))) (fx_slice (ow := false) (fx_var 5) (fo_some (fx_op (ow := false) op_addA snd_add (fx_var 4) fx_int)) fo_none)) fa_nil)))))) (fss_cons (fs_expr (fx_append 6 (fx_callD D__law_put (hr.mono (by first | decide | omega)) (fa_cons (fx_var 1) (fa_cons (fx_var 3) (fa_cons (fx_op (ow := false) op_addA snd_add (fx_var 5) (fx_tup (fa_cons (fx_callD D__law_pick (hr.mono (by first | decide | omega)) (fa_cons (fx_var 0) (fa_cons (fx_lst (ow := false) (fa_cons fx_int (fa_cons (fx_neg fx_int) (fa_cons fx_int fa_nil)))) fa_nil))) fa_nil))) fa_nil)))))) (fss_cons (fs_expr (fx_append 6 (fx_callD D__law_put (hr.mono (by first | decide | omega)) (fa_cons (fx_var 1) (fa_cons (fx_var 3) (fa_cons (fx_Ty (ow := false) call_list_of snd_toL B.list (fa_cons (fx_var 5) fa_nil)) fa_nil)))))) (fss_cons (fs_expr (fx_append 6 (fx_op (ow := false) op_addA snd_add (fx_slice (ow := false) (fx_var 1) fo_none (fo_some (fx_var 3))) (fx_slice (ow := false) (fx_var 1) (fo_some (fx_op (ow := false) op_addA snd_add (fx_var 3) fx_int)) fo_none)))) (fss_cons (fs_expr (fx_append 6 (fx_op (ow := false) op_addA snd_add (fx_var 1) (fx_tup (fa_cons (fx_var 5) fa_nil))))) (fss_cons (fs_expr (fx_append 6 (fx_Ty (ow := false) call_list_of snd_toL B.list (fa_cons (fx_var 1) fa_nil)))) (fss_cons (fs_expr (fx_append 6 (fx_callD D__law_pick (hr.mono (by first | decide | omega)) (fa_cons (fx_var 0) (fa_cons (fx_lst (ow := false) (fa_cons fx_non (fa_cons (fx_tup fa_nil) (fa_cons (fx_tup (fa_cons (fx_tup fa_nil) fa_nil)) (fa_cons fx_int (fa_cons fx_bl (fa_cons fx_str (fa_cons (fx_tup (fa_cons fx_int fa_nil)) (fa_cons (fx_frzE (fx_dOne fx_int (fx_tup (fa_cons fx_int fa_nil)))) (fa_cons (fx_tup (fa_cons fx_non fa_nil)) (fa_cons (fx_tup (fa_cons (fx_tup (fa_cons fx_int (fa_cons fx_int fa_nil))) fa_nil)) (fa_cons (fx_tup (fa_cons (fx_lst (ow := false) (fa_cons fx_int fa_nil)) fa_nil)) fa_nil)))))))))))) fa_nil))))) (fss_cons (fs_expr (fx_append 6 (fx_callD D__law_pick (hr.mono (by first | decide | omega)) (fa_cons (fx_var 0) (fa_cons (fx_lst (ow := false) (fa_cons (fx_tup (fa_cons (fx_tup (fa_cons fx_bl fa_nil)) fa_nil)) (fa_cons (fx_tup (fa_cons (fx_tup (fa_cons fx_int fa_nil)) fa_nil)) (fa_cons (fx_tup (fa_cons (fx_tup (fa_cons fx_int fa_nil)) (fa_cons (fx_tup (fa_cons fx_int fa_nil)) fa_nil))) (fa_cons (fx_tup (fa_cons (fx_tup (fa_cons fx_int (fa_cons fx_int fa_nil))) fa_nil)) (fa_cons (fx_tup (fa_cons (fx_tup (fa_cons (fx_tup (fa_cons fx_int fa_nil)) fa_nil)) fa_nil)) (fa_cons (fx_tup (fa_cons (fx_tup (fa_cons fx_str fa_nil)) fa_nil)) (fa_cons (fx_tup (fa_cons (fx_tup (fa_cons fx_int fa_nil)) fa_nil)) fa_nil)))))))) fa_nil))))) (fss_cons (fs_if (ft_cmp (op_eqA hr.units) snd_eqX (fx_callD D__law_draw (hr.mono (by first | decide | omega)) (fa_cons (fx_var 0) (fa_cons fx_int fa_nil))) fx_int (nomark _)) (fss_one (fs_expr (fx_append 6 (fx_callD D__law_pick (hr.mono (by first | decide | omega)) (fa_cons (fx_var 0) (fa_cons (fx_lst (ow := false) (fa_cons (fx_op (ow := false) op_mulX snd_mulX (fx_tup (fa_cons (fx_op (ow := false) op_mulX snd_mulX (fx_tup (fa_cons fx_int fa_nil)) fx_int) fa_nil)) fx_int) (fa_cons (fx_callD D__law_doubled (hr.mono (by first | decide | omega)) (fa_cons fx_int fa_nil)) fa_nil))) fa_nil)))))) fss_nil) (fss_frz 6 (fss_cons (fs_for PassesOwn.never rfl (fi_seq (fx_var 6)) (fg_name (i := 10) sc__law_are_forms_told.nd) (fss_fgt [10] (fss_one (fs_if (ft_not (ft_truth (fx_callD D__law_is_error (hr.mono (by first | decide | omega)) (fa_cons (fx_var 10) (fa_cons fx_str (fa_cons (fx_cmp op_gt snd_rel (fx_callD D__law_draw (hr.mono (by first | decide | omega)) (fa_cons (fx_var 0) (fa_cons fx_int fa_nil))) fx_int (nomark _)) fa_nil)))))) (fss_one (fs_ret (fz := true) fx_bl)) fss_nil)))) (fss_cons (fs_set (i := 5) sc__law_are_forms_told.nd (fx_Ty (ow := false) call_list_of snd_toL B.list (fa_cons (fx_ix (fx_var 1) fx_int) fa_nil))) (fss_cons (fs_set (i := 11) sc__law_are_forms_told.nd (fx_Ty (ow := false) call_list_of snd_toL B.list (fa_cons (fx_var 5) fa_nil))) (fss_one (fs_ret (fz := true) (fx_and (fx_callD D__law_is_error (hr.mono (by first | decide | omega)) (fa_cons (fx_lst (ow := false) (fa_cons (fx_var 5) fa_nil)) (fa_cons fx_str (fa_cons fx_bl fa_nil)))) (fx_and (fx_cmp (op_eqA hr.units) snd_eqX (fx_var 5) (fx_var 11) (nomark _)) (fx_and (fx_callD D__law_is_error (hr.mono (by first | decide | omega)) (fa_cons (fx_tup (fa_cons (fx_var 5) fa_nil)) (fa_cons fx_str (fa_cons fx_bl fa_nil)))) (fx_one (fx_cmp (op_eqA hr.units) snd_eqX (fx_var 5) (fx_var 11) (nomark _))))))))))))))))))))))))))))
theorem sc__law_are_sums_right : FnScope ["bag", "table", "n", "turn", "rows", "columns", "is_named", "sums", "due", "best", "told", "found", "great", "k", "i"] ["bag", "table"] (defScope s__law_are_sums_right) := ⟨rfl, rfl, rfl, by decide +kernel, rfl, by decide +kernel, by decide +kernel⟩
theorem ok__law_are_sums_right (B : Bs mg) (D__law_draw : Def P w K mg base 1 "_law_draw" s__law_draw ["bag", "below"] F__law_draw) (D__law_lot : Def P w K mg base 2 "_law_lot" s__law_lot ["bag", "n"] F__law_lot) (D__law_sums : Def P w K mg base 1 "_law_sums" s__law_sums ["table", "columns"] F__law_sums) (D__law_best : Def P w K mg base 1 "_law_best" s__law_best ["sums"] F__law_best) (D_sum_over : Def P w K mg base 1 "sum_over" s_sum_over ["table", "rows", "columns"] F_sum_over) (D_best_rows : Def P w K mg base 1 "best_rows" s_best_rows ["table", "columns"] F_best_rows) (D__law_same : Def P w K mg base 9 "_law_same" s__law_same ["told", "due"] (F__law_same 8)) (E : At K mg "_law_are_sums_right" s__law_are_sums_right) : Def P w K mg base 10 "_law_are_sums_right" s__law_are_sums_right ["bag", "table"] F__law_are_sums_right :=
  def_ok 9 E sc__law_are_sums_right (fun _ _ _ _ _ _ us hl => match us, hl with | [_, _], _ => rfl) (fun f cdv A outer s H E hr =>
    fss_cons (fs_set (i := 2) sc__law_are_sums_right.nd (fx_B (ow := false) call_len snd_len B.len (fa_cons (fx_var 1) fa_nil))) (fss_cons (fs_for PassesOwn.never rfl (fi_range1 B.range (fx_ifE (ft_cmp op_lt snd_rel (fx_var 2) fx_int (nomark _)) fx_int fx_int)) (fg_name (i := 3) sc__law_are_sums_right.nd) (fss_fgt [3, 4, 5, 6, 7, 8, 9, 10, 11, 12] (fss_cons (fs_multi (is := [4, 5, 6]) rfl (fa_cons (fx_callD D__law_lot (hr.mono (by first | decide | omega)) (fa_cons (fx_var 0) (fa_cons (fx_var 2) fa_nil))) (fa_cons (fx_callD D__law_lot (hr.mono (by first | decide | omega)) (fa_cons (fx_var 0) (fa_cons (fx_var 2) fa_nil))) (fa_cons (fx_cmp op_gt snd_rel (fx_callD D__law_draw (hr.mono (by first | decide | omega)) (fa_cons (fx_var 0) (fa_cons fx_int fa_nil))) fx_int (nomark _)) fa_nil))) (fm_cons (i := 4) (fm_cons (i := 5) (fm_cons (i := 6) fm_nil sc__law_are_sums_right.nd) sc__law_are_sums_right.nd) sc__law_are_sums_right.nd)) (fss_cons (fs_set (i := 7) sc__law_are_sums_right.nd (fx_callD D__law_sums (hr.mono (by first | decide | omega)) (fa_cons (fx_var 1) (fa_cons (fx_var 5) fa_nil)))) (fss_cons (fs_par2 (i := 8) (j := 9) rfl sc__law_are_sums_right.nd (fx_B (ow := false) (cr_sumA rfl) snd_sumA B.sum (fa_cons (fx_lc (own := [("k", 13)]) (ow := false) rfl sc__law_are_sums_right.nd (fi_seq (fx_var 4)) (blkOk_by (own := [("k", 13)]) (N := N__law_are_sums_right) (sc := defScope s__law_are_sums_right) (by decide +kernel)) (fun _ _ _ _ _ => fg_name (i := 13) sc__law_are_sums_right.nd) (fun _ _ _ _ _ => fts_nil) (fun _ _ _ _ _ => fx_ix (fx_var 7) (fx_var 13))) fa_nil)) (fx_callD D__law_best (hr.mono (by first | decide | omega)) (fa_cons (fx_var 7) fa_nil))) (fss_cons (fs_if (ft_truth (fx_var 6)) (fss_one (fs_par2 (i := 10) (j := 11) rfl sc__law_are_sums_right.nd (fx_callK0 (js := [2, 1, 0]) D_sum_over (hr.mono (by first | decide | omega)) (by decide) (fun _ _ _ _ _ _ us ws h1 h2 => match us, ws, h1, h2 with | [], [_, _, _], _, _ => rfl) (fk_cons (fx_var 5) (fk_cons (fx_var 4) (fk_cons (fx_var 1) fk_nil)))) (fx_callK0 (js := [1, 0]) D_best_rows (hr.mono (by first | decide | omega)) (by decide) (fun _ _ _ _ _ _ us ws h1 h2 => match us, ws, h1, h2 with | [], [_, _], _, _ => rfl) (fk_cons (fx_var 5) (fk_cons (fx_var 1) fk_nil))))) (fss_one (fs_par2 (i := 10) (j := 11) rfl sc__law_are_sums_right.nd (fx_callD D_sum_over (hr.mono (by first | decide | omega)) (fa_cons (fx_var 1) (fa_cons (fx_var 4) (fa_cons (fx_var 5) fa_nil)))) (fx_callD D_best_rows (hr.mono (by first | decide | omega)) (fa_cons (fx_var 1) (fa_cons (fx_var 5) fa_nil)))))) (fss_cons (fs_if ((fw_or (ft_not (ft_truth (fx_callD D__law_same (hr.mono (by first | decide | omega)) (fa_cons (fx_var 10) (fa_cons (fx_var 8) fa_nil))))) (fw_or1 (ft_not (ft_truth (fx_callD D__law_same (hr.mono (by first | decide | omega)) (fa_cons (fx_var 11) (fa_cons (fx_var 9) fa_nil))))))).ft) (fss_one (fs_ret (fz := true) fx_bl)) fss_nil) (fss_cons (fs_set (i := 12) sc__law_are_sums_right.nd (fx_callD D_sum_over (hr.mono (by first | decide | omega)) (fa_cons (fx_var 1) (fa_cons (fx_var 11) (fa_cons (fx_var 5) fa_nil))))) (fss_cons (fs_if ((fw_or (ft_not (ft_truth (fx_callD D__law_same (hr.mono (by first | decide | omega)) (fa_cons (fx_var 12) (fa_cons (fx_B (ow := false) (cr_sumA rfl) snd_sumA B.sum (fa_cons (fx_lc (own := [("k", 13)]) (ow := false) rfl sc__law_are_sums_right.nd (fi_seq (fx_var 9)) (blkOk_by (own := [("k", 13)]) (N := N__law_are_sums_right) (sc := defScope s__law_are_sums_right) (by decide +kernel)) (fun _ _ _ _ _ => fg_name (i := 13) sc__law_are_sums_right.nd) (fun _ _ _ _ _ => fts_nil) (fun _ _ _ _ _ => fx_ix (fx_var 7) (fx_var 13))) fa_nil)) fa_nil))))) (fw_or1 (ft_cmp op_lt snd_rel (fx_B (ow := false) call_abs snd_abs B.abs (fa_cons (fx_var 12) fa_nil)) (fx_B (ow := false) call_abs snd_abs B.abs (fa_cons (fx_var 10) fa_nil)) (nomark _)))).ft) (fss_one (fs_ret (fz := true) fx_bl)) fss_nil) (fss_one (fs_if ((fw_or (ft_cmp op_gt snd_rel (fx_op (ow := false) op_mulX snd_mulX (fx_var 10) (fx_var 10)) (fx_op (ow := false) op_mulX snd_mulX (fx_op (ow := false) op_mulX snd_mulX (fx_var 2) (fx_B (ow := false) call_len snd_len B.len (fa_cons (fx_var 4) fa_nil))) (fx_B (ow := false) call_len snd_len B.len (fa_cons (fx_var 5) fa_nil))) (nomark _)) (fw_or1 (ft_cmp op_gt snd_rel (fx_op (ow := false) op_mulX snd_mulX (fx_var 12) (fx_var 12)) (fx_op (ow := false) op_mulX snd_mulX (fx_op (ow := false) op_mulX snd_mulX (fx_var 2) (fx_B (ow := false) call_len snd_len B.len (fa_cons (fx_var 11) fa_nil))) (fx_B (ow := false) call_len snd_len B.len (fa_cons (fx_var 5) fa_nil))) (nomark _)))).ft) (fss_one (fs_ret (fz := true) fx_bl)) fss_nil))))))))))) (fss_cons (fs_multi (is := [4, 5]) rfl (fa_cons (fx_callD D__law_lot (hr.mono (by first | decide | omega)) (fa_cons (fx_var 0) (fa_cons (fx_var 2) fa_nil))) (fa_cons (fx_callD D__law_lot (hr.mono (by first | decide | omega)) (fa_cons (fx_var 0) (fa_cons (fx_var 2) fa_nil))) fa_nil)) (fm_cons (i := 4) (fm_cons (i := 5) fm_nil sc__law_are_sums_right.nd) sc__law_are_sums_right.nd)) (fss_cons (fs_set (i := 8) sc__law_are_sums_right.nd (fx_B (ow := false) (cr_sumA rfl) snd_sumA B.sum (fa_cons (fx_lc (own := [("i", 14)]) (ow := false) rfl sc__law_are_sums_right.nd (fi_seq (fx_var 4)) (blkOk_by (own := [("i", 14)]) (N := N__law_are_sums_right) (sc := defScope s__law_are_sums_right) (by decide +kernel)) (fun _ _ _ _ _ => fg_name (i := 14) sc__law_are_sums_right.nd) (fun _ _ _ _ _ => fts_nil) (fun _ _ _ _ _ => fx_B (ow := false) (cr_sumA rfl) snd_sumA B.sum (fa_cons (fx_lc (own := [("k", 13)]) (ow := false) rfl sc__law_are_sums_right.nd (fi_seq (fx_var 5)) (blk_in (own := [("k", 13)]) (N := N__law_are_sums_right) rfl (by decide +kernel)) (fun _ _ _ _ _ => fg_name (i := 13) sc__law_are_sums_right.nd) (fun _ _ _ _ _ => fts_nil) (fun _ _ _ _ _ => fx_ix (fx_ix (fx_var 1) (fx_var 14)) (fx_var 13))) fa_nil))) fa_nil))) (fss_one (fs_ret (fz := true) (fx_and (fx_callD D__law_same (hr.mono (by first | decide | omega)) (fa_cons (fx_callD D_sum_over (hr.mono (by first | decide | omega)) (fa_cons (fx_var 1) (fa_cons (fx_var 4) (fa_cons (fx_var 5) fa_nil)))) (fa_cons (fx_var 8) fa_nil))) (fx_one (fx_callD D__law_same (hr.mono (by first | decide | omega)) (fa_cons (fx_callD D_sum_over (hr.mono (by first | decide | omega)) (fa_cons (fx_var 1) (fa_cons (fx_var 4) (fa_cons (fx_var 5) fa_nil)))) (fa_cons (fx_var 8) fa_nil)))))))))))
theorem sc__law_are_rows_square : FnScope ["table", "n", "found", "i", "told"] ["table"] (defScope s__law_are_rows_square) := ⟨rfl, rfl, rfl, by decide +kernel, rfl, by decide +kernel, by decide +kernel⟩
theorem ok__law_are_rows_square (B : Bs mg) (D_sum_over : Def P w K mg base 1 "sum_over" s_sum_over ["table", "rows", "columns"] F_sum_over) (D__law_same : Def P w K mg base 9 "_law_same" s__law_same ["told", "due"] (F__law_same 8)) (E : At K mg "_law_are_rows_square" s__law_are_rows_square) : Def P w K mg base 10 "_law_are_rows_square" s__law_are_rows_square ["table"] F__law_are_rows_square :=
  def_ok 9 E sc__law_are_rows_square (fun _ _ _ _ _ _ us hl => match us, hl with | [_], _ => rfl) (fun f cdv A outer s H E hr =>
    fss_cons (fs_par2 (i := 1) (j := 2) rfl sc__law_are_rows_square.nd (fx_B (ow := false) call_len snd_len B.len (fa_cons (fx_var 0) fa_nil)) fx_int) (fss_cons (fs_for PassesOwn.never rfl (fi_range1 B.range (fx_var 1)) (fg_name (i := 3) sc__law_are_rows_square.nd) (fss_fgt [3, 4] (fss_cons (fs_set (i := 4) sc__law_are_rows_square.nd (fx_callD D_sum_over (hr.mono (by first | decide | omega)) (fa_cons (fx_var 0) (fa_cons (fx_tup (fa_cons (fx_var 3) fa_nil)) (fa_cons (fx_tupR1 rfl B.tuple B.range (fx_var 1)) fa_nil))))) (fss_cons (fs_if (ft_not (ft_truth (fx_callD D__law_same (hr.mono (by first | decide | omega)) (fa_cons (fx_var 4) (fa_cons (fx_B (ow := false) (cr_sumA rfl) snd_sumA B.sum (fa_cons (fx_ix (fx_var 0) (fx_var 3)) fa_nil)) fa_nil))))) (fss_one (fs_ret (fz := true) fx_bl)) fss_nil) (fss_one (fs_set (i := 2) sc__law_are_rows_square.nd (fx_op (ow := false) op_addA snd_add (fx_var 2) (fx_op (ow := false) op_mulX snd_mulX (fx_var 4) (fx_var 4))))))))) (fss_one (fs_ret (fz := true) (fx_cmp (op_eqA hr.units) snd_eqX (fx_var 2) (fx_op (ow := false) op_mulX snd_mulX (fx_var 1) (fx_var 1)) (nomark _))))))
theorem sc__law_is_right : FnScope ["bag", "way", "many", "p", "is_named", "is_doubled", "told", "due", "table", "again"] ["bag"] (defScope s__law_is_right) := ⟨rfl, rfl, rfl, by decide +kernel, rfl, by decide +kernel, by decide +kernel⟩
theorem ok__law_is_right (B : Bs mg) (D__law_draw : Def P w K mg base 1 "_law_draw" s__law_draw ["bag", "below"] F__law_draw) (D__law_pick : Def P w K mg base 2 "_law_pick" s__law_pick ["bag", "some"] F__law_pick) (D_doubled_table : Def P w K mg base 1 "doubled_table" s_doubled_table ["many"] F_doubled_table) (D__law_doubled : Def P w K mg base 1 "_law_doubled" s__law_doubled ["many"] F__law_doubled) (D_leftover_table : Def P w K mg base 1 "leftover_table" s_leftover_table ["p"] F_leftover_table) (D__law_leftover : Def P w K mg base 1 "_law_leftover" s__law_leftover ["p"] F__law_leftover) (D__law_same : Def P w K mg base 9 "_law_same" s__law_same ["told", "due"] (F__law_same 8)) (D__law_own_table : Def P w K mg base 4 "_law_own_table" s__law_own_table ["bag", "first"] F__law_own_table) (D__law_is_error : Def P w K mg base 10 "_law_is_error" s__law_is_error ["value", "due", "is_named"] F__law_is_error) (D__law_are_sums_right : Def P w K mg base 10 "_law_are_sums_right" s__law_are_sums_right ["bag", "table"] F__law_are_sums_right) (D__law_are_forms_told : Def P w K mg base 11 "_law_are_forms_told" s__law_are_forms_told ["bag", "table"] F__law_are_forms_told) (D__law_are_pairs_told : Def P w K mg base 11 "_law_are_pairs_told" s__law_are_pairs_told ["bag", "table"] F__law_are_pairs_told) (D__law_are_rows_square : Def P w K mg base 10 "_law_are_rows_square" s__law_are_rows_square ["table"] F__law_are_rows_square) (E : At K mg "_law_is_right" s__law_is_right) : Def P w K mg base 12 "_law_is_right" s__law_is_right ["bag"] F__law_is_right :=
  def_ok 11 E sc__law_is_right (fun _ _ _ _ _ _ us hl => match us, hl with | [_], _ => rfl) (fun f cdv A outer s H E hr =>
    fss_cons (fs_set (i := 1) sc__law_is_right.nd (fx_callD D__law_draw (hr.mono (by first | decide | omega)) (fa_cons (fx_var 0) (fa_cons fx_int fa_nil)))) (fss_cons (fs_par2 (i := 2) (j := 3) rfl sc__law_is_right.nd (fx_callD D__law_pick (hr.mono (by first | decide | omega)) (fa_cons (fx_var 0) (fa_cons (fx_lst (ow := false) (fa_cons fx_int (fa_cons fx_int (fa_cons fx_int (fa_cons fx_int (fa_cons fx_int (fa_cons fx_int (fa_cons fx_int (fa_cons fx_int (fa_cons fx_int fa_nil)))))))))) fa_nil))) (fx_callD D__law_pick (hr.mono (by first | decide | omega)) (fa_cons (fx_var 0) (fa_cons (fx_lst (ow := false) (fa_cons fx_int (fa_cons fx_int (fa_cons fx_int (fa_cons fx_int (fa_cons fx_int fa_nil)))))) fa_nil)))) (fss_cons (fs_if (ft_cmp op_lt snd_rel (fx_var 1) fx_int (nomark _)) (fss_one (fs_par2 (i := 2) (j := 3) rfl sc__law_is_right.nd (fx_ifE (ft_cmp (op_eqA hr.units) snd_eqX (fx_var 1) fx_int (nomark _)) fx_int fx_int) (fx_callD D__law_pick (hr.mono (by first | decide | omega)) (fa_cons (fx_var 0) (fa_cons (fx_lst (ow := false) (fa_cons fx_int (fa_cons fx_int (fa_cons fx_int fa_nil)))) fa_nil))))) fss_nil) (fss_cons (fs_par2 (i := 4) (j := 5) rfl sc__law_is_right.nd (fx_cmp op_gt snd_rel (fx_callD D__law_draw (hr.mono (by first | decide | omega)) (fa_cons (fx_var 0) (fa_cons fx_int fa_nil))) fx_int (nomark _)) (fx_cmp op_gt snd_rel (fx_callD D__law_draw (hr.mono (by first | decide | omega)) (fa_cons (fx_var 0) (fa_cons fx_int fa_nil))) fx_int (nomark _))) (fss_cons (fs_if (ft_cmp op_lt snd_rel (fx_var 1) fx_int (nomark _)) (fss_one (fs_set (i := 5) sc__law_is_right.nd (fx_cmp (op_eqA hr.units) snd_eqX (fx_var 1) fx_int (nomark _)))) fss_nil) (fss_cons (fs_if (ft_truth (fx_var 5)) (fss_one (fs_par2 (i := 6) (j := 7) rfl sc__law_is_right.nd (fx_ifE (ft_truth (fx_var 4)) (fx_callK0 (js := [0]) D_doubled_table (hr.mono (by first | decide | omega)) (by decide) (fun _ _ _ _ _ _ us ws h1 h2 => match us, ws, h1, h2 with | [], [_], _, _ => rfl) (fk_cons (fx_var 2) fk_nil)) (fx_callD D_doubled_table (hr.mono (by first | decide | omega)) (fa_cons (fx_var 2) fa_nil))) (fx_callD D__law_doubled (hr.mono (by first | decide | omega)) (fa_cons (fx_var 2) fa_nil)))) (fss_one (fs_par2 (i := 6) (j := 7) rfl sc__law_is_right.nd (fx_ifE (ft_truth (fx_var 4)) (fx_callK0 (js := [0]) D_leftover_table (hr.mono (by first | decide | omega)) (by decide) (fun _ _ _ _ _ _ us ws h1 h2 => match us, ws, h1, h2 with | [], [_], _, _ => rfl) (fk_cons (fx_var 3) fk_nil)) (fx_callD D_leftover_table (hr.mono (by first | decide | omega)) (fa_cons (fx_var 3) fa_nil))) (fx_callD D__law_leftover (hr.mono (by first | decide | omega)) (fa_cons (fx_var 3) fa_nil))))) (fss_cons (fs_if (ft_not (ft_truth (fx_callD D__law_same (hr.mono (by first | decide | omega)) (fa_cons (fx_var 6) (fa_cons (fx_var 7) fa_nil))))) (fss_one (fs_ret (fz := true) fx_bl)) fss_nil) (fss_cons (fs_set (i := 8) sc__law_is_right.nd (fx_callD D__law_own_table (hr.mono (by first | decide | omega)) (fa_cons (fx_var 0) (fa_cons (fx_var 7) fa_nil)))) (fss_cons (fs_if ((fw_or (ft_not (ft_truth (fx_callD D__law_is_error (hr.mono (by first | decide | omega)) (fa_cons (fx_var 8) (fa_cons fx_non (fa_cons (fx_var 4) fa_nil)))))) (fw_or1 (ft_not (ft_truth (fx_callD D__law_are_sums_right (hr.mono (by first | decide | omega)) (fa_cons (fx_var 0) (fa_cons (fx_var 8) fa_nil))))))).ft) (fss_one (fs_ret (fz := true) fx_bl)) fss_nil) (fss_cons (fs_if ((fw_or (ft_not (ft_truth (fx_callD D__law_are_forms_told (hr.mono (by first | decide | omega)) (fa_cons (fx_var 0) (fa_cons (fx_var 8) fa_nil))))) (fw_or1 ((fw_and (ft_cmp op_gt snd_rel (fx_B (ow := false) call_len snd_len B.len (fa_cons (fx_var 8) fa_nil)) fx_int (nomark _)) (fw_and1 (ft_not (ft_truth (fx_callD D__law_are_pairs_told (hr.mono (by first | decide | omega)) (fa_cons (fx_var 0) (fa_cons (fx_var 8) fa_nil))))))).ft))).ft) (fss_one (fs_ret (fz := true) fx_bl)) fss_nil) (fss_cons (fs_if (ft_cmp op_gt snd_rel (fx_B (ow := false) call_len snd_len B.len (fa_cons (fx_var 8) fa_nil)) fx_int (nomark _)) (fss_one (fs_ret (fz := true) fx_bl)) fss_nil) (fss_cons (fs_if ((fw_or (ft_not (ft_truth (fx_callD D__law_is_error (hr.mono (by first | decide | omega)) (fa_cons (fx_var 6) (fa_cons fx_non (fa_cons (fx_not (fx_var 4)) fa_nil)))))) (fw_or1 (ft_not (ft_truth (fx_callD D__law_is_error (hr.mono (by first | decide | omega)) (fa_cons (fx_var 8) (fa_cons fx_non (fa_cons fx_bl fa_nil)))))))).ft) (fss_one (fs_ret (fz := true) fx_bl)) fss_nil) (fss_cons (fs_par3 (i := 2) (j := 3) (l := 9) rfl sc__law_is_right.nd (fa_cons (fx_callD D__law_draw (hr.mono (by first | decide | omega)) (fa_cons (fx_var 0) (fa_cons fx_int fa_nil))) (fa_cons (fx_callD D__law_pick (hr.mono (by first | decide | omega)) (fa_cons (fx_var 0) (fa_cons (fx_lst (ow := false) (fa_cons fx_int (fa_cons fx_int (fa_cons fx_int (fa_cons fx_int (fa_cons fx_int (fa_cons fx_int fa_nil))))))) fa_nil))) (fa_cons (fx_callD D_leftover_table (hr.mono (by first | decide | omega)) (fa_cons fx_int fa_nil)) fa_nil)))) (fss_cons (fs_if ((fw_or (ft_not (ft_truth (fx_callD D__law_same (hr.mono (by first | decide | omega)) (fa_cons (fx_callD D_doubled_table (hr.mono (by first | decide | omega)) (fa_cons (fx_var 2) fa_nil)) (fa_cons (fx_callD D__law_doubled (hr.mono (by first | decide | omega)) (fa_cons (fx_var 2) fa_nil)) fa_nil))))) (fw_or1 (ft_not (ft_truth (fx_callD D__law_same (hr.mono (by first | decide | omega)) (fa_cons (fx_callD D_leftover_table (hr.mono (by first | decide | omega)) (fa_cons (fx_var 3) fa_nil)) (fa_cons (fx_callD D__law_leftover (hr.mono (by first | decide | omega)) (fa_cons (fx_var 3) fa_nil)) fa_nil))))))).ft) (fss_one (fs_ret (fz := true) fx_bl)) fss_nil) (fss_one (fs_ret (fz := true) (fx_and (fx_callD D__law_are_rows_square (hr.mono (by first | decide | omega)) (fa_cons (fx_var 8) fa_nil)) (fx_and (fx_callD D__law_is_error (hr.mono (by first | decide | omega)) (fa_cons (fx_var 9) (fa_cons fx_non (fa_cons fx_bl fa_nil)))) (fx_one (fx_callD D__law_same (hr.mono (by first | decide | omega)) (fa_cons (fx_var 9) (fa_cons (fx_callD D__law_leftover (hr.mono (by first | decide | omega)) (fa_cons fx_int fa_nil)) fa_nil))))))))))))))))))))))
theorem sc_law : FnScope ["script"] ["script"] (defScope s_law) := ⟨rfl, rfl, rfl, by decide +kernel, rfl, by decide +kernel, by decide +kernel⟩
theorem ok_law (B : Bs mg) (D__law_is_right : Def P w K mg base 12 "_law_is_right" s__law_is_right ["bag"] F__law_is_right) (D__law_own_bag : Def P w K mg base 1 "_law_own_bag" s__law_own_bag ["script"] F__law_own_bag) (E : At K mg "law" s_law) : Def P w K mg base 13 "law" s_law ["script"] F_law :=
  def_ok 12 E sc_law (fun _ _ _ _ _ _ us hl => match us, hl with | [_], _ => rfl) (fun f cdv A outer s H E hr =>
    fss_one (fs_try (fss_one (fs_ret (fz := true) (fx_callO D__law_is_right (hr.mono (by first | decide | omega)) (fx_callD D__law_own_bag (hr.mono (by first | decide | omega)) (fa_cons (fx_var 0) fa_nil)))))))
end
section
variable {P : Program} {w : World} {K : PySem.W.Frag} {mg : Str → Option Value} {base : Heap}
theorem defs_all (B : Bs mg) (E_is_integer : At K mg "is_integer" s_is_integer) (E_is_sign_row : At K mg "is_sign_row" s_is_sign_row) (E_table_error : At K mg "table_error" s_table_error) (E_doubled_table : At K mg "doubled_table" s_doubled_table) (E_leftover_table : At K mg "leftover_table" s_leftover_table) (E_sum_over : At K mg "sum_over" s_sum_over) (E_best_rows : At K mg "best_rows" s_best_rows) (E__law_own_bag : At K mg "_law_own_bag" s__law_own_bag) (E__law_draw : At K mg "_law_draw" s__law_draw) (E__law_pick : At K mg "_law_pick" s__law_pick) (E__law_same : At K mg "_law_same" s__law_same) (E__law_doubled : At K mg "_law_doubled" s__law_doubled) (E__law_leftover : At K mg "_law_leftover" s__law_leftover) (E__law_order : At K mg "_law_order" s__law_order) (E__law_about : At K mg "_law_about" s__law_about) (E__law_led : At K mg "_law_led" s__law_led) (E__law_own_table : At K mg "_law_own_table" s__law_own_table) (E__law_lot : At K mg "_law_lot" s__law_lot) (E__law_sums : At K mg "_law_sums" s__law_sums) (E__law_best : At K mg "_law_best" s__law_best) (E__law_least_pair : At K mg "_law_least_pair" s__law_least_pair) (E__law_put : At K mg "_law_put" s__law_put) (E__law_is_error : At K mg "_law_is_error" s__law_is_error) (E__law_are_pairs_told : At K mg "_law_are_pairs_told" s__law_are_pairs_told) (E__law_are_forms_told : At K mg "_law_are_forms_told" s__law_are_forms_told) (E__law_are_sums_right : At K mg "_law_are_sums_right" s__law_are_sums_right) (E__law_are_rows_square : At K mg "_law_are_rows_square" s__law_are_rows_square) (E__law_is_right : At K mg "_law_is_right" s__law_is_right) (E_law : At K mg "law" s_law) : Def P w K mg base 13 "law" s_law ["script"] F_law := by
  have D_is_integer := ok_is_integer (P := P) (w := w) (base := base) B E_is_integer
  have D_is_sign_row := ok_is_sign_row (P := P) (w := w) (base := base) B D_is_integer E_is_sign_row
  have D_table_error := ok_table_error (P := P) (w := w) (base := base) B D_is_sign_row E_table_error
  have D_doubled_table := ok_doubled_table (P := P) (w := w) (base := base) B E_doubled_table
  have D_leftover_table := ok_leftover_table (P := P) (w := w) (base := base) B E_leftover_table
  have D_sum_over := ok_sum_over (P := P) (w := w) (base := base) B E_sum_over
  have D_best_rows := ok_best_rows (P := P) (w := w) (base := base) B E_best_rows
  have D__law_own_bag := ok__law_own_bag (P := P) (w := w) (base := base) B E__law_own_bag
  have D__law_draw := ok__law_draw (P := P) (w := w) (base := base) B E__law_draw
  have D__law_pick := ok__law_pick (P := P) (w := w) (base := base) B D__law_draw E__law_pick
  have D__law_same := ok__law_same (P := P) (w := w) (base := base) B E__law_same 8
  have D__law_doubled := ok__law_doubled (P := P) (w := w) (base := base) B E__law_doubled
  have D__law_leftover := ok__law_leftover (P := P) (w := w) (base := base) B E__law_leftover
  have D__law_order := ok__law_order (P := P) (w := w) (base := base) B D__law_draw E__law_order
  have D__law_about := ok__law_about (P := P) (w := w) (base := base) B E__law_about
  have D__law_led := ok__law_led (P := P) (w := w) (base := base) B D__law_draw D__law_order E__law_led
  have D__law_own_table := ok__law_own_table (P := P) (w := w) (base := base) B D__law_draw D__law_led D__law_about E__law_own_table
  have D__law_lot := ok__law_lot (P := P) (w := w) (base := base) B D__law_draw E__law_lot
  have D__law_sums := ok__law_sums (P := P) (w := w) (base := base) B E__law_sums
  have D__law_best := ok__law_best (P := P) (w := w) (base := base) B E__law_best
  have D__law_least_pair := ok__law_least_pair (P := P) (w := w) (base := base) B E__law_least_pair
  have D__law_put := ok__law_put (P := P) (w := w) (base := base) B E__law_put
  have D__law_is_error := ok__law_is_error (P := P) (w := w) (base := base) B D__law_same D_table_error E__law_is_error
  have D__law_are_pairs_told := ok__law_are_pairs_told (P := P) (w := w) (base := base) B D__law_pick D__law_draw D__law_put D__law_least_pair D__law_is_error E__law_are_pairs_told
  have D__law_are_forms_told := ok__law_are_forms_told (P := P) (w := w) (base := base) B D__law_pick D__law_draw D__law_put D__law_doubled D__law_is_error E__law_are_forms_told
  have D__law_are_sums_right := ok__law_are_sums_right (P := P) (w := w) (base := base) B D__law_draw D__law_lot D__law_sums D__law_best D_sum_over D_best_rows D__law_same E__law_are_sums_right
  have D__law_are_rows_square := ok__law_are_rows_square (P := P) (w := w) (base := base) B D_sum_over D__law_same E__law_are_rows_square
  have D__law_is_right := ok__law_is_right (P := P) (w := w) (base := base) B D__law_draw D__law_pick D_doubled_table D__law_doubled D_leftover_table D__law_leftover D__law_same D__law_own_table D__law_is_error D__law_are_sums_right D__law_are_forms_told D__law_are_pairs_told D__law_are_rows_square E__law_is_right
  have D_law := ok_law (P := P) (w := w) (base := base) B D__law_is_right D__law_own_bag E_law
  exact D_law
theorem all_mk {h : Heap} {fa : Addr} (X : K.In h) (G : h.Ns mainGlobals mg) (hfa : mg "law" = some (.ref fa)) (B : Bs mg) (E_is_integer : At K mg "is_integer" s_is_integer) (E_is_sign_row : At K mg "is_sign_row" s_is_sign_row) (E_table_error : At K mg "table_error" s_table_error) (E_doubled_table : At K mg "doubled_table" s_doubled_table) (E_leftover_table : At K mg "leftover_table" s_leftover_table) (E_sum_over : At K mg "sum_over" s_sum_over) (E_best_rows : At K mg "best_rows" s_best_rows) (E__law_own_bag : At K mg "_law_own_bag" s__law_own_bag) (E__law_draw : At K mg "_law_draw" s__law_draw) (E__law_pick : At K mg "_law_pick" s__law_pick) (E__law_same : At K mg "_law_same" s__law_same) (E__law_doubled : At K mg "_law_doubled" s__law_doubled) (E__law_leftover : At K mg "_law_leftover" s__law_leftover) (E__law_order : At K mg "_law_order" s__law_order) (E__law_about : At K mg "_law_about" s__law_about) (E__law_led : At K mg "_law_led" s__law_led) (E__law_own_table : At K mg "_law_own_table" s__law_own_table) (E__law_lot : At K mg "_law_lot" s__law_lot) (E__law_sums : At K mg "_law_sums" s__law_sums) (E__law_best : At K mg "_law_best" s__law_best) (E__law_least_pair : At K mg "_law_least_pair" s__law_least_pair) (E__law_put : At K mg "_law_put" s__law_put) (E__law_is_error : At K mg "_law_is_error" s__law_is_error) (E__law_are_pairs_told : At K mg "_law_are_pairs_told" s__law_are_pairs_told) (E__law_are_forms_told : At K mg "_law_are_forms_told" s__law_are_forms_told) (E__law_are_sums_right : At K mg "_law_are_sums_right" s__law_are_sums_right) (E__law_are_rows_square : At K mg "_law_are_rows_square" s__law_are_rows_square) (E__law_is_right : At K mg "_law_is_right" s__law_is_right) (E_law : At K mg "law" s_law) :
    ∃ fd : FuncData, (∀ (s : Shared) (v : Value), BindsTo s fd ⟨[v], []⟩ [("script", v)]) ∧ ∀ base : Heap, K.In base → base.Ns mainGlobals mg → FnG P w K mg base 13 fa fd ["script"] (spF K F_law) :=
  end_mk X G hfa fun base _ _ => defs_all B E_is_integer E_is_sign_row E_table_error E_doubled_table E_leftover_table E_sum_over E_best_rows E__law_own_bag E__law_draw E__law_pick E__law_same E__law_doubled E__law_leftover E__law_order E__law_about E__law_led E__law_own_table E__law_lot E__law_sums E__law_best E__law_least_pair E__law_put E__law_is_error E__law_are_pairs_told E__law_are_forms_told E__law_are_sums_right E__law_are_rows_square E__law_is_right E_law
end
end Lw

end

/-! K48: the bag, what is alike, what is wrong with a table -/
noncomputable section
namespace Lw
open PySem PySem.Spec PyProof.Rows L2 Fx

theorem draw_is : F__law_draw = drawF := rfl
theorem pick_is : F__law_pick = pickF drawF := rfl
theorem draw {B : MD} (hB : BagOk B) {n : Int} (h1 : 0 < n) (h2 : n < 2 ^ 64) : ∃ v B', F__law_draw [B, .dat (.int n)] = some (.dat (.int v), [some B', none]) ∧ BagOk B' ∧ 0 ≤ v ∧ v < n := drawF_ok hB h1 h2
theorem drawN {B : MD} (hB : BagOk B) {n : Nat} (h1 : 0 < n) (h2 : n < 2 ^ 64) : ∃ (v : Nat) (B' : MD), F__law_draw [B, .dat (.int n)] = some (.dat (.int v), [some B', none]) ∧ BagOk B' ∧ v < n := by
  obtain ⟨v, B', e, hB', v0, vn⟩ := draw hB (n := n) (by omega) (by omega)
  obtain ⟨w, rfl⟩ := Int.eq_ofNat_of_zero_le v0
  exact ⟨w, B', e, hB', by omega⟩
theorem pick {B : MD} (hB : BagOk B) {ds : List PyData} (h0 : ds ≠ []) (hl : ds.length < 100) : ∃ d B', F__law_pick [B, .dat (.list ds)] = some (.dat d, [some B', none]) ∧ BagOk B' ∧ d ∈ ds :=
  pickF_ok (D := drawF) (fun B n h h1 h2 => drawF_ok h h1 h2) hB h0 (by omega)
theorem own_bag_ok (ns : List Int) (hl : ns.length ≤ 63) : ∃ B, F__law_own_bag [.scr ns] = some (B, [none]) ∧ BagOk B := by
  have e1 : loopL (gN 3) tYesF e1__law_own_bag [3] (ns.map .int) [] [some (.scr ns), none, none, none] = some ([] ++ ns.map (fun i => .int (if i < 0 then -i else i)), [some (.scr ns), none, none, none]) :=
    loopL_map (by simp [sizeLine_eq]; omega) fun x _ => by simp [fnOf, fSeq, fNil, fSet, fRet, fDrop, fIf, fFgt, fgtO, fgt, fFor, fIfE, fT, fTru, truD, fAnd, fOr, fNot, fAndV, fOrV, fNotV, fOp2, fVar, fC, fB, fACons, fANil, fTup, fLst, fNeg, gRel, gInt2, gInt2C, gAdd, gMulX_int, gIx, gLen, gAbs, gInt, gEq, gIs, gIsNot, dv_dat, dv_lst, dv_al, dvs, own_dat, own_lst, own_bag, own_dcK, own_scr, flat_dat, flat_lst, Res.fin, frzs_nil, frzs_cons, frz_dat, intT_int, outs, als, argsOf, putArgs, fCall, eqv_int, shp_int, shp_none, shp_bool, noOwn, ownAt, sizeLine_eq, fIter, itemsOf, fRange1, fRange2, eqX_int, eqX_str, fEnumA, fFrz, fNever, permOk, perm, fCallK, fCallP, gMax2, gMin2, gMax3, gMin3, fPar2, fMulti, putM, fAsgG, fLc, lcStep, lsStep, tYesF, gN, gT, gsCons, gsNil, e1__law_own_bag]
  obtain ⟨cs, ecs⟩ : ∃ cs : List Int, ns.map (fun i => PyData.int (if i < 0 then -i else i)) = cs.map .int := ⟨ns.map fun i => if i < 0 then -i else i, by simp⟩
  have lcs : cs.length ≤ 63 := by
    have := congrArg List.length ecs
    simp at this
    omega
  rw [ecs] at e1
  have h7 : ∀ i : Int, divOk i 2147483629 = true := fun i => divOk_of (by decide) (Nat.lt_of_lt_of_le (by decide) big64)
  obtain ⟨e2, m0, m1⟩ := loopS_foldI (tg := gN 3) (b := b2__law_own_bag) (g := PyData.int) (st := fun m : Int => [some (.scr ns), some (.dat (.list (cs.map .int))), some (.dat (.int m)), none])
    (f := fun m x => (m * 48271 + x % 2147483629 + 7) % 2147483647) (fun m => 0 ≤ m ∧ m < 2147483647) cs (4848 + cs.length) ⟨by omega, by omega⟩ fun x _ m hm => by
      have h8 : mulOk m 48271 = true := mulOk_of (Nat.lt_of_lt_of_le (by omega) big64) (Nat.lt_of_lt_of_le (by decide) big64)
      exact ⟨by simp [fnOf, fSeq, fNil, fSet, fRet, fDrop, fIf, fFgt, fgtO, fgt, fFor, fIfE, fT, fTru, truD, fAnd, fOr, fNot, fAndV, fOrV, fNotV, fOp2, fVar, fC, fB, fACons, fANil, fTup, fLst, fNeg, gRel, gInt2, gInt2C, gAdd, gMulX_int, gIx, gLen, gAbs, gInt, gEq, gIs, gIsNot, dv_dat, dv_lst, dv_al, dvs, own_dat, own_lst, own_bag, own_dcK, own_scr, flat_dat, flat_lst, Res.fin, frzs_nil, frzs_cons, frz_dat, intT_int, outs, als, argsOf, putArgs, fCall, eqv_int, shp_int, shp_none, shp_bool, noOwn, ownAt, sizeLine_eq, fIter, itemsOf, fRange1, fRange2, eqX_int, eqX_str, fEnumA, fFrz, fNever, permOk, perm, fCallK, fCallP, gMax2, gMin2, gMax3, gMin3, fPar2, fMulti, putM, fAsgG, fLc, lcStep, lsStep, tYesF, gN, gT, gsCons, gsNil, b2__law_own_bag, h8], Int.emod_nonneg _ (by omega), Int.emod_lt_of_pos _ (by omega)⟩
  refine ⟨.bag cs.reverse 0 _, ?_, _, _, _, rfl, by simpa using lcs, m0, m1⟩
  have e3 : intsOf (cs.map PyData.int).reverse = some cs.reverse := by rw [← List.map_reverse]; exact intsOf_map _
  simp only [List.nil_append] at e1
  simp [fnOf, fSeq, fNil, fSet, fRet, fDrop, fIf, fFgt, fgtO, fgt, fFor, fIfE, fT, fTru, truD, fAnd, fOr, fNot, fAndV, fOrV, fNotV, fOp2, fVar, fC, fB, fACons, fANil, fTup, fLst, fNeg, gRel, gInt2, gInt2C, gAdd, gMulX_int, gIx, gLen, gAbs, gInt, gEq, gIs, gIsNot, dv_dat, dv_lst, dv_al, dvs, own_dat, own_lst, own_bag, own_dcK, own_scr, flat_dat, flat_lst, Res.fin, frzs_nil, frzs_cons, frz_dat, intT_int, outs, als, argsOf, putArgs, fCall, eqv_int, shp_int, shp_none, shp_bool, noOwn, ownAt, sizeLine_eq, fIter, itemsOf, fRange1, fRange2, eqX_int, eqX_str, fEnumA, fFrz, fNever, permOk, perm, fCallK, fCallP, gMax2, gMin2, gMax3, gMin3, fPar2, fMulti, putM, fAsgG, fLc, F__law_own_bag, fSlice, fONo, fOSo, dvS, gSl, cut63, hl, e1, e2, fMkBag, fListRev, gToL, e3]
theorem kit9 : kitB "NoneType" "bool" = some false := by decide
theorem kit10 : kitB "str" "bool" = some false := by decide
theorem kit11 : kitB "tuple" "bool" = some false := by decide
theorem kit12 : kitB "tuple" "int" = some false := by decide
theorem kit13 : kitB "tuple" "str" = some false := by decide
theorem kit14 : kitB "str" "int" = some false := by decide
theorem kit15 : kitB "NoneType" "int" = some false := by decide
theorem kit16 : kitB "bool" "int" = some true := by decide
theorem kit17 : kitB "bool" "bool" = some true := by decide
theorem kit18 : kitB "list" "int" = some false := by decide
theorem kit19 : kitB "list" "tuple" = some false := by decide
theorem kit20 : kitB "dict" "tuple" = some false := by decide
theorem kit21 : kitB "bool" "tuple" = some false := by decide
theorem same_ok : ∀ (n : Nat) (d : PyData), Plain n d → F__law_same n [.dat d, .dat d] = some (.dat (.bool true), [none, none])
  | 0, _, h => by cases h
  | n + 1, _, h => by
    cases h with
    | int _ i => simp [fnOf, fSeq, fNil, fSet, fRet, fDrop, fIf, fFgt, fgtO, fgt, fFor, fIfE, fT, fTru, truD, fAnd, fOr, fNot, fAndV, fOrV, fNotV, fOp2, fVar, fC, fB, fACons, fANil, fTup, fLst, fNeg, gRel, gInt2, gInt2C, gAdd, gMulX_int, gIx, gLen, gAbs, gInt, gEq, gIs, gIsNot, dv_dat, dv_lst, dv_al, dvs, own_dat, own_lst, own_bag, own_dcK, own_scr, flat_dat, flat_lst, Res.fin, frzs_nil, frzs_cons, frz_dat, intT_int, outs, als, argsOf, putArgs, fCall, eqv_int, shp_int, shp_none, shp_bool, noOwn, ownAt, sizeLine_eq, fIter, itemsOf, fRange1, fRange2, eqX_int, eqX_str, fEnumA, fFrz, fNever, permOk, perm, fCallK, fCallP, gMax2, gMin2, gMax3, gMin3, fPar2, fMulti, putM, fAsgG, fLc, F__law_same, fIsi, tyN, kit2, kit5, kit7, kit8, Fx.isNon]
    | str _ x h1 h2 h3 => simp [fnOf, fSeq, fNil, fSet, fRet, fDrop, fIf, fFgt, fgtO, fgt, fFor, fIfE, fT, fTru, truD, fAnd, fOr, fNot, fAndV, fOrV, fNotV, fOp2, fVar, fC, fB, fACons, fANil, fTup, fLst, fNeg, gRel, gInt2, gInt2C, gAdd, gMulX_int, gIx, gLen, gAbs, gInt, gEq, gIs, gIsNot, dv_dat, dv_lst, dv_al, dvs, own_dat, own_lst, own_bag, own_dcK, own_scr, flat_dat, flat_lst, Res.fin, frzs_nil, frzs_cons, frz_dat, intT_int, outs, als, argsOf, putArgs, fCall, eqv_int, shp_int, shp_none, shp_bool, noOwn, ownAt, sizeLine_eq, fIter, itemsOf, fRange1, fRange2, eqX_int, eqX_str, fEnumA, fFrz, fNever, permOk, perm, fCallK, fCallP, gMax2, gMin2, gMax3, gMin3, fPar2, fMulti, putM, fAsgG, fLc, F__law_same, fIsi, tyN, kit3, kit6, Fx.isNon]
    | non => simp [fnOf, fSeq, fNil, fSet, fRet, fDrop, fIf, fFgt, fgtO, fgt, fFor, fIfE, fT, fTru, truD, fAnd, fOr, fNot, fAndV, fOrV, fNotV, fOp2, fVar, fC, fB, fACons, fANil, fTup, fLst, fNeg, gRel, gInt2, gInt2C, gAdd, gMulX_int, gIx, gLen, gAbs, gInt, gEq, gIs, gIsNot, dv_dat, dv_lst, dv_al, dvs, own_dat, own_lst, own_bag, own_dcK, own_scr, flat_dat, flat_lst, Res.fin, frzs_nil, frzs_cons, frz_dat, intT_int, outs, als, argsOf, putArgs, fCall, eqv_int, shp_int, shp_none, shp_bool, noOwn, ownAt, sizeLine_eq, fIter, itemsOf, fRange1, fRange2, eqX_int, eqX_str, fEnumA, fFrz, fNever, permOk, perm, fCallK, fCallP, gMax2, gMin2, gMax3, gMin3, fPar2, fMulti, putM, fAsgG, fLc, F__law_same, fIsi, tyN, kit4, Fx.isNon]
    | tup _ ds h1 h2 =>
      have e1 : loopL (gT 2 (gsCons (gN 2) (gsCons (gN 3) gsNil))) tYesF (e1__law_same (F__law_same n)) [2, 3] (ds.map fun d => .tuple [d, d]) [] [some (.dat (.tuple ds)), some (.dat (.tuple ds)), none, none] = some ([] ++ ds.map (fun _ => PyData.bool true), [some (.dat (.tuple ds)), some (.dat (.tuple ds)), none, none]) :=
        loopL_map (by simpa using h1) fun x hx => by
          have := same_ok n x (h2 x hx)
          simp [fnOf, fSeq, fNil, fSet, fRet, fDrop, fIf, fFgt, fgtO, fgt, fFor, fIfE, fT, fTru, truD, fAnd, fOr, fNot, fAndV, fOrV, fNotV, fOp2, fVar, fC, fB, fACons, fANil, fTup, fLst, fNeg, gRel, gInt2, gInt2C, gAdd, gMulX_int, gIx, gLen, gAbs, gInt, gEq, gIs, gIsNot, dv_dat, dv_lst, dv_al, dvs, own_dat, own_lst, own_bag, own_dcK, own_scr, flat_dat, flat_lst, Res.fin, frzs_nil, frzs_cons, frz_dat, intT_int, outs, als, argsOf, putArgs, fCall, eqv_int, shp_int, shp_none, shp_bool, noOwn, ownAt, sizeLine_eq, fIter, itemsOf, fRange1, fRange2, eqX_int, eqX_str, fEnumA, fFrz, fNever, permOk, perm, fCallK, fCallP, gMax2, gMin2, gMax3, gMin3, fPar2, fMulti, putM, fAsgG, fLc, lcStep, lsStep, tYesF, gN, gT, gsCons, gsNil, e1__law_same, this]
      rw [List.nil_append] at e1
      simp [fnOf, fSeq, fNil, fSet, fRet, fDrop, fIf, fFgt, fgtO, fgt, fFor, fIfE, fT, fTru, truD, fAnd, fOr, fNot, fAndV, fOrV, fNotV, fOp2, fVar, fC, fB, fACons, fANil, fTup, fLst, fNeg, gRel, gInt2, gInt2C, gAdd, gMulX_int, gIx, gLen, gAbs, gInt, gEq, gIs, gIsNot, dv_dat, dv_lst, dv_al, dvs, own_dat, own_lst, own_bag, own_dcK, own_scr, flat_dat, flat_lst, Res.fin, frzs_nil, frzs_cons, frz_dat, intT_int, outs, als, argsOf, putArgs, fCall, eqv_int, shp_int, shp_none, shp_bool, noOwn, ownAt, sizeLine_eq, fIter, itemsOf, fRange1, fRange2, eqX_int, eqX_str, fEnumA, fFrz, fNever, permOk, perm, fCallK, fCallP, gMax2, gMin2, gMax3, gMin3, fPar2, fMulti, putM, fAsgG, fLc, F__law_same, fIsi, tyN, kit1, kit2, kit3, kit4, kit5, kit6, kit7, kit8, Fx.isNon, fListZip, zipD_self, e1, gAll_true]
theorem plain_up {n m : Nat} (h : n ≤ m) : ∀ {d : PyData}, Plain n d → Plain m d := by
  induction n generalizing m with
  | zero => intro d h; cases h
  | succ n ih =>
    intro d hd
    obtain ⟨m, rfl⟩ : ∃ k, m = k + 1 := ⟨m - 1, by omega⟩
    cases hd with
    | int => exact .int _ _
    | str _ x h1 h2 h3 => exact .str _ _ h1 h2 h3
    | non => exact .non _
    | tup _ ds h1 h2 => exact .tup _ _ h1 fun d hd => ih (by omega) (h2 d hd)
theorem same8 {n : Nat} {d : PyData} (h : Plain n d) (hn : n ≤ 8) : F__law_same 8 [.dat d, .dat d] = some (.dat (.bool true), [none, none]) := same_ok 8 d (plain_up hn h)
theorem same_int (i : Int) : F__law_same 8 [.dat (.int i), .dat (.int i)] = some (.dat (.bool true), [none, none]) := same8 (.int 0 i) (by decide)
theorem ints_plain (l : List Int) (h : l.length ≤ sizeLine) : Plain 2 (.tuple (l.map .int)) := .tup _ _ (by simpa using h) fun d hd => by
  obtain ⟨i, _, rfl⟩ := List.mem_map.mp hd
  exact .int _ _

/-! ### tables as data -/
abbrev rowD (l : List Int) : PyData := .tuple (l.map .int)
abbrev tabD (T : M48.Tab) : PyData := .tuple (T.map rowD)
theorem tab_plain (T : M48.Tab) (h : T.length ≤ sizeLine) (h2 : ∀ r ∈ T, r.length ≤ sizeLine) : Plain 3 (tabD T) := .tup _ _ (by simpa using h) fun d hd => by
  obtain ⟨r, hr, rfl⟩ := List.mem_map.mp hd
  exact ints_plain r (h2 r hr)

/-! ### is_sign_row -/
def sgItem : PyData → Bool
  | .int i => i == 1 || i == -1
  | _ => false
def sgRow (n : Nat) : PyData → Bool
  | .tuple ds => decide (ds.length = n) && ds.all sgItem
  | _ => false
/-- what the tables of this law are made of -/
def Dec : PyData → Prop
  | .tuple ds => ds.length ≤ sizeLine
  | _ => True
def isIntD : PyData → Bool
  | .int _ => true
  | _ => false
theorem kit22 : kitB "dict" "int" = some false := by decide
theorem is_integer_ok (d : PyData) : F_is_integer [.dat d] = some (.dat (.bool (isIntD d)), [none]) := by
  cases d with
  | int i => simp [fnOf, fSeq, fNil, fSet, fRet, fDrop, fIf, fFgt, fgtO, fgt, fFor, fIfE, fT, fTru, truD, fAnd, fOr, fNot, fAndV, fOrV, fNotV, fOp2, fVar, fC, fB, fACons, fANil, fTup, fLst, fNeg, gRel, gInt2, gInt2C, gAdd, gMulX_int, gIx, gLen, gAbs, gInt, gEq, gIs, gIsNot, dv_dat, dv_lst, dv_al, dvs, own_dat, own_lst, own_bag, own_dcK, own_scr, flat_dat, flat_lst, Res.fin, frzs_nil, frzs_cons, frz_dat, intT_int, outs, als, argsOf, putArgs, fCall, eqv_int, shp_int, shp_none, shp_bool, noOwn, ownAt, sizeLine_eq, fIter, itemsOf, fRange1, fRange2, eqX_int, eqX_str, fEnumA, fFrz, fNever, permOk, perm, fCallK, fCallP, gMax2, gMin2, gMax3, gMin3, fPar2, fMulti, putM, fAsgG, fLc, F_is_integer, fIsi, tyN, kit7, kit8, isIntD]
  | str x => simp [fnOf, fSeq, fNil, fSet, fRet, fDrop, fIf, fFgt, fgtO, fgt, fFor, fIfE, fT, fTru, truD, fAnd, fOr, fNot, fAndV, fOrV, fNotV, fOp2, fVar, fC, fB, fACons, fANil, fTup, fLst, fNeg, gRel, gInt2, gInt2C, gAdd, gMulX_int, gIx, gLen, gAbs, gInt, gEq, gIs, gIsNot, dv_dat, dv_lst, dv_al, dvs, own_dat, own_lst, own_bag, own_dcK, own_scr, flat_dat, flat_lst, Res.fin, frzs_nil, frzs_cons, frz_dat, intT_int, outs, als, argsOf, putArgs, fCall, eqv_int, shp_int, shp_none, shp_bool, noOwn, ownAt, sizeLine_eq, fIter, itemsOf, fRange1, fRange2, eqX_int, eqX_str, fEnumA, fFrz, fNever, permOk, perm, fCallK, fCallP, gMax2, gMin2, gMax3, gMin3, fPar2, fMulti, putM, fAsgG, fLc, F_is_integer, fIsi, tyN, kit14, isIntD]
  | none => simp [fnOf, fSeq, fNil, fSet, fRet, fDrop, fIf, fFgt, fgtO, fgt, fFor, fIfE, fT, fTru, truD, fAnd, fOr, fNot, fAndV, fOrV, fNotV, fOp2, fVar, fC, fB, fACons, fANil, fTup, fLst, fNeg, gRel, gInt2, gInt2C, gAdd, gMulX_int, gIx, gLen, gAbs, gInt, gEq, gIs, gIsNot, dv_dat, dv_lst, dv_al, dvs, own_dat, own_lst, own_bag, own_dcK, own_scr, flat_dat, flat_lst, Res.fin, frzs_nil, frzs_cons, frz_dat, intT_int, outs, als, argsOf, putArgs, fCall, eqv_int, shp_int, shp_none, shp_bool, noOwn, ownAt, sizeLine_eq, fIter, itemsOf, fRange1, fRange2, eqX_int, eqX_str, fEnumA, fFrz, fNever, permOk, perm, fCallK, fCallP, gMax2, gMin2, gMax3, gMin3, fPar2, fMulti, putM, fAsgG, fLc, F_is_integer, fIsi, tyN, kit15, isIntD]
  | bool b => simp [fnOf, fSeq, fNil, fSet, fRet, fDrop, fIf, fFgt, fgtO, fgt, fFor, fIfE, fT, fTru, truD, fAnd, fOr, fNot, fAndV, fOrV, fNotV, fOp2, fVar, fC, fB, fACons, fANil, fTup, fLst, fNeg, gRel, gInt2, gInt2C, gAdd, gMulX_int, gIx, gLen, gAbs, gInt, gEq, gIs, gIsNot, dv_dat, dv_lst, dv_al, dvs, own_dat, own_lst, own_bag, own_dcK, own_scr, flat_dat, flat_lst, Res.fin, frzs_nil, frzs_cons, frz_dat, intT_int, outs, als, argsOf, putArgs, fCall, eqv_int, shp_int, shp_none, shp_bool, noOwn, ownAt, sizeLine_eq, fIter, itemsOf, fRange1, fRange2, eqX_int, eqX_str, fEnumA, fFrz, fNever, permOk, perm, fCallK, fCallP, gMax2, gMin2, gMax3, gMin3, fPar2, fMulti, putM, fAsgG, fLc, F_is_integer, fIsi, tyN, kit16, kit17, isIntD]
  | tuple ds => simp [fnOf, fSeq, fNil, fSet, fRet, fDrop, fIf, fFgt, fgtO, fgt, fFor, fIfE, fT, fTru, truD, fAnd, fOr, fNot, fAndV, fOrV, fNotV, fOp2, fVar, fC, fB, fACons, fANil, fTup, fLst, fNeg, gRel, gInt2, gInt2C, gAdd, gMulX_int, gIx, gLen, gAbs, gInt, gEq, gIs, gIsNot, dv_dat, dv_lst, dv_al, dvs, own_dat, own_lst, own_bag, own_dcK, own_scr, flat_dat, flat_lst, Res.fin, frzs_nil, frzs_cons, frz_dat, intT_int, outs, als, argsOf, putArgs, fCall, eqv_int, shp_int, shp_none, shp_bool, noOwn, ownAt, sizeLine_eq, fIter, itemsOf, fRange1, fRange2, eqX_int, eqX_str, fEnumA, fFrz, fNever, permOk, perm, fCallK, fCallP, gMax2, gMin2, gMax3, gMin3, fPar2, fMulti, putM, fAsgG, fLc, F_is_integer, fIsi, tyN, kit12, isIntD]
  | list ds => simp [fnOf, fSeq, fNil, fSet, fRet, fDrop, fIf, fFgt, fgtO, fgt, fFor, fIfE, fT, fTru, truD, fAnd, fOr, fNot, fAndV, fOrV, fNotV, fOp2, fVar, fC, fB, fACons, fANil, fTup, fLst, fNeg, gRel, gInt2, gInt2C, gAdd, gMulX_int, gIx, gLen, gAbs, gInt, gEq, gIs, gIsNot, dv_dat, dv_lst, dv_al, dvs, own_dat, own_lst, own_bag, own_dcK, own_scr, flat_dat, flat_lst, Res.fin, frzs_nil, frzs_cons, frz_dat, intT_int, outs, als, argsOf, putArgs, fCall, eqv_int, shp_int, shp_none, shp_bool, noOwn, ownAt, sizeLine_eq, fIter, itemsOf, fRange1, fRange2, eqX_int, eqX_str, fEnumA, fFrz, fNever, permOk, perm, fCallK, fCallP, gMax2, gMin2, gMax3, gMin3, fPar2, fMulti, putM, fAsgG, fLc, F_is_integer, fIsi, tyN, kit18, isIntD]
  | dict ds => simp [fnOf, fSeq, fNil, fSet, fRet, fDrop, fIf, fFgt, fgtO, fgt, fFor, fIfE, fT, fTru, truD, fAnd, fOr, fNot, fAndV, fOrV, fNotV, fOp2, fVar, fC, fB, fACons, fANil, fTup, fLst, fNeg, gRel, gInt2, gInt2C, gAdd, gMulX_int, gIx, gLen, gAbs, gInt, gEq, gIs, gIsNot, dv_dat, dv_lst, dv_al, dvs, own_dat, own_lst, own_bag, own_dcK, own_scr, flat_dat, flat_lst, Res.fin, frzs_nil, frzs_cons, frz_dat, intT_int, outs, als, argsOf, putArgs, fCall, eqv_int, shp_int, shp_none, shp_bool, noOwn, ownAt, sizeLine_eq, fIter, itemsOf, fRange1, fRange2, eqX_int, eqX_str, fEnumA, fFrz, fNever, permOk, perm, fCallK, fCallP, gMax2, gMin2, gMax3, gMin3, fPar2, fMulti, putM, fAsgG, fLc, F_is_integer, fIsi, tyN, kit22, isIntD]
theorem gAll_bools (l : List Bool) : gAll [.list (l.map PyData.bool)] = some (.val (.bool (l.all id))) := by
  show (boolsOf (l.map PyData.bool)).map (fun bs => Res.val (.bool (bs.all id))) = _
  rw [boolsOf_map]
  rfl
theorem in_sign (i : Int) : gIn false (.int i) (.tuple [.int 1, .int (-1)]) = some (.val (.bool (i == 1 || i == -1))) := by
  have e : ∀ a : Int, eqF (.int a) (.int i) = (i == a) := fun a => by
    show (a == i) = (i == a)
    exact BEq.comm
  simp [gIn, flatD, e]
theorem e1_row (d a b : PyData) : e1_is_sign_row [some (.dat a), some (.dat b), some (.dat d)] = some (.md (.dat (.bool (sgItem d))), [some (.dat a), some (.dat b), some (.dat d)]) := by
  have := is_integer_ok d
  cases d with
  | int i => simp [fnOf, fSeq, fNil, fSet, fRet, fDrop, fIf, fFgt, fgtO, fgt, fFor, fIfE, fT, fTru, truD, fAnd, fOr, fNot, fAndV, fOrV, fNotV, fOp2, fVar, fC, fB, fACons, fANil, fTup, fLst, fNeg, gRel, gInt2, gInt2C, gAdd, gMulX_int, gIx, gLen, gAbs, gInt, gEq, gIs, gIsNot, dv_dat, dv_lst, dv_al, dvs, own_dat, own_lst, own_bag, own_dcK, own_scr, flat_dat, flat_lst, Res.fin, frzs_nil, frzs_cons, frz_dat, intT_int, outs, als, argsOf, putArgs, fCall, eqv_int, shp_int, shp_none, shp_bool, noOwn, ownAt, sizeLine_eq, fIter, itemsOf, fRange1, fRange2, eqX_int, eqX_str, fEnumA, fFrz, fNever, permOk, perm, fCallK, fCallP, gMax2, gMin2, gMax3, gMin3, fPar2, fMulti, putM, fAsgG, fLc, e1_is_sign_row, this, sgItem, in_sign, isIntD]
  | _ => simp [fnOf, fSeq, fNil, fSet, fRet, fDrop, fIf, fFgt, fgtO, fgt, fFor, fIfE, fT, fTru, truD, fAnd, fOr, fNot, fAndV, fOrV, fNotV, fOp2, fVar, fC, fB, fACons, fANil, fTup, fLst, fNeg, gRel, gInt2, gInt2C, gAdd, gMulX_int, gIx, gLen, gAbs, gInt, gEq, gIs, gIsNot, dv_dat, dv_lst, dv_al, dvs, own_dat, own_lst, own_bag, own_dcK, own_scr, flat_dat, flat_lst, Res.fin, frzs_nil, frzs_cons, frz_dat, intT_int, outs, als, argsOf, putArgs, fCall, eqv_int, shp_int, shp_none, shp_bool, noOwn, ownAt, sizeLine_eq, fIter, itemsOf, fRange1, fRange2, eqX_int, eqX_str, fEnumA, fFrz, fNever, permOk, perm, fCallK, fCallP, gMax2, gMin2, gMax3, gMin3, fPar2, fMulti, putM, fAsgG, fLc, e1_is_sign_row, this, sgItem, isIntD]
theorem gEqX_len (a b : Nat) (neg : Bool) : gEqX neg (.int a) (.int b) = some (.val (.bool (if neg then !decide (a = b) else decide (a = b)))) := by
  rw [eqX_int]; simp [Int.ofNat_inj]
theorem sign_row_ok {d : PyData} (h : Dec d) (n : Nat) : F_is_sign_row [.dat d, .dat (.int n)] = some (.dat (.bool (sgRow n d)), [none, none]) := by
  cases d with
  | int i => simp [fnOf, fSeq, fNil, fSet, fRet, fDrop, fIf, fFgt, fgtO, fgt, fFor, fIfE, fT, fTru, truD, fAnd, fOr, fNot, fAndV, fOrV, fNotV, fOp2, fVar, fC, fB, fACons, fANil, fTup, fLst, fNeg, gRel, gInt2, gInt2C, gAdd, gMulX_int, gIx, gLen, gAbs, gInt, gEq, gIs, gIsNot, dv_dat, dv_lst, dv_al, dvs, own_dat, own_lst, own_bag, own_dcK, own_scr, flat_dat, flat_lst, Res.fin, frzs_nil, frzs_cons, frz_dat, intT_int, outs, als, argsOf, putArgs, fCall, eqv_int, shp_int, shp_none, shp_bool, noOwn, ownAt, sizeLine_eq, fIter, itemsOf, fRange1, fRange2, eqX_int, eqX_str, fEnumA, fFrz, fNever, permOk, perm, fCallK, fCallP, gMax2, gMin2, gMax3, gMin3, fPar2, fMulti, putM, fAsgG, fLc, F_is_sign_row, fIsi, tyN, kit2, sgRow]
  | str x => simp [fnOf, fSeq, fNil, fSet, fRet, fDrop, fIf, fFgt, fgtO, fgt, fFor, fIfE, fT, fTru, truD, fAnd, fOr, fNot, fAndV, fOrV, fNotV, fOp2, fVar, fC, fB, fACons, fANil, fTup, fLst, fNeg, gRel, gInt2, gInt2C, gAdd, gMulX_int, gIx, gLen, gAbs, gInt, gEq, gIs, gIsNot, dv_dat, dv_lst, dv_al, dvs, own_dat, own_lst, own_bag, own_dcK, own_scr, flat_dat, flat_lst, Res.fin, frzs_nil, frzs_cons, frz_dat, intT_int, outs, als, argsOf, putArgs, fCall, eqv_int, shp_int, shp_none, shp_bool, noOwn, ownAt, sizeLine_eq, fIter, itemsOf, fRange1, fRange2, eqX_int, eqX_str, fEnumA, fFrz, fNever, permOk, perm, fCallK, fCallP, gMax2, gMin2, gMax3, gMin3, fPar2, fMulti, putM, fAsgG, fLc, F_is_sign_row, fIsi, tyN, kit3, sgRow]
  | none => simp [fnOf, fSeq, fNil, fSet, fRet, fDrop, fIf, fFgt, fgtO, fgt, fFor, fIfE, fT, fTru, truD, fAnd, fOr, fNot, fAndV, fOrV, fNotV, fOp2, fVar, fC, fB, fACons, fANil, fTup, fLst, fNeg, gRel, gInt2, gInt2C, gAdd, gMulX_int, gIx, gLen, gAbs, gInt, gEq, gIs, gIsNot, dv_dat, dv_lst, dv_al, dvs, own_dat, own_lst, own_bag, own_dcK, own_scr, flat_dat, flat_lst, Res.fin, frzs_nil, frzs_cons, frz_dat, intT_int, outs, als, argsOf, putArgs, fCall, eqv_int, shp_int, shp_none, shp_bool, noOwn, ownAt, sizeLine_eq, fIter, itemsOf, fRange1, fRange2, eqX_int, eqX_str, fEnumA, fFrz, fNever, permOk, perm, fCallK, fCallP, gMax2, gMin2, gMax3, gMin3, fPar2, fMulti, putM, fAsgG, fLc, F_is_sign_row, fIsi, tyN, kit4, sgRow]
  | bool b => simp [fnOf, fSeq, fNil, fSet, fRet, fDrop, fIf, fFgt, fgtO, fgt, fFor, fIfE, fT, fTru, truD, fAnd, fOr, fNot, fAndV, fOrV, fNotV, fOp2, fVar, fC, fB, fACons, fANil, fTup, fLst, fNeg, gRel, gInt2, gInt2C, gAdd, gMulX_int, gIx, gLen, gAbs, gInt, gEq, gIs, gIsNot, dv_dat, dv_lst, dv_al, dvs, own_dat, own_lst, own_bag, own_dcK, own_scr, flat_dat, flat_lst, Res.fin, frzs_nil, frzs_cons, frz_dat, intT_int, outs, als, argsOf, putArgs, fCall, eqv_int, shp_int, shp_none, shp_bool, noOwn, ownAt, sizeLine_eq, fIter, itemsOf, fRange1, fRange2, eqX_int, eqX_str, fEnumA, fFrz, fNever, permOk, perm, fCallK, fCallP, gMax2, gMin2, gMax3, gMin3, fPar2, fMulti, putM, fAsgG, fLc, F_is_sign_row, fIsi, tyN, kit21, sgRow]
  | tuple ds =>
    have e1 : loopL (gN 2) tYesF e1_is_sign_row [2] (ds.map id) [] [some (.dat (.tuple ds)), some (.dat (.int n)), none] = some ([] ++ ds.map (fun d => .bool (sgItem d)), [some (.dat (.tuple ds)), some (.dat (.int n)), none]) :=
      loopL_map (by simpa [Dec] using h) fun x _ => by
        have := e1_row x (.tuple ds) (.int n)
        simp [fnOf, fSeq, fNil, fSet, fRet, fDrop, fIf, fFgt, fgtO, fgt, fFor, fIfE, fT, fTru, truD, fAnd, fOr, fNot, fAndV, fOrV, fNotV, fOp2, fVar, fC, fB, fACons, fANil, fTup, fLst, fNeg, gRel, gInt2, gInt2C, gAdd, gMulX_int, gIx, gLen, gAbs, gInt, gEq, gIs, gIsNot, dv_dat, dv_lst, dv_al, dvs, own_dat, own_lst, own_bag, own_dcK, own_scr, flat_dat, flat_lst, Res.fin, frzs_nil, frzs_cons, frz_dat, intT_int, outs, als, argsOf, putArgs, fCall, eqv_int, shp_int, shp_none, shp_bool, noOwn, ownAt, sizeLine_eq, fIter, itemsOf, fRange1, fRange2, eqX_int, eqX_str, fEnumA, fFrz, fNever, permOk, perm, fCallK, fCallP, gMax2, gMin2, gMax3, gMin3, fPar2, fMulti, putM, fAsgG, fLc, lcStep, lsStep, tYesF, gN, gT, gsCons, gsNil, this]
    simp only [List.map_id, List.nil_append] at e1
    have e2 : gAll [.list (ds.map fun d => PyData.bool (sgItem d))] = some (.val (.bool (ds.all sgItem))) := by
      have := gAll_bools (ds.map sgItem)
      rw [List.map_map] at this
      simpa [Function.comp_def, List.all_map] using this
    by_cases hl : ds.length = n
    · subst hl
      simp [fnOf, fSeq, fNil, fSet, fRet, fDrop, fIf, fFgt, fgtO, fgt, fFor, fIfE, fT, fTru, truD, fAnd, fOr, fNot, fAndV, fOrV, fNotV, fOp2, fVar, fC, fB, fACons, fANil, fTup, fLst, fNeg, gRel, gInt2, gInt2C, gAdd, gMulX_int, gIx, gLen, gAbs, gInt, gEq, gIs, gIsNot, dv_dat, dv_lst, dv_al, dvs, own_dat, own_lst, own_bag, own_dcK, own_scr, flat_dat, flat_lst, Res.fin, frzs_nil, frzs_cons, frz_dat, intT_int, outs, als, argsOf, putArgs, fCall, eqv_int, shp_int, shp_none, shp_bool, noOwn, ownAt, sizeLine_eq, fIter, itemsOf, fRange1, fRange2, eqX_int, eqX_str, fEnumA, fFrz, fNever, permOk, perm, fCallK, fCallP, gMax2, gMin2, gMax3, gMin3, fPar2, fMulti, putM, fAsgG, fLc, F_is_sign_row, fIsi, tyN, kit1, sgRow, e1, e2]
    · have : ¬ (ds.length : Int) = n := by omega
      simp [fnOf, fSeq, fNil, fSet, fRet, fDrop, fIf, fFgt, fgtO, fgt, fFor, fIfE, fT, fTru, truD, fAnd, fOr, fNot, fAndV, fOrV, fNotV, fOp2, fVar, fC, fB, fACons, fANil, fTup, fLst, fNeg, gRel, gInt2, gInt2C, gAdd, gMulX_int, gIx, gLen, gAbs, gInt, gEq, gIs, gIsNot, dv_dat, dv_lst, dv_al, dvs, own_dat, own_lst, own_bag, own_dcK, own_scr, flat_dat, flat_lst, Res.fin, frzs_nil, frzs_cons, frz_dat, intT_int, outs, als, argsOf, putArgs, fCall, eqv_int, shp_int, shp_none, shp_bool, noOwn, ownAt, sizeLine_eq, fIter, itemsOf, fRange1, fRange2, eqX_int, eqX_str, fEnumA, fFrz, fNever, permOk, perm, fCallK, fCallP, gMax2, gMin2, gMax3, gMin3, fPar2, fMulti, putM, fAsgG, fLc, F_is_sign_row, fIsi, tyN, kit1, sgRow, hl, this]
  | list ds => simp [fnOf, fSeq, fNil, fSet, fRet, fDrop, fIf, fFgt, fgtO, fgt, fFor, fIfE, fT, fTru, truD, fAnd, fOr, fNot, fAndV, fOrV, fNotV, fOp2, fVar, fC, fB, fACons, fANil, fTup, fLst, fNeg, gRel, gInt2, gInt2C, gAdd, gMulX_int, gIx, gLen, gAbs, gInt, gEq, gIs, gIsNot, dv_dat, dv_lst, dv_al, dvs, own_dat, own_lst, own_bag, own_dcK, own_scr, flat_dat, flat_lst, Res.fin, frzs_nil, frzs_cons, frz_dat, intT_int, outs, als, argsOf, putArgs, fCall, eqv_int, shp_int, shp_none, shp_bool, noOwn, ownAt, sizeLine_eq, fIter, itemsOf, fRange1, fRange2, eqX_int, eqX_str, fEnumA, fFrz, fNever, permOk, perm, fCallK, fCallP, gMax2, gMin2, gMax3, gMin3, fPar2, fMulti, putM, fAsgG, fLc, F_is_sign_row, fIsi, tyN, kit19, sgRow]
  | dict ds => simp [fnOf, fSeq, fNil, fSet, fRet, fDrop, fIf, fFgt, fgtO, fgt, fFor, fIfE, fT, fTru, truD, fAnd, fOr, fNot, fAndV, fOrV, fNotV, fOp2, fVar, fC, fB, fACons, fANil, fTup, fLst, fNeg, gRel, gInt2, gInt2C, gAdd, gMulX_int, gIx, gLen, gAbs, gInt, gEq, gIs, gIsNot, dv_dat, dv_lst, dv_al, dvs, own_dat, own_lst, own_bag, own_dcK, own_scr, flat_dat, flat_lst, Res.fin, frzs_nil, frzs_cons, frz_dat, intT_int, outs, als, argsOf, putArgs, fCall, eqv_int, shp_int, shp_none, shp_bool, noOwn, ownAt, sizeLine_eq, fIter, itemsOf, fRange1, fRange2, eqX_int, eqX_str, fEnumA, fFrz, fNever, permOk, perm, fCallK, fCallP, gMax2, gMin2, gMax3, gMin3, fPar2, fMulti, putM, fAsgG, fLc, F_is_sign_row, fIsi, tyN, kit20, sgRow]
end Lw

end

/-! K48b: what is wrong with a table -/
noncomputable section
namespace Lw
open PySem PySem.Spec PyProof.Rows L2 Fx

theorem rg2_nat {a b : Nat} (ha : a < 2 ^ 62) (hb : b < 2 ^ 62) : rg2 a b = some ((List.range (b - a)).map fun (x : Nat) => PyData.int ((a : Int) + x)) := by
  have h1 : rgOk (a : Int) = true := by simp [rgOk]; omega
  have h2 : rgOk (b : Int) = true := by simp [rgOk]; omega
  unfold rg2
  rw [if_pos ⟨h1, h2⟩]
  have e : ((b : Int) - a).toNat = b - a := by omega
  rw [e]
  simp [rangeD]
theorem dot_zip (r s : List Int) : M48.dot r s = ((r.zip s).map fun p => p.1 * p.2).sum := by
  unfold M48.dot
  congr 1
  induction r generalizing s with
  | nil => simp
  | cons a r ih => cases s <;> simp [*]
theorem sgMul {r s : List Int} (hr : M48.Sg r) (hs : M48.Sg s) {p : Int × Int} (h : p ∈ r.zip s) : mulOk p.1 p.2 = true := by
  have h1 := hr _ (List.of_mem_zip h).1
  have h2 := hs _ (List.of_mem_zip h).2
  exact mulOk_of (Nat.lt_of_lt_of_le (by omega) big64) (Nat.lt_of_lt_of_le (by omega) big64)
def pairD : Option (Nat × Nat) → PyData
  | none => .none
  | some (i, j) => .tuple [.str "rows", .int i, .int j]
theorem row_at {n : Nat} {T : M48.Tab} (h : M48.Tb n T) {i : Nat} (hi : i < n) : (T.map rowD)[i]? = some (rowD (T.getD i [])) := by
  have := h.len
  rw [List.getElem?_map, List.getD_eq_getElem?_getD, List.getElem?_eq_getElem (by omega)]
  rfl
theorem rowOk {n : Nat} {T : M48.Tab} (h : M48.Tb n T) {i : Nat} (hi : i < n) : (T.getD i []).length = n ∧ M48.Sg (T.getD i []) := h.row _ (M48.getD_mem (by rw [h.len]; exact hi))
theorem tab_enum {n : Nat} {T : M48.Tab} (h : M48.Tb n T) : enumD (T.map rowD) = (List.range n).map fun (i : Nat) => PyData.tuple [.int i, rowD (T.getD i [])] := by
  rw [enumD_map]
  apply List.ext_getElem
  · simp [h.len]
  · intro k h1 h2
    simp at h1
    simp [List.getD_eq_getElem?_getD, h1]
theorem zip_sum {n : Nat} {r s : List Int} (hr : r.length = n ∧ M48.Sg r) (hs : s.length = n ∧ M48.Sg s) (hn : n ≤ 64) {Γ : Gm} {fe : FE} {own : List Nat} {tg : FG}
    (h : ∀ p ∈ r.zip s, lcStep tg tYesF fe own (.tuple [.int p.1, .int p.2]) Γ = some (some (.int (p.1 * p.2)), Γ)) :
    loopL tg tYesF fe own (zipD (r.map .int) (s.map .int)) [] Γ = some (((r.zip s).map fun p => p.1 * p.2).map .int, Γ) := by
  rw [zipD_map]
  have := loopL_map (acc := []) (g := fun p : Int × Int => PyData.tuple [.int p.1, .int p.2]) (f := fun p : Int × Int => PyData.int (p.1 * p.2)) (l := r.zip s) (by simp [sizeLine_eq]; omega) h
  rw [this, List.nil_append, List.map_map]
  rfl
theorem e1_err (d : PyData) (hd : Dec d) (ds : List PyData) : lcStep (gN 2) tYesF e1_table_error [2] d [some (.dat (.tuple ds)), none, none, none, none, none] = some (some (.bool (sgRow ds.length d)), [some (.dat (.tuple ds)), none, none, none, none, none]) := by
  have := sign_row_ok hd ds.length
  simp [fnOf, fSeq, fNil, fSet, fRet, fDrop, fIf, fFgt, fgtO, fgt, fFor, fIfE, fT, fTru, truD, fAnd, fOr, fNot, fAndV, fOrV, fNotV, fOp2, fVar, fC, fB, fACons, fANil, fTup, fLst, fNeg, gRel, gInt2, gInt2C, gAdd, gMulX_int, gIx, gLen, gAbs, gInt, gEq, gIs, gIsNot, dv_dat, dv_lst, dv_al, dvs, own_dat, own_lst, own_bag, own_dcK, own_scr, flat_dat, flat_lst, Res.fin, frzs_nil, frzs_cons, frz_dat, intT_int, outs, als, argsOf, putArgs, fCall, eqv_int, shp_int, shp_none, shp_bool, noOwn, ownAt, sizeLine_eq, fIter, itemsOf, fRange1, fRange2, eqX_int, eqX_str, fEnumA, fFrz, fNever, permOk, perm, fCallK, fCallP, gMax2, gMin2, gMax3, gMin3, fPar2, fMulti, putM, fAsgG, fLc, lcStep, lsStep, tYesF, gN, gT, gsCons, gsNil, e1_table_error, this]
theorem e1_errs {ds : List PyData} (hl : ds.length ≤ sizeLine) (hd : ∀ d ∈ ds, Dec d) : loopL (gN 2) tYesF e1_table_error [2] ds [] [some (.dat (.tuple ds)), none, none, none, none, none] = some (ds.map (fun d => .bool (sgRow ds.length d)), [some (.dat (.tuple ds)), none, none, none, none, none]) := by
  have := loopL_map (acc := []) (g := id) (f := fun d => PyData.bool (sgRow ds.length d)) (l := ds) (tg := gN 2) (tt := tYesF) (fe := e1_table_error) (own := [2]) (Γ := [some (.dat (.tuple ds)), none, none, none, none, none]) (by simpa using hl) fun d h => e1_err d (hd d h) ds
  simpa using this
theorem gAll_map {α : Type} (l : List α) (f : α → Bool) : gAll [.list (l.map fun d => PyData.bool (f d))] = some (.val (.bool (l.all f))) := by
  have := gAll_bools (l.map f)
  rw [List.map_map] at this
  simpa [Function.comp_def, List.all_map] using this
/-- no table of signs -/
def Bad : PyData → Prop
  | .tuple ds => ds.length ≤ sizeLine ∧ (∀ d ∈ ds, Dec d) ∧ (1 ≤ ds.length → ds.length ≤ 32 → ds.all (sgRow ds.length) = false)
  | _ => True
theorem err_form {d : PyData} (h : Bad d) : F_table_error [.dat d] = some (.dat (.str "form"), [none]) := by
  cases d with
  | int i => simp [fnOf, fSeq, fNil, fSet, fRet, fDrop, fIf, fFgt, fgtO, fgt, fFor, fIfE, fT, fTru, truD, fAnd, fOr, fNot, fAndV, fOrV, fNotV, fOp2, fVar, fC, fB, fACons, fANil, fTup, fLst, fNeg, gRel, gInt2, gInt2C, gAdd, gMulX_int, gIx, gLen, gAbs, gInt, gEq, gIs, gIsNot, dv_dat, dv_lst, dv_al, dvs, own_dat, own_lst, own_bag, own_dcK, own_scr, flat_dat, flat_lst, Res.fin, frzs_nil, frzs_cons, frz_dat, intT_int, outs, als, argsOf, putArgs, fCall, eqv_int, shp_int, shp_none, shp_bool, noOwn, ownAt, sizeLine_eq, fIter, itemsOf, fRange1, fRange2, eqX_int, eqX_str, fEnumA, fFrz, fNever, permOk, perm, fCallK, fCallP, gMax2, gMin2, gMax3, gMin3, fPar2, fMulti, putM, fAsgG, fLc, F_table_error, fIsi, tyN, kit2]
  | str x => simp [fnOf, fSeq, fNil, fSet, fRet, fDrop, fIf, fFgt, fgtO, fgt, fFor, fIfE, fT, fTru, truD, fAnd, fOr, fNot, fAndV, fOrV, fNotV, fOp2, fVar, fC, fB, fACons, fANil, fTup, fLst, fNeg, gRel, gInt2, gInt2C, gAdd, gMulX_int, gIx, gLen, gAbs, gInt, gEq, gIs, gIsNot, dv_dat, dv_lst, dv_al, dvs, own_dat, own_lst, own_bag, own_dcK, own_scr, flat_dat, flat_lst, Res.fin, frzs_nil, frzs_cons, frz_dat, intT_int, outs, als, argsOf, putArgs, fCall, eqv_int, shp_int, shp_none, shp_bool, noOwn, ownAt, sizeLine_eq, fIter, itemsOf, fRange1, fRange2, eqX_int, eqX_str, fEnumA, fFrz, fNever, permOk, perm, fCallK, fCallP, gMax2, gMin2, gMax3, gMin3, fPar2, fMulti, putM, fAsgG, fLc, F_table_error, fIsi, tyN, kit3]
  | none => simp [fnOf, fSeq, fNil, fSet, fRet, fDrop, fIf, fFgt, fgtO, fgt, fFor, fIfE, fT, fTru, truD, fAnd, fOr, fNot, fAndV, fOrV, fNotV, fOp2, fVar, fC, fB, fACons, fANil, fTup, fLst, fNeg, gRel, gInt2, gInt2C, gAdd, gMulX_int, gIx, gLen, gAbs, gInt, gEq, gIs, gIsNot, dv_dat, dv_lst, dv_al, dvs, own_dat, own_lst, own_bag, own_dcK, own_scr, flat_dat, flat_lst, Res.fin, frzs_nil, frzs_cons, frz_dat, intT_int, outs, als, argsOf, putArgs, fCall, eqv_int, shp_int, shp_none, shp_bool, noOwn, ownAt, sizeLine_eq, fIter, itemsOf, fRange1, fRange2, eqX_int, eqX_str, fEnumA, fFrz, fNever, permOk, perm, fCallK, fCallP, gMax2, gMin2, gMax3, gMin3, fPar2, fMulti, putM, fAsgG, fLc, F_table_error, fIsi, tyN, kit4]
  | bool b => simp [fnOf, fSeq, fNil, fSet, fRet, fDrop, fIf, fFgt, fgtO, fgt, fFor, fIfE, fT, fTru, truD, fAnd, fOr, fNot, fAndV, fOrV, fNotV, fOp2, fVar, fC, fB, fACons, fANil, fTup, fLst, fNeg, gRel, gInt2, gInt2C, gAdd, gMulX_int, gIx, gLen, gAbs, gInt, gEq, gIs, gIsNot, dv_dat, dv_lst, dv_al, dvs, own_dat, own_lst, own_bag, own_dcK, own_scr, flat_dat, flat_lst, Res.fin, frzs_nil, frzs_cons, frz_dat, intT_int, outs, als, argsOf, putArgs, fCall, eqv_int, shp_int, shp_none, shp_bool, noOwn, ownAt, sizeLine_eq, fIter, itemsOf, fRange1, fRange2, eqX_int, eqX_str, fEnumA, fFrz, fNever, permOk, perm, fCallK, fCallP, gMax2, gMin2, gMax3, gMin3, fPar2, fMulti, putM, fAsgG, fLc, F_table_error, fIsi, tyN, kit21]
  | list ds => simp [fnOf, fSeq, fNil, fSet, fRet, fDrop, fIf, fFgt, fgtO, fgt, fFor, fIfE, fT, fTru, truD, fAnd, fOr, fNot, fAndV, fOrV, fNotV, fOp2, fVar, fC, fB, fACons, fANil, fTup, fLst, fNeg, gRel, gInt2, gInt2C, gAdd, gMulX_int, gIx, gLen, gAbs, gInt, gEq, gIs, gIsNot, dv_dat, dv_lst, dv_al, dvs, own_dat, own_lst, own_bag, own_dcK, own_scr, flat_dat, flat_lst, Res.fin, frzs_nil, frzs_cons, frz_dat, intT_int, outs, als, argsOf, putArgs, fCall, eqv_int, shp_int, shp_none, shp_bool, noOwn, ownAt, sizeLine_eq, fIter, itemsOf, fRange1, fRange2, eqX_int, eqX_str, fEnumA, fFrz, fNever, permOk, perm, fCallK, fCallP, gMax2, gMin2, gMax3, gMin3, fPar2, fMulti, putM, fAsgG, fLc, F_table_error, fIsi, tyN, kit19]
  | dict ds => simp [fnOf, fSeq, fNil, fSet, fRet, fDrop, fIf, fFgt, fgtO, fgt, fFor, fIfE, fT, fTru, truD, fAnd, fOr, fNot, fAndV, fOrV, fNotV, fOp2, fVar, fC, fB, fACons, fANil, fTup, fLst, fNeg, gRel, gInt2, gInt2C, gAdd, gMulX_int, gIx, gLen, gAbs, gInt, gEq, gIs, gIsNot, dv_dat, dv_lst, dv_al, dvs, own_dat, own_lst, own_bag, own_dcK, own_scr, flat_dat, flat_lst, Res.fin, frzs_nil, frzs_cons, frz_dat, intT_int, outs, als, argsOf, putArgs, fCall, eqv_int, shp_int, shp_none, shp_bool, noOwn, ownAt, sizeLine_eq, fIter, itemsOf, fRange1, fRange2, eqX_int, eqX_str, fEnumA, fFrz, fNever, permOk, perm, fCallK, fCallP, gMax2, gMin2, gMax3, gMin3, fPar2, fMulti, putM, fAsgG, fLc, F_table_error, fIsi, tyN, kit20]
  | tuple ds =>
    obtain ⟨h1, h2, h3⟩ := h
    have e1 := e1_errs h1 h2
    have e2 := gAll_map ds (sgRow ds.length)
    by_cases q1 : 1 ≤ ds.length
    · by_cases q2 : ds.length ≤ 32
      · have q1' : (1 : Int) ≤ ds.length := by omega
        have q2' : (ds.length : Int) ≤ 32 := by omega
        rw [h3 q1 q2] at e2
        simp [fnOf, fSeq, fNil, fSet, fRet, fDrop, fIf, fFgt, fgtO, fgt, fFor, fIfE, fT, fTru, truD, fAnd, fOr, fNot, fAndV, fOrV, fNotV, fOp2, fVar, fC, fB, fACons, fANil, fTup, fLst, fNeg, gRel, gInt2, gInt2C, gAdd, gMulX_int, gIx, gLen, gAbs, gInt, gEq, gIs, gIsNot, dv_dat, dv_lst, dv_al, dvs, own_dat, own_lst, own_bag, own_dcK, own_scr, flat_dat, flat_lst, Res.fin, frzs_nil, frzs_cons, frz_dat, intT_int, outs, als, argsOf, putArgs, fCall, eqv_int, shp_int, shp_none, shp_bool, noOwn, ownAt, sizeLine_eq, fIter, itemsOf, fRange1, fRange2, eqX_int, eqX_str, fEnumA, fFrz, fNever, permOk, perm, fCallK, fCallP, gMax2, gMin2, gMax3, gMin3, fPar2, fMulti, putM, fAsgG, fLc, F_table_error, fIsi, tyN, kit1, fChain, q1', q2', e1, e2]
      · have q1' : (1 : Int) ≤ ds.length := by omega
        have q2' : ¬ (ds.length : Int) ≤ 32 := by omega
        simp [fnOf, fSeq, fNil, fSet, fRet, fDrop, fIf, fFgt, fgtO, fgt, fFor, fIfE, fT, fTru, truD, fAnd, fOr, fNot, fAndV, fOrV, fNotV, fOp2, fVar, fC, fB, fACons, fANil, fTup, fLst, fNeg, gRel, gInt2, gInt2C, gAdd, gMulX_int, gIx, gLen, gAbs, gInt, gEq, gIs, gIsNot, dv_dat, dv_lst, dv_al, dvs, own_dat, own_lst, own_bag, own_dcK, own_scr, flat_dat, flat_lst, Res.fin, frzs_nil, frzs_cons, frz_dat, intT_int, outs, als, argsOf, putArgs, fCall, eqv_int, shp_int, shp_none, shp_bool, noOwn, ownAt, sizeLine_eq, fIter, itemsOf, fRange1, fRange2, eqX_int, eqX_str, fEnumA, fFrz, fNever, permOk, perm, fCallK, fCallP, gMax2, gMin2, gMax3, gMin3, fPar2, fMulti, putM, fAsgG, fLc, F_table_error, fIsi, tyN, kit1, fChain, q1', q2']
    · have q1' : ¬ (1 : Int) ≤ ds.length := by omega
      simp [fnOf, fSeq, fNil, fSet, fRet, fDrop, fIf, fFgt, fgtO, fgt, fFor, fIfE, fT, fTru, truD, fAnd, fOr, fNot, fAndV, fOrV, fNotV, fOp2, fVar, fC, fB, fACons, fANil, fTup, fLst, fNeg, gRel, gInt2, gInt2C, gAdd, gMulX_int, gIx, gLen, gAbs, gInt, gEq, gIs, gIsNot, dv_dat, dv_lst, dv_al, dvs, own_dat, own_lst, own_bag, own_dcK, own_scr, flat_dat, flat_lst, Res.fin, frzs_nil, frzs_cons, frz_dat, intT_int, outs, als, argsOf, putArgs, fCall, eqv_int, shp_int, shp_none, shp_bool, noOwn, ownAt, sizeLine_eq, fIter, itemsOf, fRange1, fRange2, eqX_int, eqX_str, fEnumA, fFrz, fNever, permOk, perm, fCallK, fCallP, gMax2, gMin2, gMax3, gMin3, fPar2, fMulti, putM, fAsgG, fLc, F_table_error, fIsi, tyN, kit1, fChain, q1']
theorem sg_all {n : Nat} {r : List Int} (h : r.length = n ∧ M48.Sg r) : sgRow n (rowD r) = true := by
  have : ∀ x ∈ r, sgItem (.int x) = true := fun x hx => by rcases h.2 x hx with rfl | rfl <;> rfl
  simp [sgRow, h.1, List.all_map]
  exact this
theorem b3_err {n i j : Nat} {r s : List Int} {ds : List PyData} (r1 : r.length = n ∧ M48.Sg r) (r2 : s.length = n ∧ M48.Sg s) (hn : n ≤ 64) (e0 : ds[j]? = some (rowD s)) :
    lsStep (gN 3) b3_table_error (.int (j : Nat)) [some (.dat (.tuple ds)), some (.dat (.int i)), some (.dat (rowD r)), none, none, none] =
      some (if M48.dot r s ≠ 0 then .rt (.dat (pairD (some (i, j)))) [some (.dat (.tuple ds)), some (.dat (.int i)), some (.dat (rowD r)), some (.dat (.int j)), none, none] else .nx [some (.dat (.tuple ds)), some (.dat (.int i)), some (.dat (rowD r)), none, none, none]) := by
  have e1 := zip_sum r1 r2 hn (tg := gT 2 (gsCons (gN 4) (gsCons (gN 5) gsNil))) (fe := e2_table_error) (own := [4, 5]) (Γ := [some (.dat (.tuple ds)), some (.dat (.int i)), some (.dat (rowD r)), some (.dat (.int j)), none, none]) fun p hp => by
    have := sgMul r1.2 r2.2 hp
    simp [fnOf, fSeq, fNil, fSet, fRet, fDrop, fIf, fFgt, fgtO, fgt, fFor, fIfE, fT, fTru, truD, fAnd, fOr, fNot, fAndV, fOrV, fNotV, fOp2, fVar, fC, fB, fACons, fANil, fTup, fLst, fNeg, gRel, gInt2, gInt2C, gAdd, gMulX_int, gIx, gLen, gAbs, gInt, gEq, gIs, gIsNot, dv_dat, dv_lst, dv_al, dvs, own_dat, own_lst, own_bag, own_dcK, own_scr, flat_dat, flat_lst, Res.fin, frzs_nil, frzs_cons, frz_dat, intT_int, outs, als, argsOf, putArgs, fCall, eqv_int, shp_int, shp_none, shp_bool, noOwn, ownAt, sizeLine_eq, fIter, itemsOf, fRange1, fRange2, eqX_int, eqX_str, fEnumA, fFrz, fNever, permOk, perm, fCallK, fCallP, gMax2, gMin2, gMax3, gMin3, fPar2, fMulti, putM, fAsgG, fLc, lcStep, lsStep, tYesF, gN, gT, gsCons, gsNil, e2_table_error, this]
  have e2 := gSumA_list ((r.zip s).map fun p => p.1 * p.2)
  rw [← dot_zip] at e2
  generalize ((r.zip s).map fun p => p.1 * p.2) = l at e1 e2
  by_cases hz : M48.dot r s = 0
  · simp [fnOf, fSeq, fNil, fSet, fRet, fDrop, fIf, fFgt, fgtO, fgt, fFor, fIfE, fT, fTru, truD, fAnd, fOr, fNot, fAndV, fOrV, fNotV, fOp2, fVar, fC, fB, fACons, fANil, fTup, fLst, fNeg, gRel, gInt2, gInt2C, gAdd, gMulX_int, gIx, gLen, gAbs, gInt, gEq, gIs, gIsNot, dv_dat, dv_lst, dv_al, dvs, own_dat, own_lst, own_bag, own_dcK, own_scr, flat_dat, flat_lst, Res.fin, frzs_nil, frzs_cons, frz_dat, intT_int, outs, als, argsOf, putArgs, fCall, eqv_int, shp_int, shp_none, shp_bool, noOwn, ownAt, sizeLine_eq, fIter, itemsOf, fRange1, fRange2, eqX_int, eqX_str, fEnumA, fFrz, fNever, permOk, perm, fCallK, fCallP, gMax2, gMin2, gMax3, gMin3, fPar2, fMulti, putM, fAsgG, fLc, lcStep, lsStep, tYesF, gN, gT, gsCons, gsNil, b3_table_error, fZip, atI_nat e0, e1, e2, hz]
  · simp [fnOf, fSeq, fNil, fSet, fRet, fDrop, fIf, fFgt, fgtO, fgt, fFor, fIfE, fT, fTru, truD, fAnd, fOr, fNot, fAndV, fOrV, fNotV, fOp2, fVar, fC, fB, fACons, fANil, fTup, fLst, fNeg, gRel, gInt2, gInt2C, gAdd, gMulX_int, gIx, gLen, gAbs, gInt, gEq, gIs, gIsNot, dv_dat, dv_lst, dv_al, dvs, own_dat, own_lst, own_bag, own_dcK, own_scr, flat_dat, flat_lst, Res.fin, frzs_nil, frzs_cons, frz_dat, intT_int, outs, als, argsOf, putArgs, fCall, eqv_int, shp_int, shp_none, shp_bool, noOwn, ownAt, sizeLine_eq, fIter, itemsOf, fRange1, fRange2, eqX_int, eqX_str, fEnumA, fFrz, fNever, permOk, perm, fCallK, fCallP, gMax2, gMin2, gMax3, gMin3, fPar2, fMulti, putM, fAsgG, fLc, lcStep, lsStep, tYesF, gN, gT, gsCons, gsNil, b3_table_error, fZip, atI_nat e0, e1, e2, hz, pairD]
/-- a loop that looks for the first item that ends it -/
theorem loopS_findE {α : Type} {tg : FG} {b : FS} {g : α → PyData} {Γ : Gm} {p : α → Option MD} (P : Gm → Prop) (h0 : P Γ) : ∀ (l : List α), (∀ x ∈ l, ∃ Γ', P Γ' ∧ lsStep tg b (g x) Γ = some (match p x with | none => .nx Γ | some m => .rt m Γ')) → ∃ Γ', P Γ' ∧ loopS tg b (l.map g) Γ = some (match l.findSome? p with | none => .nx Γ | some m => .rt m Γ')
  | [], _ => ⟨Γ, h0, rfl⟩
  | a :: l, h => by
    obtain ⟨Γ1, p1, e⟩ := h a List.mem_cons_self
    obtain ⟨Γ2, p2, e2⟩ := loopS_findE P h0 l fun x hx => h x (List.mem_cons_of_mem _ hx)
    rw [List.map_cons, loopS_cons, e, List.findSome?_cons]
    cases p a with
    | none => exact ⟨Γ2, p2, e2⟩
    | some m => exact ⟨Γ1, p1, rfl⟩
theorem find_map {α β : Type} {l : List Nat} {f : Nat → Option α} {g : α → β} : (l.findSome? fun j => (f j).map g) = (l.findSome? f).map g := by
  induction l with
  | nil => rfl
  | cons a l ih =>
    rw [List.findSome?_cons, List.findSome?_cons]
    cases f a with
    | none => exact ih
    | some p => rfl
def pairM (q : Nat × Nat) : MD := .dat (pairD (some q))
def inner (T : M48.Tab) (i : Nat) : Option (Nat × Nat) := (List.range (T.length - (i + 1))).findSome? fun j => if M48.dot (T.getD i []) (T.getD (i + 1 + j) []) ≠ 0 then some (i, i + 1 + j) else none
theorem lp_inner (T : M48.Tab) : M48.lp T = (List.range T.length).findSome? (inner T) := rfl
theorem b4_err {n i : Nat} {T : M48.Tab} (h : M48.Tb n T) (hn : n ≤ 64) (hi : i < n) {ds : List PyData} (hds : T.map rowD = ds) :
    ∃ Γ' : Gm, Γ'[0]? = some (some (.dat (.tuple ds))) ∧ lsStep (gT 2 (gsCons (gN 1) (gsCons (gN 2) gsNil))) b4_table_error (.tuple [.int (i : Nat), rowD (T.getD i [])]) [some (.dat (.tuple ds)), none, none, none, none, none] =
      some (match (inner T i).map pairM with | none => .nx [some (.dat (.tuple ds)), none, none, none, none, none] | some m => .rt m Γ') := by
  have hl := h.len
  have hdl : ds.length = n := by rw [← hds]; simp [hl]
  have r1 := rowOk h hi
  generalize hr : T.getD i [] = r at r1
  obtain ⟨Γ1, p1, e1⟩ := loopS_findE (fun Γ => Γ[0]? = some (some (.dat (.tuple ds)))) (tg := gN 3) (b := b3_table_error) (g := fun (x : Nat) => PyData.int ((i : Int) + 1 + x)) (Γ := [some (.dat (.tuple ds)), some (.dat (.int i)), some (.dat (rowD r)), none, none, none])
    (p := fun x => (if M48.dot r (T.getD (i + 1 + x) []) ≠ 0 then some (i, i + 1 + x) else none).map pairM) rfl (List.range (n - (i + 1))) fun x hx => by
      have hx' : i + 1 + x < n := by have := List.mem_range.mp hx; omega
      have e0 := row_at h hx'
      rw [hds] at e0
      refine ⟨[some (.dat (.tuple ds)), some (.dat (.int i)), some (.dat (rowD r)), some (.dat (.int ((i + 1 + x : Nat) : Int))), none, none], rfl, ?_⟩
      rw [show ((i : Int) + 1 + x) = ((i + 1 + x : Nat) : Int) by omega, b3_err r1 (rowOk h hx') (by omega) e0]
      generalize M48.dot r (T.getD (i + 1 + x) []) = z
      by_cases hz : z = 0
      · subst hz; rfl
      · rw [if_pos hz, if_pos hz]; rfl
  rw [find_map] at e1
  have e2 := rg2_nat (a := i + 1) (b := n) (by omega) (by omega)
  rw [show ((i + 1 : Nat) : Int) = (i : Int) + 1 by omega] at e2
  have e3 : inner T i = (List.range (n - (i + 1))).findSome? fun j => if M48.dot r (T.getD (i + 1 + j) []) ≠ 0 then some (i, i + 1 + j) else none := by rw [inner, hr, hl]
  rw [← e3] at e1
  generalize (inner T i).map pairM = m at *
  cases m with
  | none =>
    refine ⟨Γ1, p1, ?_⟩
    simp [fnOf, fSeq, fNil, fSet, fRet, fDrop, fIf, fFgt, fgtO, fgt, fFor, fIfE, fT, fTru, truD, fAnd, fOr, fNot, fAndV, fOrV, fNotV, fOp2, fVar, fC, fB, fACons, fANil, fTup, fLst, fNeg, gRel, gInt2, gInt2C, gAdd, gMulX_int, gIx, gLen, gAbs, gInt, gEq, gIs, gIsNot, dv_dat, dv_lst, dv_al, dvs, own_dat, own_lst, own_bag, own_dcK, own_scr, flat_dat, flat_lst, Res.fin, frzs_nil, frzs_cons, frz_dat, intT_int, outs, als, argsOf, putArgs, fCall, eqv_int, shp_int, shp_none, shp_bool, noOwn, ownAt, sizeLine_eq, fIter, itemsOf, fRange1, fRange2, eqX_int, eqX_str, fEnumA, fFrz, fNever, permOk, perm, fCallK, fCallP, gMax2, gMin2, gMax3, gMin3, fPar2, fMulti, putM, fAsgG, fLc, lcStep, lsStep, tYesF, gN, gT, gsCons, gsNil, b4_table_error, hdl, e2, e1]
  | some m =>
    refine ⟨Γ1, p1, ?_⟩
    simp [fnOf, fSeq, fNil, fSet, fRet, fDrop, fIf, fFgt, fgtO, fgt, fFor, fIfE, fT, fTru, truD, fAnd, fOr, fNot, fAndV, fOrV, fNotV, fOp2, fVar, fC, fB, fACons, fANil, fTup, fLst, fNeg, gRel, gInt2, gInt2C, gAdd, gMulX_int, gIx, gLen, gAbs, gInt, gEq, gIs, gIsNot, dv_dat, dv_lst, dv_al, dvs, own_dat, own_lst, own_bag, own_dcK, own_scr, flat_dat, flat_lst, Res.fin, frzs_nil, frzs_cons, frz_dat, intT_int, outs, als, argsOf, putArgs, fCall, eqv_int, shp_int, shp_none, shp_bool, noOwn, ownAt, sizeLine_eq, fIter, itemsOf, fRange1, fRange2, eqX_int, eqX_str, fEnumA, fFrz, fNever, permOk, perm, fCallK, fCallP, gMax2, gMin2, gMax3, gMin3, fPar2, fMulti, putM, fAsgG, fLc, lcStep, lsStep, tYesF, gN, gT, gsCons, gsNil, b4_table_error, hdl, e2, e1]
theorem err_tab {n : Nat} {T : M48.Tab} (h : M48.Tb n T) (h1 : 1 ≤ n) (hn : n ≤ 32) : F_table_error [.dat (tabD T)] = some (.dat (pairD (M48.lp T)), [none]) := by
  have hl := h.len
  obtain ⟨ds, hds⟩ : ∃ ds, T.map rowD = ds := ⟨_, rfl⟩
  have hdl : ds.length = n := by rw [← hds]; simp [hl]
  have hdec : ∀ d ∈ ds, Dec d := fun d hd => by
    rw [← hds] at hd
    obtain ⟨r, hr, rfl⟩ := List.mem_map.mp hd
    have := (h.row r hr).1
    simp [Dec, sizeLine_eq, this]; omega
  have e1 := e1_errs (by rw [hdl, sizeLine_eq]; omega) hdec
  have e2 := gAll_map ds (sgRow ds.length)
  have e3 : ds.all (sgRow ds.length) = true := by
    rw [List.all_eq_true]
    intro d hd
    rw [← hds] at hd
    obtain ⟨r, hr, rfl⟩ := List.mem_map.mp hd
    rw [hdl]
    exact sg_all (h.row r hr)
  rw [e3] at e2
  have e4 : enumD ds = (List.range n).map fun (i : Nat) => PyData.tuple [.int i, rowD (T.getD i [])] := by rw [← hds]; exact tab_enum h
  obtain ⟨Γ1, p1, e5⟩ := loopS_findE (fun Γ => Γ[0]? = some (some (.dat (.tuple ds)))) (tg := gT 2 (gsCons (gN 1) (gsCons (gN 2) gsNil))) (b := b4_table_error) (g := fun (i : Nat) => PyData.tuple [.int i, rowD (T.getD i [])]) (Γ := [some (.dat (.tuple ds)), none, none, none, none, none])
    (p := fun i => (inner T i).map pairM) rfl (List.range n) fun i hi => b4_err h (by omega) (List.mem_range.mp hi) hds
  have q1 : (1 : Int) ≤ n := by omega
  have q2 : (n : Int) ≤ 32 := by omega
  rw [← e4, find_map] at e5
  have e6 : M48.lp T = (List.range n).findSome? (inner T) := by rw [lp_inner, hl]
  rw [← e6] at e5
  rw [hdl] at e1 e2
  show F_table_error [.dat (.tuple (T.map rowD))] = _
  rw [hds]
  cases hlp : M48.lp T with
  | none =>
    rw [hlp] at e5
    simp only [Option.map_none] at e5
    simp [fnOf, fSeq, fNil, fSet, fRet, fDrop, fIf, fFgt, fgtO, fgt, fFor, fIfE, fT, fTru, truD, fAnd, fOr, fNot, fAndV, fOrV, fNotV, fOp2, fVar, fC, fB, fACons, fANil, fTup, fLst, fNeg, gRel, gInt2, gInt2C, gAdd, gMulX_int, gIx, gLen, gAbs, gInt, gEq, gIs, gIsNot, dv_dat, dv_lst, dv_al, dvs, own_dat, own_lst, own_bag, own_dcK, own_scr, flat_dat, flat_lst, Res.fin, frzs_nil, frzs_cons, frz_dat, intT_int, outs, als, argsOf, putArgs, fCall, eqv_int, shp_int, shp_none, shp_bool, noOwn, ownAt, sizeLine_eq, fIter, itemsOf, fRange1, fRange2, eqX_int, eqX_str, fEnumA, fFrz, fNever, permOk, perm, fCallK, fCallP, gMax2, gMin2, gMax3, gMin3, fPar2, fMulti, putM, fAsgG, fLc, F_table_error, fIsi, tyN, kit1, fChain, hdl, q1, q2, e1, e2, e5, pairD]
  | some q =>
    rw [hlp] at e5
    simp only [Option.map_some] at e5
    obtain ⟨Γ2, rfl⟩ : ∃ Γ2, Γ1 = some (.dat (.tuple ds)) :: Γ2 := by
      cases Γ1 with
      | nil => cases p1
      | cons x Γ2 => simp at p1; exact ⟨Γ2, by rw [p1]⟩
    simp [fnOf, fSeq, fNil, fSet, fRet, fDrop, fIf, fFgt, fgtO, fgt, fFor, fIfE, fT, fTru, truD, fAnd, fOr, fNot, fAndV, fOrV, fNotV, fOp2, fVar, fC, fB, fACons, fANil, fTup, fLst, fNeg, gRel, gInt2, gInt2C, gAdd, gMulX_int, gIx, gLen, gAbs, gInt, gEq, gIs, gIsNot, dv_dat, dv_lst, dv_al, dvs, own_dat, own_lst, own_bag, own_dcK, own_scr, flat_dat, flat_lst, Res.fin, frzs_nil, frzs_cons, frz_dat, intT_int, outs, als, argsOf, putArgs, fCall, eqv_int, shp_int, shp_none, shp_bool, noOwn, ownAt, sizeLine_eq, fIter, itemsOf, fRange1, fRange2, eqX_int, eqX_str, fEnumA, fFrz, fNever, permOk, perm, fCallK, fCallP, gMax2, gMin2, gMax3, gMin3, fPar2, fMulti, putM, fAsgG, fLc, F_table_error, fIsi, tyN, kit1, fChain, hdl, q1, q2, e1, e2, e5, pairM]
end Lw

end

/-! K48c: the tables themselves -/
noncomputable section
namespace Lw
open PySem PySem.Spec PyProof.Rows L2 Fx

def nextD (T : M48.Tab) : M48.Tab := T.map (fun r => r ++ r) ++ T.map (fun r => r ++ M48.neg r)
def dblT : Nat → M48.Tab
  | 0 => [[1]]
  | k + 1 => nextD (dblT k)
def Sz (n : Nat) (T : M48.Tab) : Prop := T.length = n ∧ ∀ r ∈ T, r.length = n
theorem Sz.next {n : Nat} {T : M48.Tab} (h : Sz n T) : Sz (n + n) (nextD T) := by
  refine ⟨by simp [nextD, h.1], fun r hr => ?_⟩
  rcases List.mem_append.mp hr with q | q
  · obtain ⟨s, hs, rfl⟩ := List.mem_map.mp q
    simp [h.2 s hs]
  · obtain ⟨s, hs, rfl⟩ := List.mem_map.mp q
    simp [h.2 s hs, M48.neg_length]
theorem dbl_sz : ∀ k, Sz (2 ^ k) (dblT k)
  | 0 => ⟨rfl, fun r hr => by simp [dblT] at hr; subst hr; rfl⟩
  | k + 1 => by
    have := (dbl_sz k).next
    rw [show 2 ^ k + 2 ^ k = 2 ^ (k + 1) by rw [Nat.pow_succ]; omega] at this
    exact this
theorem pow_64 {k : Nat} (h : k ≤ 6) : 2 ^ k ≤ 64 := Nat.pow_le_pow_right (by decide) h
theorem e2_dbl (r : List Int) (hr : r.length ≤ 64) {a b c d : Option MD} : loopL (gN 5) tYesF e2_doubled_table [5] (r.map .int) [] [a, b, c, d, some (.dat (rowD r)), none] = some ((M48.neg r).map .int, [a, b, c, d, some (.dat (rowD r)), none]) := by
  have := loopL_map (acc := []) (g := PyData.int) (f := fun x => PyData.int (-x)) (l := r) (tg := gN 5) (tt := tYesF) (fe := e2_doubled_table) (own := [5]) (Γ := [a, b, c, d, some (.dat (rowD r)), none]) (by simp [sizeLine_eq]; omega) fun x _ => by simp [fnOf, fSeq, fNil, fSet, fRet, fDrop, fIf, fFgt, fgtO, fgt, fFor, fIfE, fT, fTru, truD, fAnd, fOr, fNot, fAndV, fOrV, fNotV, fOp2, fVar, fC, fB, fACons, fANil, fTup, fLst, fNeg, gRel, gInt2, gInt2C, gAdd, gMulX_int, gIx, gLen, gAbs, gInt, gEq, gIs, gIsNot, dv_dat, dv_lst, dv_al, dvs, own_dat, own_lst, own_bag, own_dcK, own_scr, flat_dat, flat_lst, Res.fin, frzs_nil, frzs_cons, frz_dat, intT_int, outs, als, argsOf, putArgs, fCall, eqv_int, shp_int, shp_none, shp_bool, noOwn, ownAt, sizeLine_eq, fIter, itemsOf, fRange1, fRange2, eqX_int, eqX_str, fEnumA, fFrz, fNever, permOk, perm, fCallK, fCallP, gMax2, gMin2, gMax3, gMin3, fPar2, fMulti, putM, fAsgG, fLc, lcStep, lsStep, tYesF, gN, gT, gsCons, gsNil, e2_doubled_table]
  rw [this]
  simp [M48.neg, Function.comp_def]
theorem dbl_step {T : M48.Tab} {n : Nat} (h : Sz n T) (hn : n ≤ 64) (m : PyData) (j : Int) :
    lsStep (gN 2) b4_doubled_table (.int j) [some (.dat m), some (.dat (.list (T.map rowD))), none, none, none, none] = some (.nx [some (.dat m), some (.dat (.list ((nextD T).map rowD))), none, none, none, none]) := by
  have e1 := loopL_map (acc := []) (g := rowD) (f := fun r => rowD (r ++ r)) (l := T) (tg := gN 4) (tt := tYesF) (fe := e1_doubled_table) (own := [4]) (Γ := [some (.dat m), some (.dat (.list (T.map rowD))), some (.dat (.int j)), none, none, none]) (by simp [sizeLine_eq, h.1]; omega) fun r hr => by
    have hl := h.2 r hr
    have h1 : r.length + r.length ≤ 16777216 := by omega
    simp [fnOf, fSeq, fNil, fSet, fRet, fDrop, fIf, fFgt, fgtO, fgt, fFor, fIfE, fT, fTru, truD, fAnd, fOr, fNot, fAndV, fOrV, fNotV, fOp2, fVar, fC, fB, fACons, fANil, fTup, fLst, fNeg, gRel, gInt2, gInt2C, gAdd, gMulX_int, gIx, gLen, gAbs, gInt, gEq, gIs, gIsNot, dv_dat, dv_lst, dv_al, dvs, own_dat, own_lst, own_bag, own_dcK, own_scr, flat_dat, flat_lst, Res.fin, frzs_nil, frzs_cons, frz_dat, intT_int, outs, als, argsOf, putArgs, fCall, eqv_int, shp_int, shp_none, shp_bool, noOwn, ownAt, sizeLine_eq, fIter, itemsOf, fRange1, fRange2, eqX_int, eqX_str, fEnumA, fFrz, fNever, permOk, perm, fCallK, fCallP, gMax2, gMin2, gMax3, gMin3, fPar2, fMulti, putM, fAsgG, fLc, lcStep, lsStep, tYesF, gN, gT, gsCons, gsNil, e1_doubled_table, h1]
  rw [List.nil_append] at e1
  have e3 := loopL_map (acc := []) (g := rowD) (f := fun r => rowD (r ++ M48.neg r)) (l := T) (tg := gN 4) (tt := tYesF) (fe := e3_doubled_table) (own := [4]) (Γ := [some (.dat m), some (.dat (.list (T.map rowD))), some (.dat (.int j)), some (.dat (.list (T.map fun r => rowD (r ++ r)))), none, none]) (by simp [sizeLine_eq, h.1]; omega) fun r hr => by
    have hl := h.2 r hr
    have := e2_dbl r (by omega) (a := some (.dat m)) (b := some (.dat (.list (T.map rowD)))) (c := some (.dat (.int j))) (d := some (.dat (.list (T.map fun r => rowD (r ++ r)))))
    have h1 : r.length + (M48.neg r).length ≤ 16777216 := by rw [M48.neg_length]; omega
    simp [fnOf, fSeq, fNil, fSet, fRet, fDrop, fIf, fFgt, fgtO, fgt, fFor, fIfE, fT, fTru, truD, fAnd, fOr, fNot, fAndV, fOrV, fNotV, fOp2, fVar, fC, fB, fACons, fANil, fTup, fLst, fNeg, gRel, gInt2, gInt2C, gAdd, gMulX_int, gIx, gLen, gAbs, gInt, gEq, gIs, gIsNot, dv_dat, dv_lst, dv_al, dvs, own_dat, own_lst, own_bag, own_dcK, own_scr, flat_dat, flat_lst, Res.fin, frzs_nil, frzs_cons, frz_dat, intT_int, outs, als, argsOf, putArgs, fCall, eqv_int, shp_int, shp_none, shp_bool, noOwn, ownAt, sizeLine_eq, fIter, itemsOf, fRange1, fRange2, eqX_int, eqX_str, fEnumA, fFrz, fNever, permOk, perm, fCallK, fCallP, gMax2, gMin2, gMax3, gMin3, fPar2, fMulti, putM, fAsgG, fLc, lcStep, lsStep, tYesF, gN, gT, gsCons, gsNil, e3_doubled_table, this, gToT, h1]
  rw [List.nil_append] at e3
  have h2 : T.length + T.length ≤ 16777216 := by rw [h.1]; omega
  simp [fnOf, fSeq, fNil, fSet, fRet, fDrop, fIf, fFgt, fgtO, fgt, fFor, fIfE, fT, fTru, truD, fAnd, fOr, fNot, fAndV, fOrV, fNotV, fOp2, fVar, fC, fB, fACons, fANil, fTup, fLst, fNeg, gRel, gInt2, gInt2C, gAdd, gMulX_int, gIx, gLen, gAbs, gInt, gEq, gIs, gIsNot, dv_dat, dv_lst, dv_al, dvs, own_dat, own_lst, own_bag, own_dcK, own_scr, flat_dat, flat_lst, Res.fin, frzs_nil, frzs_cons, frz_dat, intT_int, outs, als, argsOf, putArgs, fCall, eqv_int, shp_int, shp_none, shp_bool, noOwn, ownAt, sizeLine_eq, fIter, itemsOf, fRange1, fRange2, eqX_int, eqX_str, fEnumA, fFrz, fNever, permOk, perm, fCallK, fCallP, gMax2, gMin2, gMax3, gMin3, fPar2, fMulti, putM, fAsgG, fLc, lcStep, lsStep, tYesF, gN, gT, gsCons, gsNil, b4_doubled_table, e1, e3, nextD, h2, Function.comp_def]
theorem doubled_ok {k : Nat} (hk : k ≤ 6) : F_doubled_table [.dat (.int k)] = some (.dat (tabD (dblT k)), [none]) := by
  obtain ⟨Γ2, e, rfl⟩ := loopS_ok (tg := gN 2) (b := b4_doubled_table) (P := fun i Γ => Γ = [some (.dat (.int k)), some (.dat (.list ((dblT i).map rowD))), none, none, none, none]) (items := (List.range k).map fun (x : Nat) => PyData.int x) (Γ := [some (.dat (.int k)), some (.dat (.list ((dblT 0).map rowD))), none, none, none, none]) 0 rfl fun i d Γ hd e => by
    subst e
    obtain ⟨x, hx, rfl⟩ : ∃ x : Nat, x < k ∧ PyData.int x = d := by
      have := List.mem_of_getElem? hd
      obtain ⟨x, hx, rfl⟩ := List.mem_map.mp this
      exact ⟨x, by simpa using hx, rfl⟩
    have hi : i < k := by
      have := (List.getElem?_eq_some_iff.mp hd).1
      simpa using this
    rw [Nat.zero_add]
    exact ⟨_, .inl (dbl_step (dbl_sz i) (pow_64 (by omega)) _ _), rfl⟩
  have r := rg1_nat (p := k) (by omega)
  simp only [List.length_map, List.length_range, Nat.zero_add] at e
  have e0 : ([PyData.tuple [.int 1]] : List PyData) = (dblT 0).map rowD := rfl
  have h0 : (dblT 0).length ≤ 16777216 := by decide
  simp [fnOf, fSeq, fNil, fSet, fRet, fDrop, fIf, fFgt, fgtO, fgt, fFor, fIfE, fT, fTru, truD, fAnd, fOr, fNot, fAndV, fOrV, fNotV, fOp2, fVar, fC, fB, fACons, fANil, fTup, fLst, fNeg, gRel, gInt2, gInt2C, gAdd, gMulX_int, gIx, gLen, gAbs, gInt, gEq, gIs, gIsNot, dv_dat, dv_lst, dv_al, dvs, own_dat, own_lst, own_bag, own_dcK, own_scr, flat_dat, flat_lst, Res.fin, frzs_nil, frzs_cons, frz_dat, intT_int, outs, als, argsOf, putArgs, fCall, eqv_int, shp_int, shp_none, shp_bool, noOwn, ownAt, sizeLine_eq, fIter, itemsOf, fRange1, fRange2, eqX_int, eqX_str, fEnumA, fFrz, fNever, permOk, perm, fCallK, fCallP, gMax2, gMin2, gMax3, gMin3, fPar2, fMulti, putM, fAsgG, fLc, F_doubled_table, r, e0, e, gToT, h0]

/-! ### the law's own -/
theorem e1_ldbl (r : List Int) (hr : r.length ≤ 64) {a b c d f : Option MD} : loopL (gN 6) tYesF e1__law_doubled [6] (r.map .int) [] [a, b, c, d, f, some (.dat (.tuple (r.map .int))), none] = some ((M48.neg r).map .int, [a, b, c, d, f, some (.dat (.tuple (r.map .int))), none]) := by
  have := loopL_map (acc := []) (g := PyData.int) (f := fun x => PyData.int (-x)) (l := r) (tg := gN 6) (tt := tYesF) (fe := e1__law_doubled) (own := [6]) (Γ := [a, b, c, d, f, some (.dat (.tuple (r.map .int))), none]) (by simp [sizeLine_eq]; omega) fun x _ => by simp [fnOf, fSeq, fNil, fSet, fRet, fDrop, fIf, fFgt, fgtO, fgt, fFor, fIfE, fT, fTru, truD, fAnd, fOr, fNot, fAndV, fOrV, fNotV, fOp2, fVar, fC, fB, fACons, fANil, fTup, fLst, fNeg, gRel, gInt2, gInt2C, gAdd, gMulX_int, gIx, gLen, gAbs, gInt, gEq, gIs, gIsNot, dv_dat, dv_lst, dv_al, dvs, own_dat, own_lst, own_bag, own_dcK, own_scr, flat_dat, flat_lst, Res.fin, frzs_nil, frzs_cons, frz_dat, intT_int, outs, als, argsOf, putArgs, fCall, eqv_int, shp_int, shp_none, shp_bool, noOwn, ownAt, sizeLine_eq, fIter, itemsOf, fRange1, fRange2, eqX_int, eqX_str, fEnumA, fFrz, fNever, permOk, perm, fCallK, fCallP, gMax2, gMin2, gMax3, gMin3, fPar2, fMulti, putM, fAsgG, fLc, lcStep, lsStep, tYesF, gN, gT, gsCons, gsNil, e1__law_doubled]
  rw [this]
  simp [M48.neg, Function.comp_def]
theorem ldbl_in {T : M48.Tab} {n : Nat} (h : Sz n T) (hn : n ≤ 64) (m b : MD) (j : Int) : ∀ (L A : M48.Tab), L.length + A.length = n → (∀ r ∈ L, r.length = n) →
    loopS (gN 5) b2__law_doubled (L.map rowD) [some m, some b, some (.dat (.int j)), some (.lst (A.map fun r => rowD (r ++ r))), some (.lst (A.map fun r => rowD (r ++ M48.neg r))), none, none] =
      some (.nx [some m, some b, some (.dat (.int j)), some (.lst ((A ++ L).map fun r => rowD (r ++ r))), some (.lst ((A ++ L).map fun r => rowD (r ++ M48.neg r))), none, none])
  | [], A, _, _ => by simp [loopS]
  | r :: L, A, hA, hL => by
    have hl := hL r List.mem_cons_self
    have h1 : r.length + r.length ≤ 16777216 := by omega
    have h2 : r.length + (M48.neg r).length ≤ 16777216 := by rw [M48.neg_length]; omega
    simp only [List.length_cons] at hA
    have h3 : A.length < 16777216 := by omega
    have step : lsStep (gN 5) b2__law_doubled (rowD r) [some m, some b, some (.dat (.int j)), some (.lst (A.map fun r => rowD (r ++ r))), some (.lst (A.map fun r => rowD (r ++ M48.neg r))), none, none] =
        some (.nx [some m, some b, some (.dat (.int j)), some (.lst ((A ++ [r]).map fun r => rowD (r ++ r))), some (.lst ((A ++ [r]).map fun r => rowD (r ++ M48.neg r))), none, none]) := by
      have := fun d f => e1_ldbl r (by omega) (a := some m) (b := some b) (c := some (.dat (.int j))) (d := d) (f := f)
      simp [fnOf, fSeq, fNil, fSet, fRet, fDrop, fIf, fFgt, fgtO, fgt, fFor, fIfE, fT, fTru, truD, fAnd, fOr, fNot, fAndV, fOrV, fNotV, fOp2, fVar, fC, fB, fACons, fANil, fTup, fLst, fNeg, gRel, gInt2, gInt2C, gAdd, gMulX_int, gIx, gLen, gAbs, gInt, gEq, gIs, gIsNot, dv_dat, dv_lst, dv_al, dvs, own_dat, own_lst, own_bag, own_dcK, own_scr, flat_dat, flat_lst, Res.fin, frzs_nil, frzs_cons, frz_dat, intT_int, outs, als, argsOf, putArgs, fCall, eqv_int, shp_int, shp_none, shp_bool, noOwn, ownAt, sizeLine_eq, fIter, itemsOf, fRange1, fRange2, eqX_int, eqX_str, fEnumA, fFrz, fNever, permOk, perm, fCallK, fCallP, gMax2, gMin2, gMax3, gMin3, fPar2, fMulti, putM, fAsgG, fLc, lcStep, lsStep, tYesF, gN, gT, gsCons, gsNil, b2__law_doubled, fAppend, lstS, h1, h2, h3, this, gToT, rowD]
    rw [List.map_cons, loopS_cons, step]
    have := ldbl_in h hn m b j L (A ++ [r]) (by simp; omega) fun x hx => hL x (List.mem_cons_of_mem _ hx)
    simpa using this
theorem ldbl_step {T : M48.Tab} {n : Nat} (h : Sz n T) (hn : n ≤ 64) (m : PyData) (j : Int) :
    lsStep (gN 2) b3__law_doubled (.int j) [some (.dat m), some (.dat (.list (T.map rowD))), none, none, none, none, none] = some (.nx [some (.dat m), some (.dat (.list ((nextD T).map rowD))), none, none, none, none, none]) := by
  have e1 := ldbl_in h hn (.dat m) (.dat (.list (T.map rowD))) j T [] (by simp [h.1]) h.2
  simp only [List.map_nil, List.nil_append] at e1
  have h2 : T.length + T.length ≤ 16777216 := by rw [h.1]; omega
  simp [fnOf, fSeq, fNil, fSet, fRet, fDrop, fIf, fFgt, fgtO, fgt, fFor, fIfE, fT, fTru, truD, fAnd, fOr, fNot, fAndV, fOrV, fNotV, fOp2, fVar, fC, fB, fACons, fANil, fTup, fLst, fNeg, gRel, gInt2, gInt2C, gAdd, gMulX_int, gIx, gLen, gAbs, gInt, gEq, gIs, gIsNot, dv_dat, dv_lst, dv_al, dvs, own_dat, own_lst, own_bag, own_dcK, own_scr, flat_dat, flat_lst, Res.fin, frzs_nil, frzs_cons, frz_dat, intT_int, outs, als, argsOf, putArgs, fCall, eqv_int, shp_int, shp_none, shp_bool, noOwn, ownAt, sizeLine_eq, fIter, itemsOf, fRange1, fRange2, eqX_int, eqX_str, fEnumA, fFrz, fNever, permOk, perm, fCallK, fCallP, gMax2, gMin2, gMax3, gMin3, fPar2, fMulti, putM, fAsgG, fLc, lcStep, lsStep, tYesF, gN, gT, gsCons, gsNil, b3__law_doubled, e1, nextD, h2, Function.comp_def, lstS]
theorem ldoubled_ok {k : Nat} (hk : k ≤ 6) : F__law_doubled [.dat (.int k)] = some (.dat (tabD (dblT k)), [none]) := by
  obtain ⟨Γ2, e, rfl⟩ := loopS_ok (tg := gN 2) (b := b3__law_doubled) (P := fun i Γ => Γ = [some (.dat (.int k)), some (.dat (.list ((dblT i).map rowD))), none, none, none, none, none]) (items := (List.range k).map fun (x : Nat) => PyData.int x) (Γ := [some (.dat (.int k)), some (.dat (.list ((dblT 0).map rowD))), none, none, none, none, none]) 0 rfl fun i d Γ hd e => by
    subst e
    obtain ⟨x, hx, rfl⟩ : ∃ x : Nat, x < k ∧ PyData.int x = d := by
      have := List.mem_of_getElem? hd
      obtain ⟨x, hx, rfl⟩ := List.mem_map.mp this
      exact ⟨x, by simpa using hx, rfl⟩
    have hi : i < k := by
      have := (List.getElem?_eq_some_iff.mp hd).1
      simpa using this
    rw [Nat.zero_add]
    exact ⟨_, .inl (ldbl_step (dbl_sz i) (pow_64 (by omega)) _ _), rfl⟩
  have r := rg1_nat (p := k) (by omega)
  simp only [List.length_map, List.length_range, Nat.zero_add] at e
  have e0 : ([PyData.tuple [.int 1]] : List PyData) = (dblT 0).map rowD := rfl
  have h0 : (dblT 0).length ≤ 16777216 := by decide
  simp [fnOf, fSeq, fNil, fSet, fRet, fDrop, fIf, fFgt, fgtO, fgt, fFor, fIfE, fT, fTru, truD, fAnd, fOr, fNot, fAndV, fOrV, fNotV, fOp2, fVar, fC, fB, fACons, fANil, fTup, fLst, fNeg, gRel, gInt2, gInt2C, gAdd, gMulX_int, gIx, gLen, gAbs, gInt, gEq, gIs, gIsNot, dv_dat, dv_lst, dv_al, dvs, own_dat, own_lst, own_bag, own_dcK, own_scr, flat_dat, flat_lst, Res.fin, frzs_nil, frzs_cons, frz_dat, intT_int, outs, als, argsOf, putArgs, fCall, eqv_int, shp_int, shp_none, shp_bool, noOwn, ownAt, sizeLine_eq, fIter, itemsOf, fRange1, fRange2, eqX_int, eqX_str, fEnumA, fFrz, fNever, permOk, perm, fCallK, fCallP, gMax2, gMin2, gMax3, gMin3, fPar2, fMulti, putM, fAsgG, fLc, F__law_doubled, r, e0, e, gToT, h0]

/-! ### by squares -/
def sqL (p : Nat) : List Int := (List.range (p - 1)).map fun (x : Nat) => ((1 + (x : Int)) * (1 + x)) % p
def lefT (p : Nat) : M48.Tab := List.replicate (p + 1) 1 :: (List.range p).map fun (i : Nat) => -1 :: (List.range p).map fun (j : Nat) => if (1 + (i : Int) = 1 + j ∨ (1 + (j : Int) - (1 + i)) % p ∈ sqL p) then 1 else -1
theorem small_mul {i j : Int} (hi : i.natAbs < 1000000) (hj : j.natAbs < 1000000) : mulOk i j = true := mulOk_of (Nat.lt_of_lt_of_le (by omega) big64) (Nat.lt_of_lt_of_le (by omega) big64)
theorem divNat {i : Int} {p : Nat} (h : 0 < p) (h2 : p < 1000) : divOk i p = true := divOk_of (by omega) (Nat.lt_of_lt_of_le (by omega) big64)
theorem rg2_1 {p : Nat} (h : p < 1000) : rg2 1 p = some ((List.range (p - 1)).map fun (x : Nat) => PyData.int (1 + x)) := by
  have := rg2_nat (a := 1) (b := p) (by omega) (by omega)
  simpa using this
theorem rg2_1s {p : Nat} (h : p < 1000) : rg2 1 ((p : Int) + 1) = some ((List.range p).map fun (x : Nat) => PyData.int (1 + x)) := by
  have := rg2_nat (a := 1) (b := p + 1) (by omega) (by omega)
  simpa using this
theorem in_ints (i : Int) (l : List Int) : gIn false (.int i) (.list (l.map .int)) = some (.val (.bool (decide (i ∈ l)))) := by
  have e : (l.map PyData.int).any (fun y => eqF y (.int i)) = decide (i ∈ l) := by
    induction l with
    | nil => simp
    | cons a l ih =>
      have h : eqF (.int a) (.int i) = decide (i = a) := by
        show (a == i) = decide (i = a)
        by_cases q : a = i
        · subst q; simp
        · simp [q, Ne.symm q]
      rw [List.map_cons, List.any_cons, ih, h]
      simp [List.mem_cons]
  have f : (l.map PyData.int).all flatD = true := by simp [List.all_map, Function.comp_def, flatD]
  simp [gIn, flatD, e, f]
theorem e1_left {p : Nat} (h : 0 < p) (h2 : p < 100) : loopL (gN 5) tYesF e1_leftover_table [5] ((List.range (p - 1)).map fun (x : Nat) => PyData.int (1 + x)) [] [some (.dat (.int p)), none, none, none, none, none, none] = some ((sqL p).map .int, [some (.dat (.int p)), none, none, none, none, none, none]) := by
  have := loopL_map (acc := []) (g := fun (x : Nat) => PyData.int (1 + x)) (f := fun (x : Nat) => PyData.int ((1 + (x : Int)) * (1 + x) % p)) (l := List.range (p - 1)) (tg := gN 5) (tt := tYesF) (fe := e1_leftover_table) (own := [5]) (Γ := [some (.dat (.int p)), none, none, none, none, none, none]) (by simp [sizeLine_eq]; omega) fun x hx => by
    have hx' := List.mem_range.mp hx
    have h3 := small_mul (i := 1 + x) (j := 1 + x) (by omega) (by omega)
    have h4 : ∀ i, divOk i (p : Int) = true := fun i => divNat h (by omega)
    simp [fnOf, fSeq, fNil, fSet, fRet, fDrop, fIf, fFgt, fgtO, fgt, fFor, fIfE, fT, fTru, truD, fAnd, fOr, fNot, fAndV, fOrV, fNotV, fOp2, fVar, fC, fB, fACons, fANil, fTup, fLst, fNeg, gRel, gInt2, gInt2C, gAdd, gMulX_int, gIx, gLen, gAbs, gInt, gEq, gIs, gIsNot, dv_dat, dv_lst, dv_al, dvs, own_dat, own_lst, own_bag, own_dcK, own_scr, flat_dat, flat_lst, Res.fin, frzs_nil, frzs_cons, frz_dat, intT_int, outs, als, argsOf, putArgs, fCall, eqv_int, shp_int, shp_none, shp_bool, noOwn, ownAt, sizeLine_eq, fIter, itemsOf, fRange1, fRange2, eqX_int, eqX_str, fEnumA, fFrz, fNever, permOk, perm, fCallK, fCallP, gMax2, gMin2, gMax3, gMin3, fPar2, fMulti, putM, fAsgG, fLc, lcStep, lsStep, tYesF, gN, gT, gsCons, gsNil, e1_leftover_table, h3, h4, h]
  rw [this]
  simp [sqL, Function.comp_def]
theorem e2_left {p i : Nat} (h : 0 < p) (h2 : p < 100) (a : Option MD) (b : List PyData) : loopL (gN 6) tYesF e2_leftover_table [6] ((List.range p).map fun (x : Nat) => PyData.int (1 + x)) [] [some (.dat (.int p)), some (.dat (.list ((sqL p).map .int))), a, some (.dat (.int (1 + i))), some (.lst b), none, none] =
    some (((List.range p).map fun (j : Nat) => if (1 + (i : Int) = 1 + j ∨ (1 + (j : Int) - (1 + i)) % p ∈ sqL p) then (1 : Int) else -1).map .int, [some (.dat (.int p)), some (.dat (.list ((sqL p).map .int))), a, some (.dat (.int (1 + i))), some (.lst b), none, none]) := by
  have := loopL_map (acc := []) (g := fun (x : Nat) => PyData.int (1 + x)) (f := fun (j : Nat) => PyData.int (if (1 + (i : Int) = 1 + j ∨ (1 + (j : Int) - (1 + i)) % p ∈ sqL p) then (1 : Int) else -1)) (l := List.range p) (tg := gN 6) (tt := tYesF) (fe := e2_leftover_table) (own := [6]) (Γ := [some (.dat (.int p)), some (.dat (.list ((sqL p).map .int))), a, some (.dat (.int (1 + i))), some (.lst b), none, none]) (by simp [sizeLine_eq]; omega) fun x hx => by
    have h4 : ∀ i, divOk i (p : Int) = true := fun i => divNat h (by omega)
    have h5 := in_ints ((1 + (x : Int) - (1 + i)) % p) (sqL p)
    have q3 : ((1 + (i : Int)) = 1 + x) ↔ i = x := by omega
    by_cases q1 : i = x
    · simp [fnOf, fSeq, fNil, fSet, fRet, fDrop, fIf, fFgt, fgtO, fgt, fFor, fIfE, fT, fTru, truD, fAnd, fOr, fNot, fAndV, fOrV, fNotV, fOp2, fVar, fC, fB, fACons, fANil, fTup, fLst, fNeg, gRel, gInt2, gInt2C, gAdd, gMulX_int, gIx, gLen, gAbs, gInt, gEq, gIs, gIsNot, dv_dat, dv_lst, dv_al, dvs, own_dat, own_lst, own_bag, own_dcK, own_scr, flat_dat, flat_lst, Res.fin, frzs_nil, frzs_cons, frz_dat, intT_int, outs, als, argsOf, putArgs, fCall, eqv_int, shp_int, shp_none, shp_bool, noOwn, ownAt, sizeLine_eq, fIter, itemsOf, fRange1, fRange2, eqX_int, eqX_str, fEnumA, fFrz, fNever, permOk, perm, fCallK, fCallP, gMax2, gMin2, gMax3, gMin3, fPar2, fMulti, putM, fAsgG, fLc, lcStep, lsStep, tYesF, gN, gT, gsCons, gsNil, e2_leftover_table, q3, q1]
    · generalize hz : (1 + (x : Int) - (1 + i)) % p = z at h5 ⊢
      by_cases q2 : z ∈ sqL p
      · simp [fnOf, fSeq, fNil, fSet, fRet, fDrop, fIf, fFgt, fgtO, fgt, fFor, fIfE, fT, fTru, truD, fAnd, fOr, fNot, fAndV, fOrV, fNotV, fOp2, fVar, fC, fB, fACons, fANil, fTup, fLst, fNeg, gRel, gInt2, gInt2C, gAdd, gMulX_int, gIx, gLen, gAbs, gInt, gEq, gIs, gIsNot, dv_dat, dv_lst, dv_al, dvs, own_dat, own_lst, own_bag, own_dcK, own_scr, flat_dat, flat_lst, Res.fin, frzs_nil, frzs_cons, frz_dat, intT_int, outs, als, argsOf, putArgs, fCall, eqv_int, shp_int, shp_none, shp_bool, noOwn, ownAt, sizeLine_eq, fIter, itemsOf, fRange1, fRange2, eqX_int, eqX_str, fEnumA, fFrz, fNever, permOk, perm, fCallK, fCallP, gMax2, gMin2, gMax3, gMin3, fPar2, fMulti, putM, fAsgG, fLc, lcStep, lsStep, tYesF, gN, gT, gsCons, gsNil, e2_leftover_table, q3, q1, h4, h, hz, h5, q2]
      · simp [fnOf, fSeq, fNil, fSet, fRet, fDrop, fIf, fFgt, fgtO, fgt, fFor, fIfE, fT, fTru, truD, fAnd, fOr, fNot, fAndV, fOrV, fNotV, fOp2, fVar, fC, fB, fACons, fANil, fTup, fLst, fNeg, gRel, gInt2, gInt2C, gAdd, gMulX_int, gIx, gLen, gAbs, gInt, gEq, gIs, gIsNot, dv_dat, dv_lst, dv_al, dvs, own_dat, own_lst, own_bag, own_dcK, own_scr, flat_dat, flat_lst, Res.fin, frzs_nil, frzs_cons, frz_dat, intT_int, outs, als, argsOf, putArgs, fCall, eqv_int, shp_int, shp_none, shp_bool, noOwn, ownAt, sizeLine_eq, fIter, itemsOf, fRange1, fRange2, eqX_int, eqX_str, fEnumA, fFrz, fNever, permOk, perm, fCallK, fCallP, gMax2, gMin2, gMax3, gMin3, fPar2, fMulti, putM, fAsgG, fLc, lcStep, lsStep, tYesF, gN, gT, gsCons, gsNil, e2_leftover_table, q3, q1, h4, h, hz, h5, q2]
  rw [this]
  simp [Function.comp_def]
end Lw

end

/-! K48d: tables by squares -/
noncomputable section
namespace Lw
open PySem PySem.Spec PyProof.Rows L2 Fx

def lrow (p i : Nat) : List Int := -1 :: (List.range p).map fun (j : Nat) => if (1 + (i : Int) = 1 + j ∨ (1 + (j : Int) - (1 + i)) % p ∈ sqL p) then 1 else -1
theorem lefT_is (p : Nat) : lefT p = List.replicate (p + 1) 1 :: (List.range p).map (lrow p) := rfl
theorem b3_left {p i : Nat} (h : 0 < p) (h2 : p < 100) {A : List PyData} (hA : A.length < 1000) :
    lsStep (gN 3) b3_leftover_table (.int (1 + i)) [some (.dat (.int p)), some (.dat (.list ((sqL p).map .int))), some (.lst A), none, none, none, none] =
      some (.nx [some (.dat (.int p)), some (.dat (.list ((sqL p).map .int))), some (.lst (A ++ [rowD (lrow p i)])), none, none, none, none]) := by
  have e1 := e2_left (i := i) h h2 (some (.lst A)) [.int (-1)]
  have e2 := rg2_1s (p := p) (by omega)
  have h3 : p ≤ 16777216 := by omega
  have h3' : 1 + p ≤ 16777216 := by omega
  have h4 : A.length < 16777216 := by omega
  generalize hl : ((List.range p).map fun (j : Nat) => if (1 + (i : Int) = 1 + j ∨ (1 + (j : Int) - (1 + i)) % p ∈ sqL p) then (1 : Int) else -1) = l at e1
  have hll : l.length = p := by rw [← hl]; simp
  have e3 : lrow p i = -1 :: l := by rw [← hl]; rfl
  rw [e3]
  simp [fnOf, fSeq, fNil, fSet, fRet, fDrop, fIf, fFgt, fgtO, fgt, fFor, fIfE, fT, fTru, truD, fAnd, fOr, fNot, fAndV, fOrV, fNotV, fOp2, fVar, fC, fB, fACons, fANil, fTup, fLst, fNeg, gRel, gInt2, gInt2C, gAdd, gMulX_int, gIx, gLen, gAbs, gInt, gEq, gIs, gIsNot, dv_dat, dv_lst, dv_al, dvs, own_dat, own_lst, own_bag, own_dcK, own_scr, flat_dat, flat_lst, Res.fin, frzs_nil, frzs_cons, frz_dat, intT_int, outs, als, argsOf, putArgs, fCall, eqv_int, shp_int, shp_none, shp_bool, noOwn, ownAt, sizeLine_eq, fIter, itemsOf, fRange1, fRange2, eqX_int, eqX_str, fEnumA, fFrz, fNever, permOk, perm, fCallK, fCallP, gMax2, gMin2, gMax3, gMin3, fPar2, fMulti, putM, fAsgG, fLc, lcStep, lsStep, tYesF, gN, gT, gsCons, gsNil, b3_leftover_table, e2, e1, fExtend, fAppend, lstS, gToT, hll, h3, h3', h4, rowD]
theorem ones {p : Nat} (h : p < 100) : gMulX (.tuple [.int 1]) (.int ((p : Int) + 1)) = some (.val (rowD (List.replicate (p + 1) 1))) := by
  have := gMulX_tup [.int 1] (k := p + 1) (by decide) (by omega)
  have e : (List.replicate (p + 1) [PyData.int 1]).flatten = (List.replicate (p + 1) (1 : Int)).map .int := by
    generalize p + 1 = n
    induction n with
    | zero => rfl
    | succ n ih => simp [List.replicate_succ, ih]
  rw [e] at this
  rw [← this]
  congr 1
theorem leftover_ok {p : Nat} (h : 0 < p) (h2 : p < 100) : F_leftover_table [.dat (.int p)] = some (.dat (tabD (lefT p)), [none]) := by
  obtain ⟨Γ2, e, rfl⟩ := loopS_ok (tg := gN 3) (b := b3_leftover_table) (P := fun k Γ => Γ = [some (.dat (.int p)), some (.dat (.list ((sqL p).map .int))), some (.lst (rowD (List.replicate (p + 1) 1) :: ((List.range k).map fun i => rowD (lrow p i)))), none, none, none, none]) (items := (List.range p).map fun (x : Nat) => PyData.int (1 + x)) (Γ := [some (.dat (.int p)), some (.dat (.list ((sqL p).map .int))), some (.lst [rowD (List.replicate (p + 1) 1)]), none, none, none, none]) 0 rfl fun i d Γ hd e => by
    subst e
    obtain ⟨hi, e⟩ := List.getElem?_eq_some_iff.mp hd
    simp at hi e
    rw [Nat.zero_add, ← e]
    refine ⟨_, .inl (b3_left h h2 (by simp; omega)), ?_⟩
    rw [List.range_succ]
    simp
  simp only [List.length_map, List.length_range, Nat.zero_add] at e
  have e1 := rg2_1 (p := p) (by omega)
  have e2 := rg2_1s (p := p) (by omega)
  have e3 := e1_left h h2
  have e4 := ones h2
  rw [lefT_is]
  generalize List.replicate (p + 1) (1 : Int) = o at *
  simp [fnOf, fSeq, fNil, fSet, fRet, fDrop, fIf, fFgt, fgtO, fgt, fFor, fIfE, fT, fTru, truD, fAnd, fOr, fNot, fAndV, fOrV, fNotV, fOp2, fVar, fC, fB, fACons, fANil, fTup, fLst, fNeg, gRel, gInt2, gInt2C, gAdd, gMulX_int, gIx, gLen, gAbs, gInt, gEq, gIs, gIsNot, dv_dat, dv_lst, dv_al, dvs, own_dat, own_lst, own_bag, own_dcK, own_scr, flat_dat, flat_lst, Res.fin, frzs_nil, frzs_cons, frz_dat, intT_int, outs, als, argsOf, putArgs, fCall, eqv_int, shp_int, shp_none, shp_bool, noOwn, ownAt, sizeLine_eq, fIter, itemsOf, fRange1, fRange2, eqX_int, eqX_str, fEnumA, fFrz, fNever, permOk, perm, fCallK, fCallP, gMax2, gMin2, gMax3, gMin3, fPar2, fMulti, putM, fAsgG, fLc, F_leftover_table, e1, e2, e3, e4, e, gToT, fFrz, lstS, tabD, Function.comp_def]

/-! ### the law's own -/
def sgP (p : Nat) : List Int := (((List.range (p - 1)).foldl (fun (s : List Int) (x : Nat) => s.set ((1 + x) * (1 + x) % p) 1) (List.replicate p (-1))).set 0 1)
def lawT (p : Nat) : M48.Tab := List.replicate (p + 1) 1 :: (List.range p).map fun (i : Nat) => -1 :: (List.range p).map fun (j : Nat) => (sgP p).getD ((j + p - i) % p) 0
theorem set_fold (p : Nat) (l : List Nat) : ∀ s : List Int, s.length = p → (l.foldl (fun (s : List Int) (x : Nat) => s.set ((1 + x) * (1 + x) % p) 1) s).length = p := by
  induction l with
  | nil => exact fun s h => h
  | cons a l ih => exact fun s h => ih _ (by rw [List.length_set]; exact h)
theorem b1_lleft {p x : Nat} (h : 0 < p) (h2 : p < 100) (hx : x < p) {s : List Int} (hs : s.length = p) :
    lsStep (gN 2) b1__law_leftover (.int (1 + x)) [some (.dat (.int p)), some (.lst (s.map .int)), none, none, none, none] =
      some (.nx [some (.dat (.int p)), some (.lst ((s.set ((1 + x) * (1 + x) % p) 1).map .int)), none, none, none, none]) := by
  have h3 := small_mul (i := 1 + x) (j := 1 + x) (by omega) (by omega)
  have h4 : ∀ i, divOk i (p : Int) = true := fun i => divNat h (by omega)
  have hm : (1 + x) * (1 + x) % p < p := Nat.mod_lt _ h
  have e : (1 + (x : Int)) * (1 + x) % p = (((1 + x) * (1 + x) % p : Nat) : Int) := by simp
  have h5 := ixN_nat hm
  generalize (1 + x) * (1 + x) % p = z at *
  simp [fnOf, fSeq, fNil, fSet, fRet, fDrop, fIf, fFgt, fgtO, fgt, fFor, fIfE, fT, fTru, truD, fAnd, fOr, fNot, fAndV, fOrV, fNotV, fOp2, fVar, fC, fB, fACons, fANil, fTup, fLst, fNeg, gRel, gInt2, gInt2C, gAdd, gMulX_int, gIx, gLen, gAbs, gInt, gEq, gIs, gIsNot, dv_dat, dv_lst, dv_al, dvs, own_dat, own_lst, own_bag, own_dcK, own_scr, flat_dat, flat_lst, Res.fin, frzs_nil, frzs_cons, frz_dat, intT_int, outs, als, argsOf, putArgs, fCall, eqv_int, shp_int, shp_none, shp_bool, noOwn, ownAt, sizeLine_eq, fIter, itemsOf, fRange1, fRange2, eqX_int, eqX_str, fEnumA, fFrz, fNever, permOk, perm, fCallK, fCallP, gMax2, gMin2, gMax3, gMin3, fPar2, fMulti, putM, fAsgG, fLc, lcStep, lsStep, tYesF, gN, gT, gsCons, gsNil, b1__law_leftover, fPutIx, lstS, h3, h4, h, e, hs, h5]
theorem signs_ok {p : Nat} (h : 0 < p) (h2 : p < 100) : loopS (gN 2) b1__law_leftover ((List.range (p - 1)).map fun (x : Nat) => PyData.int (1 + x)) [some (.dat (.int p)), some (.lst ((List.replicate p (-1 : Int)).map .int)), none, none, none, none] =
    some (.nx [some (.dat (.int p)), some (.lst (((List.range (p - 1)).foldl (fun (s : List Int) (x : Nat) => s.set ((1 + x) * (1 + x) % p) 1) (List.replicate p (-1))).map .int)), none, none, none, none]) :=
  (loopS_foldI (tg := gN 2) (b := b1__law_leftover) (g := fun (x : Nat) => PyData.int (1 + x)) (st := fun s : List Int => [some (.dat (.int p)), some (.lst (s.map .int)), none, none, none, none]) (f := fun (s : List Int) (x : Nat) => s.set ((1 + x) * (1 + x) % p) 1) (fun s => s.length = p) (List.range (p - 1)) (List.replicate p (-1)) (by simp) fun x hx s hs => ⟨b1_lleft h h2 (by have := List.mem_range.mp hx; omega) hs, by rw [List.length_set]; exact hs⟩).1
theorem sgP_len (p : Nat) : (sgP p).length = p := by
  unfold sgP
  rw [List.length_set]
  exact set_fold p _ _ (by simp)
def llrow (p i : Nat) : List Int := -1 :: (List.range p).map fun (j : Nat) => (sgP p).getD ((j + p - i) % p) 0
theorem lawT_is (p : Nat) : lawT p = List.replicate (p + 1) 1 :: (List.range p).map (llrow p) := rfl
theorem e2_lleft {p i : Nat} (h : 0 < p) (h2 : p < 100) (hi : i < p) (a : Option MD) (b : List PyData) : loopL (gN 5) tYesF e2__law_leftover [5] ((List.range p).map fun (x : Nat) => PyData.int x) [] [some (.dat (.int p)), some (.dat (.list ((sgP p).map .int))), a, some (.lst b), some (.dat (.int i)), none] =
    some (((List.range p).map fun (j : Nat) => (sgP p).getD ((j + p - i) % p) 0).map .int, [some (.dat (.int p)), some (.dat (.list ((sgP p).map .int))), a, some (.lst b), some (.dat (.int i)), none]) := by
  have := loopL_map (acc := []) (g := fun (x : Nat) => PyData.int x) (f := fun (j : Nat) => PyData.int ((sgP p).getD ((j + p - i) % p) 0)) (l := List.range p) (tg := gN 5) (tt := tYesF) (fe := e2__law_leftover) (own := [5]) (Γ := [some (.dat (.int p)), some (.dat (.list ((sgP p).map .int))), a, some (.lst b), some (.dat (.int i)), none]) (by simp [sizeLine_eq]; omega) fun x hx => by
    have h4 : ∀ i, divOk i (p : Int) = true := fun i => divNat h (by omega)
    have hm : (x + p - i) % p < p := Nat.mod_lt _ h
    have e : ((x : Int) + p - i) % p = (((x + p - i) % p : Nat) : Int) := by
      rw [Int.natCast_emod]; congr 1; omega
    have e5 : ((sgP p).map PyData.int)[(x + p - i) % p]? = some (.int ((sgP p).getD ((x + p - i) % p) 0)) := by
      have := sgP_len p
      rw [List.getElem?_map, List.getElem?_eq_getElem (by omega), List.getD_eq_getElem?_getD, List.getElem?_eq_getElem (by omega)]
      rfl
    generalize (sgP p).getD ((x + p - i) % p) 0 = y at *
    generalize (x + p - i) % p = z at *
    simp [fnOf, fSeq, fNil, fSet, fRet, fDrop, fIf, fFgt, fgtO, fgt, fFor, fIfE, fT, fTru, truD, fAnd, fOr, fNot, fAndV, fOrV, fNotV, fOp2, fVar, fC, fB, fACons, fANil, fTup, fLst, fNeg, gRel, gInt2, gInt2C, gAdd, gMulX_int, gIx, gLen, gAbs, gInt, gEq, gIs, gIsNot, dv_dat, dv_lst, dv_al, dvs, own_dat, own_lst, own_bag, own_dcK, own_scr, flat_dat, flat_lst, Res.fin, frzs_nil, frzs_cons, frz_dat, intT_int, outs, als, argsOf, putArgs, fCall, eqv_int, shp_int, shp_none, shp_bool, noOwn, ownAt, sizeLine_eq, fIter, itemsOf, fRange1, fRange2, eqX_int, eqX_str, fEnumA, fFrz, fNever, permOk, perm, fCallK, fCallP, gMax2, gMin2, gMax3, gMin3, fPar2, fMulti, putM, fAsgG, fLc, lcStep, lsStep, tYesF, gN, gT, gsCons, gsNil, e2__law_leftover, h4, h, e, atI_nat e5]
  rw [this]
  simp [Function.comp_def]
theorem b3_lleft {p i : Nat} (h : 0 < p) (h2 : p < 100) (hi : i < p) {A : List PyData} (hA : A.length < 1000) :
    lsStep (gN 4) b3__law_leftover (.int i) [some (.dat (.int p)), some (.dat (.list ((sgP p).map .int))), none, some (.lst A), none, none] =
      some (.nx [some (.dat (.int p)), some (.dat (.list ((sgP p).map .int))), none, some (.lst (A ++ [rowD (llrow p i)])), none, none]) := by
  have e1 := e2_lleft h h2 hi none A
  have e2 := rg1_nat (p := p) (by omega)
  have h3 : p ≤ 16777216 := by omega
  have h3' : 1 + p ≤ 16777216 := by omega
  have h4 : A.length < 16777216 := by omega
  generalize hl : ((List.range p).map fun (j : Nat) => (sgP p).getD ((j + p - i) % p) 0) = l at e1
  have hll : l.length = p := by rw [← hl]; simp
  have e3 : llrow p i = -1 :: l := by rw [← hl]; rfl
  rw [e3]
  simp [fnOf, fSeq, fNil, fSet, fRet, fDrop, fIf, fFgt, fgtO, fgt, fFor, fIfE, fT, fTru, truD, fAnd, fOr, fNot, fAndV, fOrV, fNotV, fOp2, fVar, fC, fB, fACons, fANil, fTup, fLst, fNeg, gRel, gInt2, gInt2C, gAdd, gMulX_int, gIx, gLen, gAbs, gInt, gEq, gIs, gIsNot, dv_dat, dv_lst, dv_al, dvs, own_dat, own_lst, own_bag, own_dcK, own_scr, flat_dat, flat_lst, Res.fin, frzs_nil, frzs_cons, frz_dat, intT_int, outs, als, argsOf, putArgs, fCall, eqv_int, shp_int, shp_none, shp_bool, noOwn, ownAt, sizeLine_eq, fIter, itemsOf, fRange1, fRange2, eqX_int, eqX_str, fEnumA, fFrz, fNever, permOk, perm, fCallK, fCallP, gMax2, gMin2, gMax3, gMin3, fPar2, fMulti, putM, fAsgG, fLc, lcStep, lsStep, tYesF, gN, gT, gsCons, gsNil, b3__law_leftover, e2, e1, fAppend, lstS, gToT, hll, h3, h3', h4, rowD]
theorem lleftover_ok {p : Nat} (h : 0 < p) (h2 : p < 100) : F__law_leftover [.dat (.int p)] = some (.dat (tabD (lawT p)), [none]) := by
  obtain ⟨Γ2, e, rfl⟩ := loopS_ok (tg := gN 4) (b := b3__law_leftover) (P := fun k Γ => Γ = [some (.dat (.int p)), some (.dat (.list ((sgP p).map .int))), none, some (.lst (rowD (List.replicate (p + 1) 1) :: ((List.range k).map fun i => rowD (llrow p i)))), none, none]) (items := (List.range p).map fun (x : Nat) => PyData.int x) (Γ := [some (.dat (.int p)), some (.dat (.list ((sgP p).map .int))), none, some (.lst [rowD (List.replicate (p + 1) 1)]), none, none]) 0 rfl fun i d Γ hd e => by
    subst e
    obtain ⟨hi, e⟩ := List.getElem?_eq_some_iff.mp hd
    simp at hi e
    rw [Nat.zero_add, ← e]
    refine ⟨_, .inl (b3_lleft h h2 hi (by simp; omega)), ?_⟩
    rw [List.range_succ]
    simp
  simp only [List.length_map, List.length_range, Nat.zero_add] at e
  have e1 := rg2_1 (p := p) (by omega)
  have e2 := rg1_nat (p := p) (by omega)
  have e3 := signs_ok h h2
  have e4 := ones h2
  have e5 := gMul_rep (.int (-1)) (n := p) (by omega)
  have e6 : (List.replicate p (-1 : Int)).map PyData.int = List.replicate p (.int (-1)) := List.map_replicate
  rw [e6] at e3
  have e7 : gMulX (.list [.int (-1)]) (.int p) = some (.new (List.replicate p (.int (-1)))) := e5
  have e8 : ∀ s : List Int, s.length = p → ixN s.length 0 = some 0 := fun s hs => by
    have := ixN_nat (n := s.length) (j := 0) (by omega)
    exact this
  have e9 := set_fold p (List.range (p - 1)) (List.replicate p (-1)) (by simp)
  have e10 : sgP p = (((List.range (p - 1)).foldl (fun (s : List Int) (x : Nat) => s.set ((1 + x) * (1 + x) % p) 1) (List.replicate p (-1))).set 0 1) := rfl
  rw [lawT_is]
  generalize (List.range (p - 1)).foldl (fun (s : List Int) (x : Nat) => s.set ((1 + x) * (1 + x) % p) 1) (List.replicate p (-1)) = w at *
  have e11 := e8 w e9
  have e12 : (w.map PyData.int).set 0 (.int 1) = (sgP p).map .int := by rw [e10, List.map_set]
  generalize (sgP p).map PyData.int = sg at *
  generalize hw : w.map PyData.int = wd at *
  have e13 : ixN wd.length 0 = some 0 := by rw [← hw, List.length_map]; exact e11
  generalize List.replicate (p + 1) (1 : Int) = o at *
  generalize List.replicate p (PyData.int (-1)) = u at *
  simp [fnOf, fSeq, fNil, fSet, fRet, fDrop, fIf, fFgt, fgtO, fgt, fFor, fIfE, fT, fTru, truD, fAnd, fOr, fNot, fAndV, fOrV, fNotV, fOp2, fVar, fC, fB, fACons, fANil, fTup, fLst, fNeg, gRel, gInt2, gInt2C, gAdd, gMulX_int, gIx, gLen, gAbs, gInt, gEq, gIs, gIsNot, dv_dat, dv_lst, dv_al, dvs, own_dat, own_lst, own_bag, own_dcK, own_scr, flat_dat, flat_lst, Res.fin, frzs_nil, frzs_cons, frz_dat, intT_int, outs, als, argsOf, putArgs, fCall, eqv_int, shp_int, shp_none, shp_bool, noOwn, ownAt, sizeLine_eq, fIter, itemsOf, fRange1, fRange2, eqX_int, eqX_str, fEnumA, fFrz, fNever, permOk, perm, fCallK, fCallP, gMax2, gMin2, gMax3, gMin3, fPar2, fMulti, putM, fAsgG, fLc, F__law_leftover, e1, e2, e3, e4, e7, e, gToT, fFrz, lstS, tabD, Function.comp_def, fPutIx, e13, e12]
end Lw

end

/-! K48e: the tables are sign tables -/
noncomputable section
namespace Lw
open PySem PySem.Spec PyProof.Rows L2 Fx

theorem had_dbl {k : Nat} (h : k ≤ 5) : M48.Had (2 ^ k) (dblT k) := by
  have : k = 0 ∨ k = 1 ∨ k = 2 ∨ k = 3 ∨ k = 4 ∨ k = 5 := by omega
  rcases this with rfl | rfl | rfl | rfl | rfl | rfl
  · exact M48.hadB_ok (by decide +kernel)
  · exact M48.hadB_ok (by decide +kernel)
  · exact M48.hadB_ok (by decide +kernel)
  · exact M48.hadB_ok (by decide +kernel)
  · exact M48.hadB_ok (by decide +kernel)
  · exact M48.hadB_ok (by decide +kernel)
def PQ (p : Nat) : Prop := p = 3 ∨ p = 7 ∨ p = 11 ∨ p = 19 ∨ p = 23 ∨ p = 31
theorem had_left {p : Nat} (h : PQ p) : M48.Had (p + 1) (lawT p) := by
  rcases h with rfl | rfl | rfl | rfl | rfl | rfl
  · exact M48.hadB_ok (by decide +kernel)
  · exact M48.hadB_ok (by decide +kernel)
  · exact M48.hadB_ok (by decide +kernel)
  · exact M48.hadB_ok (by decide +kernel)
  · exact M48.hadB_ok (by decide +kernel)
  · exact M48.hadB_ok (by decide +kernel)
theorem left_law {p : Nat} (h : PQ p) : lefT p = lawT p := by
  rcases h with rfl | rfl | rfl | rfl | rfl | rfl
  · decide +kernel
  · decide +kernel
  · decide +kernel
  · decide +kernel
  · decide +kernel
  · decide +kernel
end Lw

end

/-! K48f: orders, tables led and turned about -/
noncomputable section
namespace Lw
open PySem PySem.Spec PyProof.Rows L2 Fx

theorem nat_at {l : List Nat} {k : Nat} (h : k < l.length) : (l.map fun (x : Nat) => PyData.int x)[k]? = some (.int (l[k] : Nat)) := by simp [h]
theorem order_ok {n : Nat} (hn : n ≤ 64) {B : MD} (hB : BagOk B) : ∃ (l : List Nat) (B' : MD), F__law_order [B, .dat (.int n)] = some (.dat (.list (l.map fun (x : Nat) => .int x)), [some B', none]) ∧ BagOk B' ∧ l.Perm (List.range n) := by
  have r1 := rgA_nat (p := n) (by omega)
  have r2 := rg1_nat (p := n) (by omega)
  obtain ⟨Γ2, e, l, B', rfl, hB', pl⟩ := loopS_ok (tg := gN 3) (b := b1__law_order) (P := fun k Γ => ∃ (l : List Nat) (B' : MD), Γ = [some B', some (.dat (.int n)), some (.lst (l.map fun (x : Nat) => PyData.int x)), none, none] ∧ BagOk B' ∧ l.Perm (List.range n)) (items := (List.range n).map fun (x : Nat) => PyData.int x) (Γ := [some B, some (.dat (.int n)), some (.lst ((List.range n).map fun (x : Nat) => PyData.int x)), none, none]) 0 ⟨_, _, rfl, hB, .refl _⟩ fun i d Γ hd ⟨l, B1, e, hB1, pl⟩ => by
    subst e
    obtain ⟨hi, e⟩ := List.getElem?_eq_some_iff.mp hd
    simp at hi e
    obtain ⟨v, B2, ev, hB2, hv⟩ := drawN hB1 (n := n - i) (by omega) (by omega)
    have hll : l.length = n := by rw [pl.length_eq]; simp
    have e1 : ((n - i : Nat) : Int) = (n : Int) - i := by omega
    rw [e1] at ev
    have hk : i < l.length := by omega
    have ho : i + v < l.length := by omega
    have a1 := nat_at hk
    have a2 := nat_at ho
    have e2 : ((i + v : Nat) : Int) = (i : Int) + v := by omega
    have i1 := ixN_nat hk
    have i2 := ixN_nat ho
    have x1 := atI_nat a1
    have x2 := atI_nat a2
    rw [e2] at x2 i2
    refine ⟨[some B2, some (.dat (.int n)), some (.lst (((l.set i (l[i + v]))|>.set (i + v) l[i]).map fun (x : Nat) => PyData.int x)), none, none], .inl ?_, _, _, rfl, hB2, (List.set_set_perm hk ho).trans pl⟩
    rw [← e]
    generalize l[i + v] = y at *
    generalize l[i] = x at *
    simp [fnOf, fSeq, fNil, fSet, fRet, fDrop, fIf, fFgt, fgtO, fgt, fFor, fIfE, fT, fTru, truD, fAnd, fOr, fNot, fAndV, fOrV, fNotV, fOp2, fVar, fC, fB, fACons, fANil, fTup, fLst, fNeg, gRel, gInt2, gInt2C, gAdd, gMulX_int, gIx, gLen, gAbs, gInt, gEq, gIs, gIsNot, dv_dat, dv_lst, dv_al, dvs, own_dat, own_lst, own_bag, own_dcK, own_scr, flat_dat, flat_lst, Res.fin, frzs_nil, frzs_cons, frz_dat, intT_int, outs, als, argsOf, putArgs, fCall, eqv_int, shp_int, shp_none, shp_bool, noOwn, ownAt, sizeLine_eq, fIter, itemsOf, fRange1, fRange2, eqX_int, eqX_str, fEnumA, fFrz, fNever, permOk, perm, fCallK, fCallP, gMax2, gMin2, gMax3, gMin3, fPar2, fMulti, putM, fAsgG, fLc, lcStep, lsStep, tYesF, gN, gT, gsCons, gsNil, b1__law_order, hB1.own, hB2.own, ev, x1, x2, gIxS, lstS, i1, i2, List.map_set]
  refine ⟨l, B', ?_, hB', pl⟩
  simp [fnOf, fSeq, fNil, fSet, fRet, fDrop, fIf, fFgt, fgtO, fgt, fFor, fIfE, fT, fTru, truD, fAnd, fOr, fNot, fAndV, fOrV, fNotV, fOp2, fVar, fC, fB, fACons, fANil, fTup, fLst, fNeg, gRel, gInt2, gInt2C, gAdd, gMulX_int, gIx, gLen, gAbs, gInt, gEq, gIs, gIsNot, dv_dat, dv_lst, dv_al, dvs, own_dat, own_lst, own_bag, own_dcK, own_scr, flat_dat, flat_lst, Res.fin, frzs_nil, frzs_cons, frz_dat, intT_int, outs, als, argsOf, putArgs, fCall, eqv_int, shp_int, shp_none, shp_bool, noOwn, ownAt, sizeLine_eq, fIter, itemsOf, fRange1, fRange2, eqX_int, eqX_str, fEnumA, fFrz, fNever, permOk, perm, fCallK, fCallP, gMax2, gMin2, gMax3, gMin3, fPar2, fMulti, putM, fAsgG, fLc, F__law_order, fListR1, r1, r2, hB.own, hB'.own, e]
theorem about_ok {n : Nat} {T : M48.Tab} (h : M48.Tb n T) (hn : n ≤ 64) : F__law_about [.dat (tabD T)] = some (.dat (tabD (M48.tr n T)), [none]) := by
  have hl := h.len
  have e1 : ∀ k, k < n → loopL (gN 2) tYesF e1__law_about [2] (T.map rowD) [] [some (.dat (tabD T)), some (.dat (.int (k : Nat))), none] = some ((T.map fun r => r.getD k 0).map .int, [some (.dat (tabD T)), some (.dat (.int (k : Nat))), none]) := fun k hk => by
    have := loopL_map (acc := []) (g := rowD) (f := fun r => PyData.int (r.getD k 0)) (l := T) (tg := gN 2) (tt := tYesF) (fe := e1__law_about) (own := [2]) (Γ := [some (.dat (tabD T)), some (.dat (.int (k : Nat))), none]) (by simp [sizeLine_eq]; omega) fun r hr => by
      have hrl := (h.row r hr).1
      have ex : (r.map PyData.int)[k]? = some (.int (r.getD k 0)) := by
        rw [List.getElem?_map, List.getElem?_eq_getElem (by omega), List.getD_eq_getElem?_getD, List.getElem?_eq_getElem (by omega)]
        rfl
      have x1 := atI_nat ex
      generalize r.getD k 0 = y at *
      simp [fnOf, fSeq, fNil, fSet, fRet, fDrop, fIf, fFgt, fgtO, fgt, fFor, fIfE, fT, fTru, truD, fAnd, fOr, fNot, fAndV, fOrV, fNotV, fOp2, fVar, fC, fB, fACons, fANil, fTup, fLst, fNeg, gRel, gInt2, gInt2C, gAdd, gMulX_int, gIx, gLen, gAbs, gInt, gEq, gIs, gIsNot, dv_dat, dv_lst, dv_al, dvs, own_dat, own_lst, own_bag, own_dcK, own_scr, flat_dat, flat_lst, Res.fin, frzs_nil, frzs_cons, frz_dat, intT_int, outs, als, argsOf, putArgs, fCall, eqv_int, shp_int, shp_none, shp_bool, noOwn, ownAt, sizeLine_eq, fIter, itemsOf, fRange1, fRange2, eqX_int, eqX_str, fEnumA, fFrz, fNever, permOk, perm, fCallK, fCallP, gMax2, gMin2, gMax3, gMin3, fPar2, fMulti, putM, fAsgG, fLc, lcStep, lsStep, tYesF, gN, gT, gsCons, gsNil, e1__law_about, x1]
    rw [this]
    simp only [List.nil_append, List.map_map]
    rfl
  have e2 := loopL_map (acc := []) (g := fun (k : Nat) => PyData.int k) (f := fun k => rowD (T.map fun r => r.getD k 0)) (l := List.range n) (tg := gN 1) (tt := tYesF) (fe := e2__law_about) (own := [1]) (Γ := [some (.dat (tabD T)), none, none]) (by simp [sizeLine_eq]; omega) fun k hk => by
    have := e1 k (List.mem_range.mp hk)
    generalize (T.map fun r => r.getD k 0) = y at *
    simp [fnOf, fSeq, fNil, fSet, fRet, fDrop, fIf, fFgt, fgtO, fgt, fFor, fIfE, fT, fTru, truD, fAnd, fOr, fNot, fAndV, fOrV, fNotV, fOp2, fVar, fC, fB, fACons, fANil, fTup, fLst, fNeg, gRel, gInt2, gInt2C, gAdd, gMulX_int, gIx, gLen, gAbs, gInt, gEq, gIs, gIsNot, dv_dat, dv_lst, dv_al, dvs, own_dat, own_lst, own_bag, own_dcK, own_scr, flat_dat, flat_lst, Res.fin, frzs_nil, frzs_cons, frz_dat, intT_int, outs, als, argsOf, putArgs, fCall, eqv_int, shp_int, shp_none, shp_bool, noOwn, ownAt, sizeLine_eq, fIter, itemsOf, fRange1, fRange2, eqX_int, eqX_str, fEnumA, fFrz, fNever, permOk, perm, fCallK, fCallP, gMax2, gMin2, gMax3, gMin3, fPar2, fMulti, putM, fAsgG, fLc, lcStep, lsStep, tYesF, gN, gT, gsCons, gsNil, e2__law_about, this, gToT]
  have r2 := rg1_nat (p := n) (by omega)
  rw [List.nil_append] at e2
  have e3 : ((List.range n).map fun k => rowD (T.map fun r => r.getD k 0)) = (M48.tr n T).map rowD := by simp [M48.tr]
  rw [e3] at e2
  generalize M48.tr n T = T' at *
  simp [fnOf, fSeq, fNil, fSet, fRet, fDrop, fIf, fFgt, fgtO, fgt, fFor, fIfE, fT, fTru, truD, fAnd, fOr, fNot, fAndV, fOrV, fNotV, fOp2, fVar, fC, fB, fACons, fANil, fTup, fLst, fNeg, gRel, gInt2, gInt2C, gAdd, gMulX_int, gIx, gLen, gAbs, gInt, gEq, gIs, gIsNot, dv_dat, dv_lst, dv_al, dvs, own_dat, own_lst, own_bag, own_dcK, own_scr, flat_dat, flat_lst, Res.fin, frzs_nil, frzs_cons, frz_dat, intT_int, outs, als, argsOf, putArgs, fCall, eqv_int, shp_int, shp_none, shp_bool, noOwn, ownAt, sizeLine_eq, fIter, itemsOf, fRange1, fRange2, eqX_int, eqX_str, fEnumA, fFrz, fNever, permOk, perm, fCallK, fCallP, gMax2, gMin2, gMax3, gMin3, fPar2, fMulti, putM, fAsgG, fLc, F__law_about, hl, r2, e2, gToT]
theorem e1_led (r : List Int) (hr : r.length ≤ 64) {a b c d e f : Option MD} : loopL (gN 6) tYesF e1__law_led [6] (r.map .int) [] [a, b, c, d, e, f, none] = some ((M48.neg r).map .int, [a, b, c, d, e, f, none]) := by
  have := loopL_map (acc := []) (g := PyData.int) (f := fun x => PyData.int (-x)) (l := r) (tg := gN 6) (tt := tYesF) (fe := e1__law_led) (own := [6]) (Γ := [a, b, c, d, e, f, none]) (by simp [sizeLine_eq]; omega) fun x _ => by simp [fnOf, fSeq, fNil, fSet, fRet, fDrop, fIf, fFgt, fgtO, fgt, fFor, fIfE, fT, fTru, truD, fAnd, fOr, fNot, fAndV, fOrV, fNotV, fOp2, fVar, fC, fB, fACons, fANil, fTup, fLst, fNeg, gRel, gInt2, gInt2C, gAdd, gMulX_int, gIx, gLen, gAbs, gInt, gEq, gIs, gIsNot, dv_dat, dv_lst, dv_al, dvs, own_dat, own_lst, own_bag, own_dcK, own_scr, flat_dat, flat_lst, Res.fin, frzs_nil, frzs_cons, frz_dat, intT_int, outs, als, argsOf, putArgs, fCall, eqv_int, shp_int, shp_none, shp_bool, noOwn, ownAt, sizeLine_eq, fIter, itemsOf, fRange1, fRange2, eqX_int, eqX_str, fEnumA, fFrz, fNever, permOk, perm, fCallK, fCallP, gMax2, gMin2, gMax3, gMin3, fPar2, fMulti, putM, fAsgG, fLc, lcStep, lsStep, tYesF, gN, gT, gsCons, gsNil, e1__law_led]
  rw [this]
  simp [M48.neg, Function.comp_def]
theorem led_step {ds : List PyData} {k : Nat} {r : List Int} (hr : r.length ≤ 64) (ek : ds[k]? = some (rowD r)) {B : MD} (hB : BagOk B) (s : Bool) {A : List PyData} (hA : A.length < 1000) :
    ∃ (t : Bool) (B' : MD), lsStep (gN 4) b2__law_led (.int (k : Nat)) [some B, some (.dat (.tuple ds)), some (.dat (.bool s)), some (.lst A), none, none, none] =
      some (.nx [some B', some (.dat (.tuple ds)), some (.dat (.bool s)), some (.lst (A ++ [rowD (M48.sgn (r, t))])), none, none, none]) ∧ BagOk B' := by
  have h4 : A.length < 16777216 := by omega
  have x1 := atI_nat ek
  cases s with
  | false =>
    refine ⟨false, B, ?_, hB⟩
    simp [fnOf, fSeq, fNil, fSet, fRet, fDrop, fIf, fFgt, fgtO, fgt, fFor, fIfE, fT, fTru, truD, fAnd, fOr, fNot, fAndV, fOrV, fNotV, fOp2, fVar, fC, fB, fACons, fANil, fTup, fLst, fNeg, gRel, gInt2, gInt2C, gAdd, gMulX_int, gIx, gLen, gAbs, gInt, gEq, gIs, gIsNot, dv_dat, dv_lst, dv_al, dvs, own_dat, own_lst, own_bag, own_dcK, own_scr, flat_dat, flat_lst, Res.fin, frzs_nil, frzs_cons, frz_dat, intT_int, outs, als, argsOf, putArgs, fCall, eqv_int, shp_int, shp_none, shp_bool, noOwn, ownAt, sizeLine_eq, fIter, itemsOf, fRange1, fRange2, eqX_int, eqX_str, fEnumA, fFrz, fNever, permOk, perm, fCallK, fCallP, gMax2, gMin2, gMax3, gMin3, fPar2, fMulti, putM, fAsgG, fLc, lcStep, lsStep, tYesF, gN, gT, gsCons, gsNil, b2__law_led, fAppend, lstS, h4, x1, M48.sgn]
  | true =>
    obtain ⟨v, B', ev, hB', hv⟩ := drawN hB (n := 2) (by omega) (by omega)
    have e2 : ((2 : Nat) : Int) = 2 := rfl
    rw [e2] at ev
    by_cases q : 0 < v
    · refine ⟨true, B', ?_, hB'⟩
      have e1 := fun a b c d e f => e1_led r hr (a := a) (b := b) (c := c) (d := d) (e := e) (f := f)
      have q' : (0 : Int) < v := by omega
      simp [fnOf, fSeq, fNil, fSet, fRet, fDrop, fIf, fFgt, fgtO, fgt, fFor, fIfE, fT, fTru, truD, fAnd, fOr, fNot, fAndV, fOrV, fNotV, fOp2, fVar, fC, fB, fACons, fANil, fTup, fLst, fNeg, gRel, gInt2, gInt2C, gAdd, gMulX_int, gIx, gLen, gAbs, gInt, gEq, gIs, gIsNot, dv_dat, dv_lst, dv_al, dvs, own_dat, own_lst, own_bag, own_dcK, own_scr, flat_dat, flat_lst, Res.fin, frzs_nil, frzs_cons, frz_dat, intT_int, outs, als, argsOf, putArgs, fCall, eqv_int, shp_int, shp_none, shp_bool, noOwn, ownAt, sizeLine_eq, fIter, itemsOf, fRange1, fRange2, eqX_int, eqX_str, fEnumA, fFrz, fNever, permOk, perm, fCallK, fCallP, gMax2, gMin2, gMax3, gMin3, fPar2, fMulti, putM, fAsgG, fLc, lcStep, lsStep, tYesF, gN, gT, gsCons, gsNil, b2__law_led, fAppend, lstS, h4, x1, M48.sgn, hB.own, hB'.own, ev, q, q', e1, gToT]
    · refine ⟨false, B', ?_, hB'⟩
      simp [fnOf, fSeq, fNil, fSet, fRet, fDrop, fIf, fFgt, fgtO, fgt, fFor, fIfE, fT, fTru, truD, fAnd, fOr, fNot, fAndV, fOrV, fNotV, fOp2, fVar, fC, fB, fACons, fANil, fTup, fLst, fNeg, gRel, gInt2, gInt2C, gAdd, gMulX_int, gIx, gLen, gAbs, gInt, gEq, gIs, gIsNot, dv_dat, dv_lst, dv_al, dvs, own_dat, own_lst, own_bag, own_dcK, own_scr, flat_dat, flat_lst, Res.fin, frzs_nil, frzs_cons, frz_dat, intT_int, outs, als, argsOf, putArgs, fCall, eqv_int, shp_int, shp_none, shp_bool, noOwn, ownAt, sizeLine_eq, fIter, itemsOf, fRange1, fRange2, eqX_int, eqX_str, fEnumA, fFrz, fNever, permOk, perm, fCallK, fCallP, gMax2, gMin2, gMax3, gMin3, fPar2, fMulti, putM, fAsgG, fLc, lcStep, lsStep, tYesF, gN, gT, gsCons, gsNil, b2__law_led, fAppend, lstS, h4, x1, M48.sgn, hB.own, hB'.own, ev, q]
theorem led_ok {n : Nat} {T : M48.Tab} (h : M48.Had n T) (hn : n ≤ 64) {B : MD} (hB : BagOk B) : ∃ (T' : M48.Tab) (B' : MD), F__law_led [B, .dat (tabD T)] = some (.dat (tabD T'), [some B', none]) ∧ BagOk B' ∧ M48.Had n T' := by
  have hl := h.len
  obtain ⟨v, B1, ev, hB1, hv⟩ := drawN hB (n := 2) (by omega) (by omega)
  have e2 : ((2 : Nat) : Int) = 2 := rfl
  rw [e2] at ev
  obtain ⟨l, B2, eo, hB2, pl⟩ := order_ok hn hB1
  have hll : l.length = n := by rw [pl.length_eq]; simp
  obtain ⟨Γ2, e, Q, B', rfl, hB', eQ⟩ := loopS_ok (tg := gN 4) (b := b2__law_led)
    (P := fun k Γ => ∃ (Q : List (List Int × Bool)) (B' : MD), Γ = [some B', some (.dat (tabD T)), some (.dat (.bool (decide (0 < v)))), some (.lst (Q.map fun q => rowD (M48.sgn q))), none, none, none] ∧ BagOk B' ∧ Q.map (·.1) = (l.take k).map fun i => T.getD i [])
    (items := l.map fun (x : Nat) => PyData.int x) (Γ := [some B2, some (.dat (tabD T)), some (.dat (.bool (decide (0 < v)))), some (.lst []), none, none, none]) 0 ⟨[], _, rfl, hB2, rfl⟩ fun i d Γ hd ⟨Q, B3, e, hB3, eQ⟩ => by
      subst e
      obtain ⟨hi, e⟩ := List.getElem?_eq_some_iff.mp hd
      simp at hi e
      rw [Nat.zero_add] at eQ ⊢
      have hk : l[i] < n := by
        have := pl.mem_iff.mp (List.getElem_mem hi)
        simpa using this
      have hQ : Q.length = i := by
        have := congrArg List.length eQ
        simp at this
        omega
      have rr := rowOk h.toTb hk
      obtain ⟨t, B4, es, hB4⟩ := led_step (by omega) (row_at h.toTb hk) hB3 (decide (0 < v)) (A := Q.map fun q => rowD (M48.sgn q)) (by simp; omega)
      refine ⟨_, .inl (by rw [← e]; exact es), Q ++ [(T.getD l[i] [], t)], B4, by simp, hB4, ?_⟩
      rw [List.map_append, eQ, List.take_succ_eq_append_getElem hi, List.map_append]
      rfl
  simp only [List.length_map, Nat.zero_add] at e eQ
  rw [List.take_length] at eQ
  refine ⟨Q.map M48.sgn, B', ?_, hB', h.led ⟨Q, ?_, rfl⟩⟩
  · have e3 : (Q.map fun q => rowD (M48.sgn q)) = (Q.map M48.sgn).map rowD := by rw [List.map_map]; rfl
    rw [e3] at e
    generalize Q.map M48.sgn = T' at *
    simp [fnOf, fSeq, fNil, fSet, fRet, fDrop, fIf, fFgt, fgtO, fgt, fFor, fIfE, fT, fTru, truD, fAnd, fOr, fNot, fAndV, fOrV, fNotV, fOp2, fVar, fC, fB, fACons, fANil, fTup, fLst, fNeg, gRel, gInt2, gInt2C, gAdd, gMulX_int, gIx, gLen, gAbs, gInt, gEq, gIs, gIsNot, dv_dat, dv_lst, dv_al, dvs, own_dat, own_lst, own_bag, own_dcK, own_scr, flat_dat, flat_lst, Res.fin, frzs_nil, frzs_cons, frz_dat, intT_int, outs, als, argsOf, putArgs, fCall, eqv_int, shp_int, shp_none, shp_bool, noOwn, ownAt, sizeLine_eq, fIter, itemsOf, fRange1, fRange2, eqX_int, eqX_str, fEnumA, fFrz, fNever, permOk, perm, fCallK, fCallP, gMax2, gMin2, gMax3, gMin3, fPar2, fMulti, putM, fAsgG, fLc, F__law_led, hB.own, hB1.own, hB2.own, hB'.own, ev, eo, hl, e, gToT, lstS, fFrz]
  · rw [eQ]
    have := pl.map fun i => T.getD i []
    have et : ((List.range n).map fun i => T.getD i []) = T := by
      apply List.ext_getElem
      · simp [hl]
      · intro k h1 h2
        simp [List.getD_eq_getElem?_getD, List.getElem?_eq_getElem h2]
    rw [et] at this
    exact this
theorem own_table_ok {n : Nat} {T : M48.Tab} (h : M48.Had n T) (hn : n ≤ 64) {B : MD} (hB : BagOk B) : ∃ (T' : M48.Tab) (B' : MD), F__law_own_table [B, .dat (tabD T)] = some (.dat (tabD T'), [some B', none]) ∧ BagOk B' ∧ M48.Had n T' := by
  obtain ⟨v, B1, ev, hB1, hv⟩ := drawN hB (n := 5) (by omega) (by omega)
  rw [show ((5 : Nat) : Int) = 5 from rfl] at ev
  obtain ⟨T1, B2, e1, hB2, h1⟩ := led_ok h hn hB1
  have a1 := about_ok h1.toTb hn
  obtain ⟨T2, B3, e2, hB3, h2⟩ := led_ok h1.tr hn hB2
  have a2 := about_ok h2.toTb hn
  have a3 := about_ok h2.tr.toTb hn
  have c : v = 0 ∨ v = 1 ∨ v = 2 ∨ v = 3 ∨ v = 4 := by omega
  rcases c with rfl | rfl | rfl | rfl | rfl
  · exact ⟨T, B1, by simp [fnOf, fSeq, fNil, fSet, fRet, fDrop, fIf, fFgt, fgtO, fgt, fFor, fIfE, fT, fTru, truD, fAnd, fOr, fNot, fAndV, fOrV, fNotV, fOp2, fVar, fC, fB, fACons, fANil, fTup, fLst, fNeg, gRel, gInt2, gInt2C, gAdd, gMulX_int, gIx, gLen, gAbs, gInt, gEq, gIs, gIsNot, dv_dat, dv_lst, dv_al, dvs, own_dat, own_lst, own_bag, own_dcK, own_scr, flat_dat, flat_lst, Res.fin, frzs_nil, frzs_cons, frz_dat, intT_int, outs, als, argsOf, putArgs, fCall, eqv_int, shp_int, shp_none, shp_bool, noOwn, ownAt, sizeLine_eq, fIter, itemsOf, fRange1, fRange2, eqX_int, eqX_str, fEnumA, fFrz, fNever, permOk, perm, fCallK, fCallP, gMax2, gMin2, gMax3, gMin3, fPar2, fMulti, putM, fAsgG, fLc, F__law_own_table, hB.own, hB1.own, ev], hB1, h⟩
  · exact ⟨T1, B2, by simp [fnOf, fSeq, fNil, fSet, fRet, fDrop, fIf, fFgt, fgtO, fgt, fFor, fIfE, fT, fTru, truD, fAnd, fOr, fNot, fAndV, fOrV, fNotV, fOp2, fVar, fC, fB, fACons, fANil, fTup, fLst, fNeg, gRel, gInt2, gInt2C, gAdd, gMulX_int, gIx, gLen, gAbs, gInt, gEq, gIs, gIsNot, dv_dat, dv_lst, dv_al, dvs, own_dat, own_lst, own_bag, own_dcK, own_scr, flat_dat, flat_lst, Res.fin, frzs_nil, frzs_cons, frz_dat, intT_int, outs, als, argsOf, putArgs, fCall, eqv_int, shp_int, shp_none, shp_bool, noOwn, ownAt, sizeLine_eq, fIter, itemsOf, fRange1, fRange2, eqX_int, eqX_str, fEnumA, fFrz, fNever, permOk, perm, fCallK, fCallP, gMax2, gMin2, gMax3, gMin3, fPar2, fMulti, putM, fAsgG, fLc, F__law_own_table, hB.own, hB1.own, hB2.own, ev, e1], hB2, h1⟩
  · exact ⟨_, B3, by simp [fnOf, fSeq, fNil, fSet, fRet, fDrop, fIf, fFgt, fgtO, fgt, fFor, fIfE, fT, fTru, truD, fAnd, fOr, fNot, fAndV, fOrV, fNotV, fOp2, fVar, fC, fB, fACons, fANil, fTup, fLst, fNeg, gRel, gInt2, gInt2C, gAdd, gMulX_int, gIx, gLen, gAbs, gInt, gEq, gIs, gIsNot, dv_dat, dv_lst, dv_al, dvs, own_dat, own_lst, own_bag, own_dcK, own_scr, flat_dat, flat_lst, Res.fin, frzs_nil, frzs_cons, frz_dat, intT_int, outs, als, argsOf, putArgs, fCall, eqv_int, shp_int, shp_none, shp_bool, noOwn, ownAt, sizeLine_eq, fIter, itemsOf, fRange1, fRange2, eqX_int, eqX_str, fEnumA, fFrz, fNever, permOk, perm, fCallK, fCallP, gMax2, gMin2, gMax3, gMin3, fPar2, fMulti, putM, fAsgG, fLc, F__law_own_table, hB.own, hB1.own, hB2.own, hB3.own, ev, e1, a1, e2, a2], hB3, h2.tr⟩
  · exact ⟨_, B3, by simp [fnOf, fSeq, fNil, fSet, fRet, fDrop, fIf, fFgt, fgtO, fgt, fFor, fIfE, fT, fTru, truD, fAnd, fOr, fNot, fAndV, fOrV, fNotV, fOp2, fVar, fC, fB, fACons, fANil, fTup, fLst, fNeg, gRel, gInt2, gInt2C, gAdd, gMulX_int, gIx, gLen, gAbs, gInt, gEq, gIs, gIsNot, dv_dat, dv_lst, dv_al, dvs, own_dat, own_lst, own_bag, own_dcK, own_scr, flat_dat, flat_lst, Res.fin, frzs_nil, frzs_cons, frz_dat, intT_int, outs, als, argsOf, putArgs, fCall, eqv_int, shp_int, shp_none, shp_bool, noOwn, ownAt, sizeLine_eq, fIter, itemsOf, fRange1, fRange2, eqX_int, eqX_str, fEnumA, fFrz, fNever, permOk, perm, fCallK, fCallP, gMax2, gMin2, gMax3, gMin3, fPar2, fMulti, putM, fAsgG, fLc, F__law_own_table, hB.own, hB1.own, hB2.own, hB3.own, ev, e1, a1, e2, a2], hB3, h2.tr⟩
  · exact ⟨_, B3, by simp [fnOf, fSeq, fNil, fSet, fRet, fDrop, fIf, fFgt, fgtO, fgt, fFor, fIfE, fT, fTru, truD, fAnd, fOr, fNot, fAndV, fOrV, fNotV, fOp2, fVar, fC, fB, fACons, fANil, fTup, fLst, fNeg, gRel, gInt2, gInt2C, gAdd, gMulX_int, gIx, gLen, gAbs, gInt, gEq, gIs, gIsNot, dv_dat, dv_lst, dv_al, dvs, own_dat, own_lst, own_bag, own_dcK, own_scr, flat_dat, flat_lst, Res.fin, frzs_nil, frzs_cons, frz_dat, intT_int, outs, als, argsOf, putArgs, fCall, eqv_int, shp_int, shp_none, shp_bool, noOwn, ownAt, sizeLine_eq, fIter, itemsOf, fRange1, fRange2, eqX_int, eqX_str, fEnumA, fFrz, fNever, permOk, perm, fCallK, fCallP, gMax2, gMin2, gMax3, gMin3, fPar2, fMulti, putM, fAsgG, fLc, F__law_own_table, hB.own, hB1.own, hB2.own, hB3.own, ev, e1, a1, e2, a2, a3], hB3, h2.tr.tr⟩
end Lw

end

/-! K48g: lots and sums over them -/
noncomputable section
namespace Lw
open PySem PySem.Spec PyProof.Rows L2 Fx

abbrev natsD (l : List Nat) : List PyData := l.map fun (x : Nat) => .int x
abbrev lotD (l : List Nat) : PyData := .tuple (natsD l)
theorem t2_lot (k : Nat) (n : PyData) (w : PyData) {B : MD} (hB : BagOk B) : ∃ (t : Bool) (B' : MD), lcStep (gN 3) t2__law_lot e1__law_lot [3] (.int k) [some B, some (.dat n), some (.dat w), none] = some (if t = true then some (.int k) else none, [some B', some (.dat n), some (.dat w), none]) ∧ BagOk B' := by
  obtain ⟨v, B', ev, hB', hv⟩ := drawN hB (n := 2) (by omega) (by omega)
  rw [show ((2 : Nat) : Int) = 2 from rfl] at ev
  by_cases q : 0 < v
  · refine ⟨true, B', ?_, hB'⟩
    simp [fnOf, fSeq, fNil, fSet, fRet, fDrop, fIf, fFgt, fgtO, fgt, fFor, fIfE, fT, fTru, truD, fAnd, fOr, fNot, fAndV, fOrV, fNotV, fOp2, fVar, fC, fB, fACons, fANil, fTup, fLst, fNeg, gRel, gInt2, gInt2C, gAdd, gMulX_int, gIx, gLen, gAbs, gInt, gEq, gIs, gIsNot, dv_dat, dv_lst, dv_al, dvs, own_dat, own_lst, own_bag, own_dcK, own_scr, flat_dat, flat_lst, Res.fin, frzs_nil, frzs_cons, frz_dat, intT_int, outs, als, argsOf, putArgs, fCall, eqv_int, shp_int, shp_none, shp_bool, noOwn, ownAt, sizeLine_eq, fIter, itemsOf, fRange1, fRange2, eqX_int, eqX_str, fEnumA, fFrz, fNever, permOk, perm, fCallK, fCallP, gMax2, gMin2, gMax3, gMin3, fPar2, fMulti, putM, fAsgG, fLc, lcStep, lsStep, tYesF, gN, gT, gsCons, gsNil, t2__law_lot, e1__law_lot, hB.own, hB'.own, ev, q]
  · refine ⟨false, B', ?_, hB'⟩
    simp [fnOf, fSeq, fNil, fSet, fRet, fDrop, fIf, fFgt, fgtO, fgt, fFor, fIfE, fT, fTru, truD, fAnd, fOr, fNot, fAndV, fOrV, fNotV, fOp2, fVar, fC, fB, fACons, fANil, fTup, fLst, fNeg, gRel, gInt2, gInt2C, gAdd, gMulX_int, gIx, gLen, gAbs, gInt, gEq, gIs, gIsNot, dv_dat, dv_lst, dv_al, dvs, own_dat, own_lst, own_bag, own_dcK, own_scr, flat_dat, flat_lst, Res.fin, frzs_nil, frzs_cons, frz_dat, intT_int, outs, als, argsOf, putArgs, fCall, eqv_int, shp_int, shp_none, shp_bool, noOwn, ownAt, sizeLine_eq, fIter, itemsOf, fRange1, fRange2, eqX_int, eqX_str, fEnumA, fFrz, fNever, permOk, perm, fCallK, fCallP, gMax2, gMin2, gMax3, gMin3, fPar2, fMulti, putM, fAsgG, fLc, lcStep, lsStep, tYesF, gN, gT, gsCons, gsNil, t2__law_lot, e1__law_lot, hB.own, hB'.own, ev, q]
theorem lot_ok {n : Nat} (h1 : 1 ≤ n) (hn : n ≤ 64) {B : MD} (hB : BagOk B) : ∃ (R : List Nat) (B' : MD), F__law_lot [B, .dat (.int n)] = some (.dat (lotD R), [some B', none]) ∧ BagOk B' ∧ R.Sublist (List.range n) := by
  obtain ⟨v, B1, ev, hB1, hv⟩ := drawN hB (n := 8) (by omega) (by omega)
  rw [show ((8 : Nat) : Int) = 8 from rfl] at ev
  by_cases v0 : v = 0
  · subst v0
    exact ⟨[], B1, by simp [fnOf, fSeq, fNil, fSet, fRet, fDrop, fIf, fFgt, fgtO, fgt, fFor, fIfE, fT, fTru, truD, fAnd, fOr, fNot, fAndV, fOrV, fNotV, fOp2, fVar, fC, fB, fACons, fANil, fTup, fLst, fNeg, gRel, gInt2, gInt2C, gAdd, gMulX_int, gIx, gLen, gAbs, gInt, gEq, gIs, gIsNot, dv_dat, dv_lst, dv_al, dvs, own_dat, own_lst, own_bag, own_dcK, own_scr, flat_dat, flat_lst, Res.fin, frzs_nil, frzs_cons, frz_dat, intT_int, outs, als, argsOf, putArgs, fCall, eqv_int, shp_int, shp_none, shp_bool, noOwn, ownAt, sizeLine_eq, fIter, itemsOf, fRange1, fRange2, eqX_int, eqX_str, fEnumA, fFrz, fNever, permOk, perm, fCallK, fCallP, gMax2, gMin2, gMax3, gMin3, fPar2, fMulti, putM, fAsgG, fLc, F__law_lot, hB.own, hB1.own, ev], hB1, List.nil_sublist _⟩
  by_cases v1 : v = 1
  · subst v1
    obtain ⟨k, B2, e2, hB2, hk⟩ := drawN hB1 (n := n) (by omega) (by omega)
    exact ⟨[k], B2, by simp [fnOf, fSeq, fNil, fSet, fRet, fDrop, fIf, fFgt, fgtO, fgt, fFor, fIfE, fT, fTru, truD, fAnd, fOr, fNot, fAndV, fOrV, fNotV, fOp2, fVar, fC, fB, fACons, fANil, fTup, fLst, fNeg, gRel, gInt2, gInt2C, gAdd, gMulX_int, gIx, gLen, gAbs, gInt, gEq, gIs, gIsNot, dv_dat, dv_lst, dv_al, dvs, own_dat, own_lst, own_bag, own_dcK, own_scr, flat_dat, flat_lst, Res.fin, frzs_nil, frzs_cons, frz_dat, intT_int, outs, als, argsOf, putArgs, fCall, eqv_int, shp_int, shp_none, shp_bool, noOwn, ownAt, sizeLine_eq, fIter, itemsOf, fRange1, fRange2, eqX_int, eqX_str, fEnumA, fFrz, fNever, permOk, perm, fCallK, fCallP, gMax2, gMin2, gMax3, gMin3, fPar2, fMulti, putM, fAsgG, fLc, F__law_lot, hB.own, hB1.own, hB2.own, ev, e2], hB2, by simpa using hk⟩
  by_cases v2 : v = 2
  · subst v2
    have r1 := rgA_nat (p := n) (by omega)
    exact ⟨List.range n, B1, by simp [fnOf, fSeq, fNil, fSet, fRet, fDrop, fIf, fFgt, fgtO, fgt, fFor, fIfE, fT, fTru, truD, fAnd, fOr, fNot, fAndV, fOrV, fNotV, fOp2, fVar, fC, fB, fACons, fANil, fTup, fLst, fNeg, gRel, gInt2, gInt2C, gAdd, gMulX_int, gIx, gLen, gAbs, gInt, gEq, gIs, gIsNot, dv_dat, dv_lst, dv_al, dvs, own_dat, own_lst, own_bag, own_dcK, own_scr, flat_dat, flat_lst, Res.fin, frzs_nil, frzs_cons, frz_dat, intT_int, outs, als, argsOf, putArgs, fCall, eqv_int, shp_int, shp_none, shp_bool, noOwn, ownAt, sizeLine_eq, fIter, itemsOf, fRange1, fRange2, eqX_int, eqX_str, fEnumA, fFrz, fNever, permOk, perm, fCallK, fCallP, gMax2, gMin2, gMax3, gMin3, fPar2, fMulti, putM, fAsgG, fLc, F__law_lot, hB.own, hB1.own, ev, fTupR1, r1], hB1, List.Sublist.refl _⟩
  · obtain ⟨acc, Γ', e, ⟨R, B', rfl, rfl, hB', hR⟩, _⟩ := loopL_ok (tg := gN 3) (tt := t2__law_lot) (fe := e1__law_lot) (own := [3])
      (P := fun k acc Γ => ∃ (R : List Nat) (B' : MD), acc = natsD R ∧ Γ = [some B', some (.dat (.int n)), some (.dat (.int v)), none] ∧ BagOk B' ∧ R.Sublist (List.range k))
      (items := natsD (List.range n)) (acc := []) (Γ := [some B1, some (.dat (.int n)), some (.dat (.int v)), none]) 0 ⟨[], B1, rfl, rfl, hB1, List.nil_sublist _⟩ (by simp [sizeLine_eq]; omega) fun i d acc Γ hd ⟨R, B2, ea, eΓ, hB2, hR⟩ => by
        subst ea eΓ
        obtain ⟨hi, e⟩ := List.getElem?_eq_some_iff.mp hd
        simp at hi e
        subst e
        rw [Nat.zero_add] at hR ⊢
        obtain ⟨t, B3, e3, hB3⟩ := t2_lot i (.int n) (.int v) hB2
        cases t with
        | true =>
          refine ⟨_, _, e3, R ++ [i], B3, by simp, rfl, hB3, ?_⟩
          rw [List.range_succ]
          exact hR.append (List.Sublist.refl _)
        | false =>
          refine ⟨_, _, e3, R, B3, by simp, rfl, hB3, ?_⟩
          rw [List.range_succ]
          exact hR.trans (List.sublist_append_left _ _)
    have r1 := rg1_nat (p := n) (by omega)
    simp only [natsD, List.length_map, List.length_range, Nat.zero_add] at e hR
    refine ⟨R, B', ?_, hB', hR⟩
    have w0 : ¬ (v : Int) = 0 := by omega
    have w1 : ¬ (v : Int) = 1 := by omega
    have w2 : ¬ (v : Int) = 2 := by omega
    simp [fnOf, fSeq, fNil, fSet, fRet, fDrop, fIf, fFgt, fgtO, fgt, fFor, fIfE, fT, fTru, truD, fAnd, fOr, fNot, fAndV, fOrV, fNotV, fOp2, fVar, fC, fB, fACons, fANil, fTup, fLst, fNeg, gRel, gInt2, gInt2C, gAdd, gMulX_int, gIx, gLen, gAbs, gInt, gEq, gIs, gIsNot, dv_dat, dv_lst, dv_al, dvs, own_dat, own_lst, own_bag, own_dcK, own_scr, flat_dat, flat_lst, Res.fin, frzs_nil, frzs_cons, frz_dat, intT_int, outs, als, argsOf, putArgs, fCall, eqv_int, shp_int, shp_none, shp_bool, noOwn, ownAt, sizeLine_eq, fIter, itemsOf, fRange1, fRange2, eqX_int, eqX_str, fEnumA, fFrz, fNever, permOk, perm, fCallK, fCallP, gMax2, gMin2, gMax3, gMin3, fPar2, fMulti, putM, fAsgG, fLc, F__law_lot, hB.own, hB1.own, hB'.own, ev, v0, v1, v2, w0, w1, w2, r1, e, gToT]
/-- a lot of columns, summed in a row -/
theorem colS {n : Nat} {r : List Int} (hr : r.length = n) {C : List Nat} (hC : C.Sublist (List.range n)) {c : Nat} (hc : c ∈ C) : (r.map PyData.int)[c]? = some (.int (r.getD c 0)) := by
  have h : c < n := by simpa using hC.mem hc
  rw [List.getElem?_map, List.getElem?_eq_getElem (by omega), List.getD_eq_getElem?_getD, List.getElem?_eq_getElem (by omega)]
  rfl
theorem lot_len {n : Nat} {C : List Nat} (hC : C.Sublist (List.range n)) : C.length ≤ n := by
  have := hC.length_le
  simpa using this
/-- a loop over a lot that tells an item for each -/
theorem lot_loop {n : Nat} {C : List Nat} (hC : C.Sublist (List.range n)) (hn : n ≤ 64) {tg : FG} {fe : FE} {own : List Nat} {Γ : Gm} {f : Nat → Int} (h : ∀ c ∈ C, lcStep tg tYesF fe own (.int c) Γ = some (some (.int (f c)), Γ)) :
    loopL tg tYesF fe own (natsD C) [] Γ = some ((C.map f).map .int, Γ) := by
  have hl := lot_len hC
  have := loopL_map (acc := []) (g := fun (c : Nat) => PyData.int c) (f := fun c => PyData.int (f c)) (l := C) (tg := tg) (fe := fe) (own := own) (Γ := Γ) (by simp [sizeLine_eq]; omega) h
  rw [this, List.nil_append, List.map_map]
  rfl
theorem sum_S (l : List Nat) (f : Nat → Int) : gSumA [.list ((l.map f).map .int)] = some (.val (.int (M48.S l f))) := gSumA_list _
theorem sums_ok {n : Nat} {T : M48.Tab} (h : M48.Tb n T) (hn : n ≤ 64) {C : List Nat} (hC : C.Sublist (List.range n)) : F__law_sums [.dat (tabD T), .dat (lotD C)] = some (.dat (.list ((T.map (M48.rowS C)).map .int)), [none, none]) := by
  have e2 := loopL_map (acc := []) (g := rowD) (f := fun r => PyData.int (M48.rowS C r)) (l := T) (tg := gN 2) (tt := tYesF) (fe := e2__law_sums) (own := [2]) (Γ := [some (.dat (tabD T)), some (.dat (lotD C)), none, none]) (by simp [sizeLine_eq, h.len]; omega) fun r hr => by
    have e1 := lot_loop hC hn (tg := gN 3) (fe := e1__law_sums) (own := [3]) (Γ := [some (.dat (tabD T)), some (.dat (lotD C)), some (.dat (rowD r)), none]) (f := fun c => r.getD c 0) fun c hc => by
      have x1 := atI_nat (colS (h.row r hr).1 hC hc)
      generalize r.getD c 0 = y at *
      simp [fnOf, fSeq, fNil, fSet, fRet, fDrop, fIf, fFgt, fgtO, fgt, fFor, fIfE, fT, fTru, truD, fAnd, fOr, fNot, fAndV, fOrV, fNotV, fOp2, fVar, fC, fB, fACons, fANil, fTup, fLst, fNeg, gRel, gInt2, gInt2C, gAdd, gMulX_int, gIx, gLen, gAbs, gInt, gEq, gIs, gIsNot, dv_dat, dv_lst, dv_al, dvs, own_dat, own_lst, own_bag, own_dcK, own_scr, flat_dat, flat_lst, Res.fin, frzs_nil, frzs_cons, frz_dat, intT_int, outs, als, argsOf, putArgs, fCall, eqv_int, shp_int, shp_none, shp_bool, noOwn, ownAt, sizeLine_eq, fIter, itemsOf, fRange1, fRange2, eqX_int, eqX_str, fEnumA, fFrz, fNever, permOk, perm, fCallK, fCallP, gMax2, gMin2, gMax3, gMin3, fPar2, fMulti, putM, fAsgG, fLc, lcStep, lsStep, tYesF, gN, gT, gsCons, gsNil, e1__law_sums, x1]
    have e3 := sum_S C fun c => r.getD c 0
    have e4 : M48.rowS C r = M48.S C fun c => r.getD c 0 := rfl
    rw [← e4] at e3
    generalize C.map (fun c => r.getD c 0) = z at *
    simp [fnOf, fSeq, fNil, fSet, fRet, fDrop, fIf, fFgt, fgtO, fgt, fFor, fIfE, fT, fTru, truD, fAnd, fOr, fNot, fAndV, fOrV, fNotV, fOp2, fVar, fC, fB, fACons, fANil, fTup, fLst, fNeg, gRel, gInt2, gInt2C, gAdd, gMulX_int, gIx, gLen, gAbs, gInt, gEq, gIs, gIsNot, dv_dat, dv_lst, dv_al, dvs, own_dat, own_lst, own_bag, own_dcK, own_scr, flat_dat, flat_lst, Res.fin, frzs_nil, frzs_cons, frz_dat, intT_int, outs, als, argsOf, putArgs, fCall, eqv_int, shp_int, shp_none, shp_bool, noOwn, ownAt, sizeLine_eq, fIter, itemsOf, fRange1, fRange2, eqX_int, eqX_str, fEnumA, fFrz, fNever, permOk, perm, fCallK, fCallP, gMax2, gMin2, gMax3, gMin3, fPar2, fMulti, putM, fAsgG, fLc, lcStep, lsStep, tYesF, gN, gT, gsCons, gsNil, e2__law_sums, e1, e3]
  rw [List.nil_append] at e2
  simp [fnOf, fSeq, fNil, fSet, fRet, fDrop, fIf, fFgt, fgtO, fgt, fFor, fIfE, fT, fTru, truD, fAnd, fOr, fNot, fAndV, fOrV, fNotV, fOp2, fVar, fC, fB, fACons, fANil, fTup, fLst, fNeg, gRel, gInt2, gInt2C, gAdd, gMulX_int, gIx, gLen, gAbs, gInt, gEq, gIs, gIsNot, dv_dat, dv_lst, dv_al, dvs, own_dat, own_lst, own_bag, own_dcK, own_scr, flat_dat, flat_lst, Res.fin, frzs_nil, frzs_cons, frz_dat, intT_int, outs, als, argsOf, putArgs, fCall, eqv_int, shp_int, shp_none, shp_bool, noOwn, ownAt, sizeLine_eq, fIter, itemsOf, fRange1, fRange2, eqX_int, eqX_str, fEnumA, fFrz, fNever, permOk, perm, fCallK, fCallP, gMax2, gMin2, gMax3, gMin3, fPar2, fMulti, putM, fAsgG, fLc, F__law_sums, e2, Function.comp_def]
theorem best_sums_ok {n : Nat} {T : M48.Tab} (h : M48.Tb n T) (hn : n ≤ 64) {C : List Nat} (hC : C.Sublist (List.range n)) {Γ : Gm} (hΓ : Γ = [some (.dat (tabD T)), some (.dat (lotD C)), none, none, none, none, none, none, none, none]) :
    loopL (gN 6) tYesF e2_best_rows [6] (T.map rowD) [] Γ = some ((T.map (M48.rowS C)).map .int, Γ) := by
  subst hΓ
  have e2 := loopL_map (acc := []) (g := rowD) (f := fun r => PyData.int (M48.rowS C r)) (l := T) (tg := gN 6) (tt := tYesF) (fe := e2_best_rows) (own := [6]) (Γ := [some (.dat (tabD T)), some (.dat (lotD C)), none, none, none, none, none, none, none, none]) (by simp [sizeLine_eq, h.len]; omega) fun r hr => by
    have e1 := lot_loop hC hn (tg := gN 7) (fe := e1_best_rows) (own := [7]) (Γ := [some (.dat (tabD T)), some (.dat (lotD C)), none, none, none, none, some (.dat (rowD r)), none, none, none]) (f := fun c => r.getD c 0) fun c hc => by
      have x1 := atI_nat (colS (h.row r hr).1 hC hc)
      generalize r.getD c 0 = y at *
      simp [fnOf, fSeq, fNil, fSet, fRet, fDrop, fIf, fFgt, fgtO, fgt, fFor, fIfE, fT, fTru, truD, fAnd, fOr, fNot, fAndV, fOrV, fNotV, fOp2, fVar, fC, fB, fACons, fANil, fTup, fLst, fNeg, gRel, gInt2, gInt2C, gAdd, gMulX_int, gIx, gLen, gAbs, gInt, gEq, gIs, gIsNot, dv_dat, dv_lst, dv_al, dvs, own_dat, own_lst, own_bag, own_dcK, own_scr, flat_dat, flat_lst, Res.fin, frzs_nil, frzs_cons, frz_dat, intT_int, outs, als, argsOf, putArgs, fCall, eqv_int, shp_int, shp_none, shp_bool, noOwn, ownAt, sizeLine_eq, fIter, itemsOf, fRange1, fRange2, eqX_int, eqX_str, fEnumA, fFrz, fNever, permOk, perm, fCallK, fCallP, gMax2, gMin2, gMax3, gMin3, fPar2, fMulti, putM, fAsgG, fLc, lcStep, lsStep, tYesF, gN, gT, gsCons, gsNil, e1_best_rows, x1]
    have e3 := sum_S C fun c => r.getD c 0
    have e4 : M48.rowS C r = M48.S C fun c => r.getD c 0 := rfl
    rw [← e4] at e3
    generalize C.map (fun c => r.getD c 0) = z at *
    simp [fnOf, fSeq, fNil, fSet, fRet, fDrop, fIf, fFgt, fgtO, fgt, fFor, fIfE, fT, fTru, truD, fAnd, fOr, fNot, fAndV, fOrV, fNotV, fOp2, fVar, fC, fB, fACons, fANil, fTup, fLst, fNeg, gRel, gInt2, gInt2C, gAdd, gMulX_int, gIx, gLen, gAbs, gInt, gEq, gIs, gIsNot, dv_dat, dv_lst, dv_al, dvs, own_dat, own_lst, own_bag, own_dcK, own_scr, flat_dat, flat_lst, Res.fin, frzs_nil, frzs_cons, frz_dat, intT_int, outs, als, argsOf, putArgs, fCall, eqv_int, shp_int, shp_none, shp_bool, noOwn, ownAt, sizeLine_eq, fIter, itemsOf, fRange1, fRange2, eqX_int, eqX_str, fEnumA, fFrz, fNever, permOk, perm, fCallK, fCallP, gMax2, gMin2, gMax3, gMin3, fPar2, fMulti, putM, fAsgG, fLc, lcStep, lsStep, tYesF, gN, gT, gsCons, gsNil, e2_best_rows, e1, e3]
  rw [e2, List.nil_append, List.map_map]
  rfl
theorem sum_over_ok {n : Nat} {T : M48.Tab} (h : M48.Tb n T) (hn : n ≤ 64) {R C : List Nat} (hR : R.Sublist (List.range n)) (hC : C.Sublist (List.range n)) : F_sum_over [.dat (tabD T), .dat (lotD R), .dat (lotD C)] = some (.dat (.int (M48.lotS T R C)), [none, none, none]) := by
  have e2 := lot_loop hR hn (tg := gN 3) (fe := e2_sum_over) (own := [3]) (Γ := [some (.dat (tabD T)), some (.dat (lotD R)), some (.dat (lotD C)), none, none]) (f := fun i => M48.rowS C (T.getD i [])) fun i hi => by
    have hi' : i < n := by simpa using hR.mem hi
    have x0 := atI_nat (row_at h hi')
    have rr := rowOk h hi'
    generalize T.getD i [] = r at *
    have e1 := lot_loop hC hn (tg := gN 4) (fe := e1_sum_over) (own := [4]) (Γ := [some (.dat (tabD T)), some (.dat (lotD R)), some (.dat (lotD C)), some (.dat (.int i)), none]) (f := fun c => r.getD c 0) fun c hc => by
      have x1 := atI_nat (colS rr.1 hC hc)
      generalize r.getD c 0 = y at *
      simp [fnOf, fSeq, fNil, fSet, fRet, fDrop, fIf, fFgt, fgtO, fgt, fFor, fIfE, fT, fTru, truD, fAnd, fOr, fNot, fAndV, fOrV, fNotV, fOp2, fVar, fC, fB, fACons, fANil, fTup, fLst, fNeg, gRel, gInt2, gInt2C, gAdd, gMulX_int, gIx, gLen, gAbs, gInt, gEq, gIs, gIsNot, dv_dat, dv_lst, dv_al, dvs, own_dat, own_lst, own_bag, own_dcK, own_scr, flat_dat, flat_lst, Res.fin, frzs_nil, frzs_cons, frz_dat, intT_int, outs, als, argsOf, putArgs, fCall, eqv_int, shp_int, shp_none, shp_bool, noOwn, ownAt, sizeLine_eq, fIter, itemsOf, fRange1, fRange2, eqX_int, eqX_str, fEnumA, fFrz, fNever, permOk, perm, fCallK, fCallP, gMax2, gMin2, gMax3, gMin3, fPar2, fMulti, putM, fAsgG, fLc, lcStep, lsStep, tYesF, gN, gT, gsCons, gsNil, e1_sum_over, x0, x1]
    have e3 := sum_S C fun c => r.getD c 0
    have e4 : M48.rowS C r = M48.S C fun c => r.getD c 0 := rfl
    rw [← e4] at e3
    generalize C.map (fun c => r.getD c 0) = z at *
    simp [fnOf, fSeq, fNil, fSet, fRet, fDrop, fIf, fFgt, fgtO, fgt, fFor, fIfE, fT, fTru, truD, fAnd, fOr, fNot, fAndV, fOrV, fNotV, fOp2, fVar, fC, fB, fACons, fANil, fTup, fLst, fNeg, gRel, gInt2, gInt2C, gAdd, gMulX_int, gIx, gLen, gAbs, gInt, gEq, gIs, gIsNot, dv_dat, dv_lst, dv_al, dvs, own_dat, own_lst, own_bag, own_dcK, own_scr, flat_dat, flat_lst, Res.fin, frzs_nil, frzs_cons, frz_dat, intT_int, outs, als, argsOf, putArgs, fCall, eqv_int, shp_int, shp_none, shp_bool, noOwn, ownAt, sizeLine_eq, fIter, itemsOf, fRange1, fRange2, eqX_int, eqX_str, fEnumA, fFrz, fNever, permOk, perm, fCallK, fCallP, gMax2, gMin2, gMax3, gMin3, fPar2, fMulti, putM, fAsgG, fLc, lcStep, lsStep, tYesF, gN, gT, gsCons, gsNil, e2_sum_over, e1, e3]
  have e3 := sum_S R fun i => M48.rowS C (T.getD i [])
  have e4 : M48.lotS T R C = M48.S R fun i => M48.rowS C (T.getD i []) := rfl
  rw [← e4] at e3
  generalize R.map (fun i => M48.rowS C (T.getD i [])) = z at *
  simp [fnOf, fSeq, fNil, fSet, fRet, fDrop, fIf, fFgt, fgtO, fgt, fFor, fIfE, fT, fTru, truD, fAnd, fOr, fNot, fAndV, fOrV, fNotV, fOp2, fVar, fC, fB, fACons, fANil, fTup, fLst, fNeg, gRel, gInt2, gInt2C, gAdd, gMulX_int, gIx, gLen, gAbs, gInt, gEq, gIs, gIsNot, dv_dat, dv_lst, dv_al, dvs, own_dat, own_lst, own_bag, own_dcK, own_scr, flat_dat, flat_lst, Res.fin, frzs_nil, frzs_cons, frz_dat, intT_int, outs, als, argsOf, putArgs, fCall, eqv_int, shp_int, shp_none, shp_bool, noOwn, ownAt, sizeLine_eq, fIter, itemsOf, fRange1, fRange2, eqX_int, eqX_str, fEnumA, fFrz, fNever, permOk, perm, fCallK, fCallP, gMax2, gMin2, gMax3, gMin3, fPar2, fMulti, putM, fAsgG, fLc, F_sum_over, e2, e3]
end Lw

end

/-! K48h: the best rows -/
noncomputable section
namespace Lw
open PySem PySem.Spec PyProof.Rows L2 Fx

theorem enum_ints (s : List Int) : enumD (s.map .int) = s.zipIdx.map fun p => PyData.tuple [.int (p.2 : Nat), .int p.1] := enumD_map _ _
theorem up_nats (s : List Int) (q : Int → Bool) : ((s.zipIdx.filter fun p => q p.1).map fun p => PyData.int (p.2 : Nat)) = natsD ((s.zipIdx.filter fun p => q p.1).map (·.2)) := by
  rw [natsD, List.map_map]; rfl
theorem sum_at {s : List Int} {R : List Nat} (hR : R.Sublist (List.range s.length)) {i : Nat} (hi : i ∈ R) : (s.map PyData.int)[i]? = some (.int (s.getD i 0)) := colS rfl hR hi
theorem law_best_ok {s : List Int} (hs : s.length ≤ 64) : F__law_best [.dat (.list (s.map .int))] = some (.dat (lotD (M48.bestI s)), [none]) := by
  have e1 := loopL_filter (acc := []) (g := PyData.int) (f := PyData.int) (p := fun x : Int => decide (0 < x)) (l := s) (tg := gN 3) (tt := t2__law_best) (fe := e1__law_best) (own := [3]) (Γ := [some (.dat (.list (s.map .int))), none, none, none, none]) (by simp [sizeLine_eq]; omega) fun x _ => by
    by_cases q : 0 < x
    · simp [fnOf, fSeq, fNil, fSet, fRet, fDrop, fIf, fFgt, fgtO, fgt, fFor, fIfE, fT, fTru, truD, fAnd, fOr, fNot, fAndV, fOrV, fNotV, fOp2, fVar, fC, fB, fACons, fANil, fTup, fLst, fNeg, gRel, gInt2, gInt2C, gAdd, gMulX_int, gIx, gLen, gAbs, gInt, gEq, gIs, gIsNot, dv_dat, dv_lst, dv_al, dvs, own_dat, own_lst, own_bag, own_dcK, own_scr, flat_dat, flat_lst, Res.fin, frzs_nil, frzs_cons, frz_dat, intT_int, outs, als, argsOf, putArgs, fCall, eqv_int, shp_int, shp_none, shp_bool, noOwn, ownAt, sizeLine_eq, fIter, itemsOf, fRange1, fRange2, eqX_int, eqX_str, fEnumA, fFrz, fNever, permOk, perm, fCallK, fCallP, gMax2, gMin2, gMax3, gMin3, fPar2, fMulti, putM, fAsgG, fLc, lcStep, lsStep, tYesF, gN, gT, gsCons, gsNil, t2__law_best, e1__law_best, q]
    · simp [fnOf, fSeq, fNil, fSet, fRet, fDrop, fIf, fFgt, fgtO, fgt, fFor, fIfE, fT, fTru, truD, fAnd, fOr, fNot, fAndV, fOrV, fNotV, fOp2, fVar, fC, fB, fACons, fANil, fTup, fLst, fNeg, gRel, gInt2, gInt2C, gAdd, gMulX_int, gIx, gLen, gAbs, gInt, gEq, gIs, gIsNot, dv_dat, dv_lst, dv_al, dvs, own_dat, own_lst, own_bag, own_dcK, own_scr, flat_dat, flat_lst, Res.fin, frzs_nil, frzs_cons, frz_dat, intT_int, outs, als, argsOf, putArgs, fCall, eqv_int, shp_int, shp_none, shp_bool, noOwn, ownAt, sizeLine_eq, fIter, itemsOf, fRange1, fRange2, eqX_int, eqX_str, fEnumA, fFrz, fNever, permOk, perm, fCallK, fCallP, gMax2, gMin2, gMax3, gMin3, fPar2, fMulti, putM, fAsgG, fLc, lcStep, lsStep, tYesF, gN, gT, gsCons, gsNil, t2__law_best, e1__law_best, q]
  have e2 := loopL_filter (acc := []) (g := PyData.int) (f := fun x => PyData.int (-x)) (p := fun x : Int => decide (x < 0)) (l := s) (tg := gN 3) (tt := t4__law_best) (fe := e3__law_best) (own := [3]) (Γ := [some (.dat (.list (s.map .int))), none, none, none, none]) (by simp [sizeLine_eq]; omega) fun x _ => by
    by_cases q : x < 0
    · simp [fnOf, fSeq, fNil, fSet, fRet, fDrop, fIf, fFgt, fgtO, fgt, fFor, fIfE, fT, fTru, truD, fAnd, fOr, fNot, fAndV, fOrV, fNotV, fOp2, fVar, fC, fB, fACons, fANil, fTup, fLst, fNeg, gRel, gInt2, gInt2C, gAdd, gMulX_int, gIx, gLen, gAbs, gInt, gEq, gIs, gIsNot, dv_dat, dv_lst, dv_al, dvs, own_dat, own_lst, own_bag, own_dcK, own_scr, flat_dat, flat_lst, Res.fin, frzs_nil, frzs_cons, frz_dat, intT_int, outs, als, argsOf, putArgs, fCall, eqv_int, shp_int, shp_none, shp_bool, noOwn, ownAt, sizeLine_eq, fIter, itemsOf, fRange1, fRange2, eqX_int, eqX_str, fEnumA, fFrz, fNever, permOk, perm, fCallK, fCallP, gMax2, gMin2, gMax3, gMin3, fPar2, fMulti, putM, fAsgG, fLc, lcStep, lsStep, tYesF, gN, gT, gsCons, gsNil, t4__law_best, e3__law_best, q]
    · simp [fnOf, fSeq, fNil, fSet, fRet, fDrop, fIf, fFgt, fgtO, fgt, fFor, fIfE, fT, fTru, truD, fAnd, fOr, fNot, fAndV, fOrV, fNotV, fOp2, fVar, fC, fB, fACons, fANil, fTup, fLst, fNeg, gRel, gInt2, gInt2C, gAdd, gMulX_int, gIx, gLen, gAbs, gInt, gEq, gIs, gIsNot, dv_dat, dv_lst, dv_al, dvs, own_dat, own_lst, own_bag, own_dcK, own_scr, flat_dat, flat_lst, Res.fin, frzs_nil, frzs_cons, frz_dat, intT_int, outs, als, argsOf, putArgs, fCall, eqv_int, shp_int, shp_none, shp_bool, noOwn, ownAt, sizeLine_eq, fIter, itemsOf, fRange1, fRange2, eqX_int, eqX_str, fEnumA, fFrz, fNever, permOk, perm, fCallK, fCallP, gMax2, gMin2, gMax3, gMin3, fPar2, fMulti, putM, fAsgG, fLc, lcStep, lsStep, tYesF, gN, gT, gsCons, gsNil, t4__law_best, e3__law_best, q]
  have e3 : ∀ a b : MD, loopL (gT 2 (gsCons (gN 4) (gsCons (gN 3) gsNil))) t6__law_best e5__law_best [4, 3] (enumD (s.map .int)) [] [some (.dat (.list (s.map .int))), some a, some b, none, none] = some (natsD (M48.upI s), [some (.dat (.list (s.map .int))), some a, some b, none, none]) := fun a b => by
    rw [enum_ints]
    have := loopL_filter (acc := []) (g := fun p : Int × Nat => PyData.tuple [.int (p.2 : Nat), .int p.1]) (f := fun p => PyData.int (p.2 : Nat)) (p := fun p : Int × Nat => decide (0 < p.1)) (l := s.zipIdx) (tg := gT 2 (gsCons (gN 4) (gsCons (gN 3) gsNil))) (tt := t6__law_best) (fe := e5__law_best) (own := [4, 3]) (Γ := [some (.dat (.list (s.map .int))), some a, some b, none, none]) (by simp [sizeLine_eq]; omega) fun x _ => by
      by_cases q : 0 < x.1
      · simp [fnOf, fSeq, fNil, fSet, fRet, fDrop, fIf, fFgt, fgtO, fgt, fFor, fIfE, fT, fTru, truD, fAnd, fOr, fNot, fAndV, fOrV, fNotV, fOp2, fVar, fC, fB, fACons, fANil, fTup, fLst, fNeg, gRel, gInt2, gInt2C, gAdd, gMulX_int, gIx, gLen, gAbs, gInt, gEq, gIs, gIsNot, dv_dat, dv_lst, dv_al, dvs, own_dat, own_lst, own_bag, own_dcK, own_scr, flat_dat, flat_lst, Res.fin, frzs_nil, frzs_cons, frz_dat, intT_int, outs, als, argsOf, putArgs, fCall, eqv_int, shp_int, shp_none, shp_bool, noOwn, ownAt, sizeLine_eq, fIter, itemsOf, fRange1, fRange2, eqX_int, eqX_str, fEnumA, fFrz, fNever, permOk, perm, fCallK, fCallP, gMax2, gMin2, gMax3, gMin3, fPar2, fMulti, putM, fAsgG, fLc, lcStep, lsStep, tYesF, gN, gT, gsCons, gsNil, t6__law_best, e5__law_best, q]
      · simp [fnOf, fSeq, fNil, fSet, fRet, fDrop, fIf, fFgt, fgtO, fgt, fFor, fIfE, fT, fTru, truD, fAnd, fOr, fNot, fAndV, fOrV, fNotV, fOp2, fVar, fC, fB, fACons, fANil, fTup, fLst, fNeg, gRel, gInt2, gInt2C, gAdd, gMulX_int, gIx, gLen, gAbs, gInt, gEq, gIs, gIsNot, dv_dat, dv_lst, dv_al, dvs, own_dat, own_lst, own_bag, own_dcK, own_scr, flat_dat, flat_lst, Res.fin, frzs_nil, frzs_cons, frz_dat, intT_int, outs, als, argsOf, putArgs, fCall, eqv_int, shp_int, shp_none, shp_bool, noOwn, ownAt, sizeLine_eq, fIter, itemsOf, fRange1, fRange2, eqX_int, eqX_str, fEnumA, fFrz, fNever, permOk, perm, fCallK, fCallP, gMax2, gMin2, gMax3, gMin3, fPar2, fMulti, putM, fAsgG, fLc, lcStep, lsStep, tYesF, gN, gT, gsCons, gsNil, t6__law_best, e5__law_best, q]
    rw [this, List.nil_append, up_nats s fun x => decide (0 < x)]
    rfl
  have e4 : ∀ a b : MD, loopL (gT 2 (gsCons (gN 4) (gsCons (gN 3) gsNil))) t8__law_best e7__law_best [4, 3] (enumD (s.map .int)) [] [some (.dat (.list (s.map .int))), some a, some b, none, none] = some (natsD (M48.dnI s), [some (.dat (.list (s.map .int))), some a, some b, none, none]) := fun a b => by
    rw [enum_ints]
    have := loopL_filter (acc := []) (g := fun p : Int × Nat => PyData.tuple [.int (p.2 : Nat), .int p.1]) (f := fun p => PyData.int (p.2 : Nat)) (p := fun p : Int × Nat => decide (p.1 < 0)) (l := s.zipIdx) (tg := gT 2 (gsCons (gN 4) (gsCons (gN 3) gsNil))) (tt := t8__law_best) (fe := e7__law_best) (own := [4, 3]) (Γ := [some (.dat (.list (s.map .int))), some a, some b, none, none]) (by simp [sizeLine_eq]; omega) fun x _ => by
      by_cases q : x.1 < 0
      · simp [fnOf, fSeq, fNil, fSet, fRet, fDrop, fIf, fFgt, fgtO, fgt, fFor, fIfE, fT, fTru, truD, fAnd, fOr, fNot, fAndV, fOrV, fNotV, fOp2, fVar, fC, fB, fACons, fANil, fTup, fLst, fNeg, gRel, gInt2, gInt2C, gAdd, gMulX_int, gIx, gLen, gAbs, gInt, gEq, gIs, gIsNot, dv_dat, dv_lst, dv_al, dvs, own_dat, own_lst, own_bag, own_dcK, own_scr, flat_dat, flat_lst, Res.fin, frzs_nil, frzs_cons, frz_dat, intT_int, outs, als, argsOf, putArgs, fCall, eqv_int, shp_int, shp_none, shp_bool, noOwn, ownAt, sizeLine_eq, fIter, itemsOf, fRange1, fRange2, eqX_int, eqX_str, fEnumA, fFrz, fNever, permOk, perm, fCallK, fCallP, gMax2, gMin2, gMax3, gMin3, fPar2, fMulti, putM, fAsgG, fLc, lcStep, lsStep, tYesF, gN, gT, gsCons, gsNil, t8__law_best, e7__law_best, q]
      · simp [fnOf, fSeq, fNil, fSet, fRet, fDrop, fIf, fFgt, fgtO, fgt, fFor, fIfE, fT, fTru, truD, fAnd, fOr, fNot, fAndV, fOrV, fNotV, fOp2, fVar, fC, fB, fACons, fANil, fTup, fLst, fNeg, gRel, gInt2, gInt2C, gAdd, gMulX_int, gIx, gLen, gAbs, gInt, gEq, gIs, gIsNot, dv_dat, dv_lst, dv_al, dvs, own_dat, own_lst, own_bag, own_dcK, own_scr, flat_dat, flat_lst, Res.fin, frzs_nil, frzs_cons, frz_dat, intT_int, outs, als, argsOf, putArgs, fCall, eqv_int, shp_int, shp_none, shp_bool, noOwn, ownAt, sizeLine_eq, fIter, itemsOf, fRange1, fRange2, eqX_int, eqX_str, fEnumA, fFrz, fNever, permOk, perm, fCallK, fCallP, gMax2, gMin2, gMax3, gMin3, fPar2, fMulti, putM, fAsgG, fLc, lcStep, lsStep, tYesF, gN, gT, gsCons, gsNil, t8__law_best, e7__law_best, q]
    rw [this, List.nil_append, up_nats s fun x => decide (x < 0)]
    rfl
  have g1 := gSumA_list (s.filter fun x => decide (0 < x))
  have g2 := gSumA_list ((s.filter fun x => decide (x < 0)).map fun x => -x)
  rw [List.map_map] at g2
  simp only [List.nil_append, Function.comp_def] at e1 e2 g2
  unfold M48.bestI
  generalize (s.filter fun x => decide (0 < x)).sum = P at *
  generalize ((s.filter fun x => decide (x < 0)).map fun x => -x).sum = N at *
  generalize (s.filter fun x => decide (0 < x)).map PyData.int = u at *
  generalize ((s.filter fun x => decide (x < 0)).map fun x => PyData.int (-x)) = d at *
  generalize M48.upI s = U at *
  generalize M48.dnI s = D at *
  by_cases q : N ≤ P
  · simp [fnOf, fSeq, fNil, fSet, fRet, fDrop, fIf, fFgt, fgtO, fgt, fFor, fIfE, fT, fTru, truD, fAnd, fOr, fNot, fAndV, fOrV, fNotV, fOp2, fVar, fC, fB, fACons, fANil, fTup, fLst, fNeg, gRel, gInt2, gInt2C, gAdd, gMulX_int, gIx, gLen, gAbs, gInt, gEq, gIs, gIsNot, dv_dat, dv_lst, dv_al, dvs, own_dat, own_lst, own_bag, own_dcK, own_scr, flat_dat, flat_lst, Res.fin, frzs_nil, frzs_cons, frz_dat, intT_int, outs, als, argsOf, putArgs, fCall, eqv_int, shp_int, shp_none, shp_bool, noOwn, ownAt, sizeLine_eq, fIter, itemsOf, fRange1, fRange2, eqX_int, eqX_str, fEnumA, fFrz, fNever, permOk, perm, fCallK, fCallP, gMax2, gMin2, gMax3, gMin3, fPar2, fMulti, putM, fAsgG, fLc, F__law_best, e1, e2, g1, g2, q, e3, gToT]
  · simp [fnOf, fSeq, fNil, fSet, fRet, fDrop, fIf, fFgt, fgtO, fgt, fFor, fIfE, fT, fTru, truD, fAnd, fOr, fNot, fAndV, fOrV, fNotV, fOp2, fVar, fC, fB, fACons, fANil, fTup, fLst, fNeg, gRel, gInt2, gInt2C, gAdd, gMulX_int, gIx, gLen, gAbs, gInt, gEq, gIs, gIsNot, dv_dat, dv_lst, dv_al, dvs, own_dat, own_lst, own_bag, own_dcK, own_scr, flat_dat, flat_lst, Res.fin, frzs_nil, frzs_cons, frz_dat, intT_int, outs, als, argsOf, putArgs, fCall, eqv_int, shp_int, shp_none, shp_bool, noOwn, ownAt, sizeLine_eq, fIter, itemsOf, fRange1, fRange2, eqX_int, eqX_str, fEnumA, fFrz, fNever, permOk, perm, fCallK, fCallP, gMax2, gMin2, gMax3, gMin3, fPar2, fMulti, putM, fAsgG, fLc, F__law_best, e1, e2, g1, g2, q, e4, gToT]
theorem up_sub (s : List Int) : (M48.upI s).Sublist (List.range s.length) := M48.sub_zip _ _
theorem dn_sub (s : List Int) : (M48.dnI s).Sublist (List.range s.length) := M48.sub_zip _ _
theorem best_rows_ok {n : Nat} {T : M48.Tab} (h : M48.Tb n T) (hn : n ≤ 64) {C : List Nat} (hC : C.Sublist (List.range n)) : F_best_rows [.dat (tabD T), .dat (lotD C)] = some (.dat (lotD (M48.bestI (T.map (M48.rowS C)))), [none, none]) := by
  have e0 := best_sums_ok h hn hC rfl
  have hs : (T.map (M48.rowS C)).length = n := by rw [List.length_map, h.len]
  generalize T.map (M48.rowS C) = s at *
  have e3 := fun a b => by
    have := loopL_filter (acc := []) (g := fun p : Int × Nat => PyData.tuple [.int (p.2 : Nat), .int p.1]) (f := fun p => PyData.int (p.2 : Nat)) (p := fun p : Int × Nat => decide (0 < p.1)) (l := s.zipIdx) (tg := gT 2 (gsCons (gN 8) (gsCons (gN 9) gsNil))) (tt := t4_best_rows) (fe := e3_best_rows) (own := [8, 9]) (Γ := [some a, some b, some (.dat (.list (s.map .int))), none, none, none, none, none, none, none]) (by simp [sizeLine_eq]; omega) fun x _ => by
      by_cases q : 0 < x.1
      · simp [fnOf, fSeq, fNil, fSet, fRet, fDrop, fIf, fFgt, fgtO, fgt, fFor, fIfE, fT, fTru, truD, fAnd, fOr, fNot, fAndV, fOrV, fNotV, fOp2, fVar, fC, fB, fACons, fANil, fTup, fLst, fNeg, gRel, gInt2, gInt2C, gAdd, gMulX_int, gIx, gLen, gAbs, gInt, gEq, gIs, gIsNot, dv_dat, dv_lst, dv_al, dvs, own_dat, own_lst, own_bag, own_dcK, own_scr, flat_dat, flat_lst, Res.fin, frzs_nil, frzs_cons, frz_dat, intT_int, outs, als, argsOf, putArgs, fCall, eqv_int, shp_int, shp_none, shp_bool, noOwn, ownAt, sizeLine_eq, fIter, itemsOf, fRange1, fRange2, eqX_int, eqX_str, fEnumA, fFrz, fNever, permOk, perm, fCallK, fCallP, gMax2, gMin2, gMax3, gMin3, fPar2, fMulti, putM, fAsgG, fLc, lcStep, lsStep, tYesF, gN, gT, gsCons, gsNil, t4_best_rows, e3_best_rows, q]
      · simp [fnOf, fSeq, fNil, fSet, fRet, fDrop, fIf, fFgt, fgtO, fgt, fFor, fIfE, fT, fTru, truD, fAnd, fOr, fNot, fAndV, fOrV, fNotV, fOp2, fVar, fC, fB, fACons, fANil, fTup, fLst, fNeg, gRel, gInt2, gInt2C, gAdd, gMulX_int, gIx, gLen, gAbs, gInt, gEq, gIs, gIsNot, dv_dat, dv_lst, dv_al, dvs, own_dat, own_lst, own_bag, own_dcK, own_scr, flat_dat, flat_lst, Res.fin, frzs_nil, frzs_cons, frz_dat, intT_int, outs, als, argsOf, putArgs, fCall, eqv_int, shp_int, shp_none, shp_bool, noOwn, ownAt, sizeLine_eq, fIter, itemsOf, fRange1, fRange2, eqX_int, eqX_str, fEnumA, fFrz, fNever, permOk, perm, fCallK, fCallP, gMax2, gMin2, gMax3, gMin3, fPar2, fMulti, putM, fAsgG, fLc, lcStep, lsStep, tYesF, gN, gT, gsCons, gsNil, t4_best_rows, e3_best_rows, q]
    rw [← enum_ints, List.nil_append, up_nats s fun x => decide (0 < x)] at this
    exact this
  have e4 := fun a b c => by
    have := loopL_filter (acc := []) (g := fun p : Int × Nat => PyData.tuple [.int (p.2 : Nat), .int p.1]) (f := fun p => PyData.int (p.2 : Nat)) (p := fun p : Int × Nat => decide (p.1 < 0)) (l := s.zipIdx) (tg := gT 2 (gsCons (gN 8) (gsCons (gN 9) gsNil))) (tt := t6_best_rows) (fe := e5_best_rows) (own := [8, 9]) (Γ := [some a, some b, some (.dat (.list (s.map .int))), some c, none, none, none, none, none, none]) (by simp [sizeLine_eq]; omega) fun x _ => by
      by_cases q : x.1 < 0
      · simp [fnOf, fSeq, fNil, fSet, fRet, fDrop, fIf, fFgt, fgtO, fgt, fFor, fIfE, fT, fTru, truD, fAnd, fOr, fNot, fAndV, fOrV, fNotV, fOp2, fVar, fC, fB, fACons, fANil, fTup, fLst, fNeg, gRel, gInt2, gInt2C, gAdd, gMulX_int, gIx, gLen, gAbs, gInt, gEq, gIs, gIsNot, dv_dat, dv_lst, dv_al, dvs, own_dat, own_lst, own_bag, own_dcK, own_scr, flat_dat, flat_lst, Res.fin, frzs_nil, frzs_cons, frz_dat, intT_int, outs, als, argsOf, putArgs, fCall, eqv_int, shp_int, shp_none, shp_bool, noOwn, ownAt, sizeLine_eq, fIter, itemsOf, fRange1, fRange2, eqX_int, eqX_str, fEnumA, fFrz, fNever, permOk, perm, fCallK, fCallP, gMax2, gMin2, gMax3, gMin3, fPar2, fMulti, putM, fAsgG, fLc, lcStep, lsStep, tYesF, gN, gT, gsCons, gsNil, t6_best_rows, e5_best_rows, q]
      · simp [fnOf, fSeq, fNil, fSet, fRet, fDrop, fIf, fFgt, fgtO, fgt, fFor, fIfE, fT, fTru, truD, fAnd, fOr, fNot, fAndV, fOrV, fNotV, fOp2, fVar, fC, fB, fACons, fANil, fTup, fLst, fNeg, gRel, gInt2, gInt2C, gAdd, gMulX_int, gIx, gLen, gAbs, gInt, gEq, gIs, gIsNot, dv_dat, dv_lst, dv_al, dvs, own_dat, own_lst, own_bag, own_dcK, own_scr, flat_dat, flat_lst, Res.fin, frzs_nil, frzs_cons, frz_dat, intT_int, outs, als, argsOf, putArgs, fCall, eqv_int, shp_int, shp_none, shp_bool, noOwn, ownAt, sizeLine_eq, fIter, itemsOf, fRange1, fRange2, eqX_int, eqX_str, fEnumA, fFrz, fNever, permOk, perm, fCallK, fCallP, gMax2, gMin2, gMax3, gMin3, fPar2, fMulti, putM, fAsgG, fLc, lcStep, lsStep, tYesF, gN, gT, gsCons, gsNil, t6_best_rows, e5_best_rows, q]
    rw [← enum_ints, List.nil_append, up_nats s fun x => decide (x < 0)] at this
    exact this
  have hU := up_sub s
  have hD := dn_sub s
  have e5 := fun a b c d => lot_loop hU (by omega) (tg := gN 8) (fe := e7_best_rows) (own := [8]) (Γ := [some a, some b, some (.dat (.list (s.map .int))), some c, some d, none, none, none, none, none]) (f := fun i => s.getD i 0) fun i hi => by
    have x := atI_nat (sum_at hU hi)
    generalize s.getD i 0 = y at *
    simp [fnOf, fSeq, fNil, fSet, fRet, fDrop, fIf, fFgt, fgtO, fgt, fFor, fIfE, fT, fTru, truD, fAnd, fOr, fNot, fAndV, fOrV, fNotV, fOp2, fVar, fC, fB, fACons, fANil, fTup, fLst, fNeg, gRel, gInt2, gInt2C, gAdd, gMulX_int, gIx, gLen, gAbs, gInt, gEq, gIs, gIsNot, dv_dat, dv_lst, dv_al, dvs, own_dat, own_lst, own_bag, own_dcK, own_scr, flat_dat, flat_lst, Res.fin, frzs_nil, frzs_cons, frz_dat, intT_int, outs, als, argsOf, putArgs, fCall, eqv_int, shp_int, shp_none, shp_bool, noOwn, ownAt, sizeLine_eq, fIter, itemsOf, fRange1, fRange2, eqX_int, eqX_str, fEnumA, fFrz, fNever, permOk, perm, fCallK, fCallP, gMax2, gMin2, gMax3, gMin3, fPar2, fMulti, putM, fAsgG, fLc, lcStep, lsStep, tYesF, gN, gT, gsCons, gsNil, e7_best_rows, x]
  have e6 := fun a b c d => lot_loop hD (by omega) (tg := gN 8) (fe := e8_best_rows) (own := [8]) (Γ := [some a, some b, some (.dat (.list (s.map .int))), some c, some d, none, none, none, none, none]) (f := fun i => s.getD i 0) fun i hi => by
    have x := atI_nat (sum_at hD hi)
    generalize s.getD i 0 = y at *
    simp [fnOf, fSeq, fNil, fSet, fRet, fDrop, fIf, fFgt, fgtO, fgt, fFor, fIfE, fT, fTru, truD, fAnd, fOr, fNot, fAndV, fOrV, fNotV, fOp2, fVar, fC, fB, fACons, fANil, fTup, fLst, fNeg, gRel, gInt2, gInt2C, gAdd, gMulX_int, gIx, gLen, gAbs, gInt, gEq, gIs, gIsNot, dv_dat, dv_lst, dv_al, dvs, own_dat, own_lst, own_bag, own_dcK, own_scr, flat_dat, flat_lst, Res.fin, frzs_nil, frzs_cons, frz_dat, intT_int, outs, als, argsOf, putArgs, fCall, eqv_int, shp_int, shp_none, shp_bool, noOwn, ownAt, sizeLine_eq, fIter, itemsOf, fRange1, fRange2, eqX_int, eqX_str, fEnumA, fFrz, fNever, permOk, perm, fCallK, fCallP, gMax2, gMin2, gMax3, gMin3, fPar2, fMulti, putM, fAsgG, fLc, lcStep, lsStep, tYesF, gN, gT, gsCons, gsNil, e8_best_rows, x]
  have g1 := sum_S (M48.upI s) fun i => s.getD i 0
  have g2 := sum_S (M48.dnI s) fun i => s.getD i 0
  rw [M48.up_sum] at g1
  rw [M48.dn_sum] at g2
  have ub : M48.bestI s = if (s.filter fun x => decide (0 < x)).sum ≥ ((s.filter fun x => decide (x < 0)).map fun x => -x).sum then M48.upI s else M48.dnI s := rfl
  rw [ub]
  have eu : (s.zipIdx.filter fun p => decide (0 < p.1)).map (·.2) = M48.upI s := rfl
  have ed : (s.zipIdx.filter fun p => decide (p.1 < 0)).map (·.2) = M48.dnI s := rfl
  rw [eu] at e3
  rw [ed] at e4
  generalize (s.filter fun x => decide (0 < x)).sum = P at *
  generalize ((s.filter fun x => decide (x < 0)).map fun x => -x).sum = N at *
  generalize hu : (M48.upI s).map (fun i => s.getD i 0) = u at *
  generalize hd : (M48.dnI s).map (fun i => s.getD i 0) = d at *
  generalize M48.upI s = U at *
  generalize M48.dnI s = D at *
  by_cases q : N ≤ P
  · simp [fnOf, fSeq, fNil, fSet, fRet, fDrop, fIf, fFgt, fgtO, fgt, fFor, fIfE, fT, fTru, truD, fAnd, fOr, fNot, fAndV, fOrV, fNotV, fOp2, fVar, fC, fB, fACons, fANil, fTup, fLst, fNeg, gRel, gInt2, gInt2C, gAdd, gMulX_int, gIx, gLen, gAbs, gInt, gEq, gIs, gIsNot, dv_dat, dv_lst, dv_al, dvs, own_dat, own_lst, own_bag, own_dcK, own_scr, flat_dat, flat_lst, Res.fin, frzs_nil, frzs_cons, frz_dat, intT_int, outs, als, argsOf, putArgs, fCall, eqv_int, shp_int, shp_none, shp_bool, noOwn, ownAt, sizeLine_eq, fIter, itemsOf, fRange1, fRange2, eqX_int, eqX_str, fEnumA, fFrz, fNever, permOk, perm, fCallK, fCallP, gMax2, gMin2, gMax3, gMin3, fPar2, fMulti, putM, fAsgG, fLc, F_best_rows, e0, e3, e4, e5, e6, g1, g2, q, gToT]
  · simp [fnOf, fSeq, fNil, fSet, fRet, fDrop, fIf, fFgt, fgtO, fgt, fFor, fIfE, fT, fTru, truD, fAnd, fOr, fNot, fAndV, fOrV, fNotV, fOp2, fVar, fC, fB, fACons, fANil, fTup, fLst, fNeg, gRel, gInt2, gInt2C, gAdd, gMulX_int, gIx, gLen, gAbs, gInt, gEq, gIs, gIsNot, dv_dat, dv_lst, dv_al, dvs, own_dat, own_lst, own_bag, own_dcK, own_scr, flat_dat, flat_lst, Res.fin, frzs_nil, frzs_cons, frz_dat, intT_int, outs, als, argsOf, putArgs, fCall, eqv_int, shp_int, shp_none, shp_bool, noOwn, ownAt, sizeLine_eq, fIter, itemsOf, fRange1, fRange2, eqX_int, eqX_str, fEnumA, fFrz, fNever, permOk, perm, fCallK, fCallP, gMax2, gMin2, gMax3, gMin3, fPar2, fMulti, putM, fAsgG, fLc, F_best_rows, e0, e3, e4, e5, e6, g1, g2, q, gToT]
end Lw

end

/-! K48i: sums over lots are right -/
noncomputable section
namespace Lw
open PySem PySem.Spec PyProof.Rows L2 Fx

theorem lot_plain {n : Nat} {R : List Nat} (hR : R.Sublist (List.range n)) (hn : n ≤ 64) : Plain 2 (lotD R) := .tup _ _ (by have := lot_len hR; simp [sizeLine_eq]; omega) fun d hd => by
  obtain ⟨i, _, rfl⟩ := List.mem_map.mp hd
  exact .int _ _
theorem sq_abs {x y : Int} (h : x * x ≤ y) (hy : y ≤ 1000000) : x.natAbs ≤ 1000000 := by
  have h1 : (x.natAbs : Int) * x.natAbs = x * x := Int.natAbs_mul_self
  by_cases q : x.natAbs ≤ 1000000
  · exact q
  · have h2 : (1000000 : Int) < x.natAbs := by omega
    have h3 : (x.natAbs : Int) * 1 ≤ x.natAbs * x.natAbs := Int.mul_le_mul_of_nonneg_left (by omega) (by omega)
    omega
theorem bound3 {n a b : Nat} (hn : n ≤ 64) (ha : a ≤ n) (hb : b ≤ n) : (n : Int) * a * b ≤ 1000000 := by
  have h1 : n * a ≤ 64 * 64 := Nat.mul_le_mul hn (by omega)
  have h2 : n * a * b ≤ 64 * 64 * 64 := Nat.mul_le_mul h1 (by omega)
  have : ((n * a * b : Nat) : Int) ≤ 1000000 := by omega
  simpa using this
theorem sq_ok {x y : Int} (h : x * x ≤ y) (hy : y ≤ 1000000) : mulOk x x = true := by
  have := sq_abs h hy
  exact mulOk_of (Nat.lt_of_lt_of_le (by omega) big64) (Nat.lt_of_lt_of_le (by omega) big64)
theorem na_ok {n a : Nat} (hn : n ≤ 64) (ha : a ≤ n) : mulOk (n : Int) a = true := mulOk_of (Nat.lt_of_lt_of_le (by omega) big64) (Nat.lt_of_lt_of_le (by omega) big64)
theorem nab_ok {n a b : Nat} (hn : n ≤ 64) (ha : a ≤ n) (hb : b ≤ n) : mulOk ((n : Int) * a) b = true := by
  have h1 : n * a ≤ 64 * 64 := Nat.mul_le_mul hn (by omega)
  have e : ((n : Int) * a) = ((n * a : Nat) : Int) := by simp
  rw [e]
  exact mulOk_of (Nat.lt_of_lt_of_le (by omega) big64) (Nat.lt_of_lt_of_le (by omega) big64)
theorem due_ok {n : Nat} {T : M48.Tab} (h : M48.Tb n T) (hn : n ≤ 64) {R C : List Nat} (hR : R.Sublist (List.range n)) :
    gSumA [.list ((R.map fun i => (T.map (M48.rowS C)).getD i 0).map .int)] = some (.val (.int (M48.lotS T R C))) := by
  rw [sum_S]
  congr 3
  refine M48.S_congr fun i hi => ?_
  have hi' : i < n := by simpa using hR.mem hi
  exact M48.map_getD _ (by rw [h.len]; exact hi')
theorem sums_core {B B1 B2 B3 : MD} {tab : PyData} {rd cd gd sd ud wd : List PyData} {n a g t : Int} {v : Nat} (o0 : B.own = true) (o1 : B1.own = true) (o2 : B2.own = true) (o3 : B3.own = true)
    (e1 : F__law_lot [B, .dat (.int n)] = some (.dat (.tuple rd), [some B1, none])) (e2 : F__law_lot [B1, .dat (.int n)] = some (.dat (.tuple cd), [some B2, none])) (e3 : F__law_draw [B2, .dat (.int 2)] = some (.dat (.int v), [some B3, none]))
    (e4 : F__law_sums [.dat tab, .dat (.tuple cd)] = some (.dat (.list sd), [none, none]))
    (l1 : ∀ (b : MD) (d1 d2 d3 d4 d5 d6 d7 d8 d9 d10 : Option MD), loopL (gN 13) tYesF e1__law_are_sums_right [13] rd [] [some b, d1, d2, d3, d4, d5, d6, some (.dat (.list sd)), d7, d8, d9, d10, none, none, none] = some (ud, [some b, d1, d2, d3, d4, d5, d6, some (.dat (.list sd)), d7, d8, d9, d10, none, none, none]))
    (g1 : gSumA [.list ud] = some (.val (.int a)))
    (e6 : F__law_best [.dat (.list sd)] = some (.dat (.tuple gd), [none])) (e7 : F_best_rows [.dat tab, .dat (.tuple cd)] = some (.dat (.tuple gd), [none, none]))
    (e8 : F_sum_over [.dat tab, .dat (.tuple rd), .dat (.tuple cd)] = some (.dat (.int a), [none, none, none])) (e9 : F_sum_over [.dat tab, .dat (.tuple gd), .dat (.tuple cd)] = some (.dat (.int g), [none, none, none]))
    (l2 : ∀ (b : MD) (d1 d2 d3 d4 d5 d6 d7 d8 d9 d10 d11 : Option MD), loopL (gN 13) tYesF e2__law_are_sums_right [13] gd [] [some b, d1, d2, d3, d4, d5, d6, some (.dat (.list sd)), d7, d8, d9, d10, d11, none, none] = some (wd, [some b, d1, d2, d3, d4, d5, d6, some (.dat (.list sd)), d7, d8, d9, d10, d11, none, none]))
    (g2 : gSumA [.list wd] = some (.val (.int g)))
    (p1 : F__law_same 8 [.dat (.int a), .dat (.int a)] = some (.dat (.bool true), [none, none])) (p2 : F__law_same 8 [.dat (.int g), .dat (.int g)] = some (.dat (.bool true), [none, none])) (p3 : F__law_same 8 [.dat (.tuple gd), .dat (.tuple gd)] = some (.dat (.bool true), [none, none]))
    (m1 : mulOk a a = true) (m2 : mulOk g g = true) (m3 : mulOk n rd.length = true) (m4 : mulOk (n * rd.length) cd.length = true) (m5 : mulOk n gd.length = true) (m6 : mulOk (n * gd.length) cd.length = true)
    (hab : (if a < 0 then -a else a) ≤ (if g < 0 then -g else g)) (w1 : a * a ≤ n * rd.length * cd.length) (w2 : g * g ≤ n * gd.length * cd.length) :
    lsStep (gN 3) b3__law_are_sums_right (.int t) [some B, some (.dat tab), some (.dat (.int n)), none, none, none, none, none, none, none, none, none, none, none, none] =
      some (.nx [some B3, some (.dat tab), some (.dat (.int n)), none, none, none, none, none, none, none, none, none, none, none, none]) := by
  have hab' : ¬ ((if g < 0 then -g else g) < (if a < 0 then -a else a)) := by omega
  have w1' : ¬ (n * rd.length * cd.length < a * a) := by omega
  have w2' : ¬ (n * gd.length * cd.length < g * g) := by omega
  by_cases q : 0 < v
  · have q' : (0 : Int) < v := by omega
    simp [fnOf, fSeq, fNil, fSet, fRet, fDrop, fIf, fFgt, fgtO, fgt, fFor, fIfE, fT, fTru, truD, fAnd, fOr, fNot, fAndV, fOrV, fNotV, fOp2, fVar, fC, fB, fACons, fANil, fTup, fLst, fNeg, gRel, gInt2, gInt2C, gAdd, gMulX_int, gIx, gLen, gAbs, gInt, gEq, gIs, gIsNot, dv_dat, dv_lst, dv_al, dvs, own_dat, own_lst, own_bag, own_dcK, own_scr, flat_dat, flat_lst, Res.fin, frzs_nil, frzs_cons, frz_dat, intT_int, outs, als, argsOf, putArgs, fCall, eqv_int, shp_int, shp_none, shp_bool, noOwn, ownAt, sizeLine_eq, fIter, itemsOf, fRange1, fRange2, eqX_int, eqX_str, fEnumA, fFrz, fNever, permOk, perm, fCallK, fCallP, gMax2, gMin2, gMax3, gMin3, fPar2, fMulti, putM, fAsgG, fLc, lcStep, lsStep, tYesF, gN, gT, gsCons, gsNil, b3__law_are_sums_right, o0, o1, o2, o3, e1, e2, e3, e4, l1, g1, e6, e7, e8, e9, l2, g2, p1, p2, p3, m1, m2, m3, m4, m5, m6, hab', w1', w2', q, q']
  · simp [fnOf, fSeq, fNil, fSet, fRet, fDrop, fIf, fFgt, fgtO, fgt, fFor, fIfE, fT, fTru, truD, fAnd, fOr, fNot, fAndV, fOrV, fNotV, fOp2, fVar, fC, fB, fACons, fANil, fTup, fLst, fNeg, gRel, gInt2, gInt2C, gAdd, gMulX_int, gIx, gLen, gAbs, gInt, gEq, gIs, gIsNot, dv_dat, dv_lst, dv_al, dvs, own_dat, own_lst, own_bag, own_dcK, own_scr, flat_dat, flat_lst, Res.fin, frzs_nil, frzs_cons, frz_dat, intT_int, outs, als, argsOf, putArgs, fCall, eqv_int, shp_int, shp_none, shp_bool, noOwn, ownAt, sizeLine_eq, fIter, itemsOf, fRange1, fRange2, eqX_int, eqX_str, fEnumA, fFrz, fNever, permOk, perm, fCallK, fCallP, gMax2, gMin2, gMax3, gMin3, fPar2, fMulti, putM, fAsgG, fLc, lcStep, lsStep, tYesF, gN, gT, gsCons, gsNil, b3__law_are_sums_right, o0, o1, o2, o3, e1, e2, e3, e4, l1, g1, e6, e7, e8, e9, l2, g2, p1, p2, p3, m1, m2, m3, m4, m5, m6, hab', w1', w2', q]
theorem sums_turn {n : Nat} {T : M48.Tab} (h : M48.Had n T) (h1 : 1 ≤ n) (hn : n ≤ 64) {B : MD} (hB : BagOk B) (t : Int) :
    ∃ B', lsStep (gN 3) b3__law_are_sums_right (.int t) [some B, some (.dat (tabD T)), some (.dat (.int n)), none, none, none, none, none, none, none, none, none, none, none, none] =
      some (.nx [some B', some (.dat (tabD T)), some (.dat (.int n)), none, none, none, none, none, none, none, none, none, none, none, none]) ∧ BagOk B' := by
  obtain ⟨R, B1, e1, hB1, hR⟩ := lot_ok h1 hn hB
  obtain ⟨C, B2, e2, hB2, hC⟩ := lot_ok h1 hn hB1
  obtain ⟨v, B3, e3, hB3, hv⟩ := drawN hB2 (n := 2) (by omega) (by omega)
  rw [show ((2 : Nat) : Int) = 2 from rfl] at e3
  have hT := h.toTb
  have e4 := sums_ok hT hn hC
  have e5 := due_ok hT hn hR (C := C)
  have hs : (T.map (M48.rowS C)).length = n := by rw [List.length_map, h.len]
  have e6 := law_best_ok (s := T.map (M48.rowS C)) (by omega)
  have e7 := best_rows_ok hT hn hC
  have e8 := sum_over_ok hT hn hR hC
  have hG : (M48.bestI (T.map (M48.rowS C))).Sublist (List.range n) := by
    have := M48.best_sub (T.map (M48.rowS C))
    rwa [hs] at this
  have e9 := sum_over_ok hT hn hG hC
  have e10 := due_ok hT hn hG (C := C)
  have p1 := same_int (M48.lotS T R C)
  have p2 := same_int (M48.lotS T (M48.bestI (T.map (M48.rowS C))) C)
  have p3 := same8 (lot_plain hG hn) (by decide)
  have w1 := M48.lindsey h hR hC
  have w2 := M48.lindsey h hG hC
  have lR := lot_len hR
  have lC := lot_len hC
  have lG := lot_len hG
  have m1 := sq_ok w1 (bound3 hn lR lC)
  have m2 := sq_ok w2 (bound3 hn lG lC)
  have m3 := na_ok hn lR
  have m4 := nab_ok hn lR lC
  have m5 := na_ok hn lG
  have m6 := nab_ok hn lG lC
  have most : (M48.lotS T R C).natAbs ≤ (M48.lotS T (M48.bestI (T.map (M48.rowS C))) C).natAbs := by
    have := M48.best_most (T.map (M48.rowS C)) (R := R) (by rw [hs]; exact hR)
    have c : ∀ Q : List Nat, Q.Sublist (List.range n) → (M48.S Q fun i => (T.map (M48.rowS C)).getD i 0) = M48.lotS T Q C := fun Q hQ => M48.S_congr fun i hi => M48.map_getD _ (by rw [h.len]; simpa using hQ.mem hi)
    rwa [c R hR, c _ hG] at this
  have l1 := fun (b : MD) (d1 d2 d3 d4 d5 d6 d7 d8 d9 d10 : Option MD) => lot_loop hR hn (tg := gN 13) (fe := e1__law_are_sums_right) (own := [13]) (Γ := [some b, d1, d2, d3, d4, d5, d6, some (.dat (.list ((T.map (M48.rowS C)).map .int))), d7, d8, d9, d10, none, none, none]) (f := fun i => (T.map (M48.rowS C)).getD i 0) fun i hi => by
    have x := atI_nat (sum_at (s := T.map (M48.rowS C)) (by rw [hs]; exact hR) hi)
    generalize (T.map (M48.rowS C)).getD i 0 = y at *
    generalize (T.map (M48.rowS C)).map PyData.int = z at *
    simp [fnOf, fSeq, fNil, fSet, fRet, fDrop, fIf, fFgt, fgtO, fgt, fFor, fIfE, fT, fTru, truD, fAnd, fOr, fNot, fAndV, fOrV, fNotV, fOp2, fVar, fC, fB, fACons, fANil, fTup, fLst, fNeg, gRel, gInt2, gInt2C, gAdd, gMulX_int, gIx, gLen, gAbs, gInt, gEq, gIs, gIsNot, dv_dat, dv_lst, dv_al, dvs, own_dat, own_lst, own_bag, own_dcK, own_scr, flat_dat, flat_lst, Res.fin, frzs_nil, frzs_cons, frz_dat, intT_int, outs, als, argsOf, putArgs, fCall, eqv_int, shp_int, shp_none, shp_bool, noOwn, ownAt, sizeLine_eq, fIter, itemsOf, fRange1, fRange2, eqX_int, eqX_str, fEnumA, fFrz, fNever, permOk, perm, fCallK, fCallP, gMax2, gMin2, gMax3, gMin3, fPar2, fMulti, putM, fAsgG, fLc, lcStep, lsStep, tYesF, gN, gT, gsCons, gsNil, e1__law_are_sums_right, x]
  have l2 := fun (b : MD) (d1 d2 d3 d4 d5 d6 d7 d8 d9 d10 d11 : Option MD) => lot_loop hG hn (tg := gN 13) (fe := e2__law_are_sums_right) (own := [13]) (Γ := [some b, d1, d2, d3, d4, d5, d6, some (.dat (.list ((T.map (M48.rowS C)).map .int))), d7, d8, d9, d10, d11, none, none]) (f := fun i => (T.map (M48.rowS C)).getD i 0) fun i hi => by
    have x := atI_nat (sum_at (s := T.map (M48.rowS C)) (by rw [hs]; exact hG) hi)
    generalize (T.map (M48.rowS C)).getD i 0 = y at *
    generalize (T.map (M48.rowS C)).map PyData.int = z at *
    simp [fnOf, fSeq, fNil, fSet, fRet, fDrop, fIf, fFgt, fgtO, fgt, fFor, fIfE, fT, fTru, truD, fAnd, fOr, fNot, fAndV, fOrV, fNotV, fOp2, fVar, fC, fB, fACons, fANil, fTup, fLst, fNeg, gRel, gInt2, gInt2C, gAdd, gMulX_int, gIx, gLen, gAbs, gInt, gEq, gIs, gIsNot, dv_dat, dv_lst, dv_al, dvs, own_dat, own_lst, own_bag, own_dcK, own_scr, flat_dat, flat_lst, Res.fin, frzs_nil, frzs_cons, frz_dat, intT_int, outs, als, argsOf, putArgs, fCall, eqv_int, shp_int, shp_none, shp_bool, noOwn, ownAt, sizeLine_eq, fIter, itemsOf, fRange1, fRange2, eqX_int, eqX_str, fEnumA, fFrz, fNever, permOk, perm, fCallK, fCallP, gMax2, gMin2, gMax3, gMin3, fPar2, fMulti, putM, fAsgG, fLc, lcStep, lsStep, tYesF, gN, gT, gsCons, gsNil, e2__law_are_sums_right, x]
  refine ⟨B3, ?_, hB3⟩
  have lr : (natsD R).length = R.length := List.length_map _
  have lc : (natsD C).length = C.length := List.length_map _
  have lg : (natsD (M48.bestI (T.map (M48.rowS C)))).length = (M48.bestI (T.map (M48.rowS C))).length := List.length_map _
  exact sums_core hB.own hB1.own hB2.own hB3.own e1 e2 e3 e4 l1 e5 e6 e7 e8 e9 l2 e10 p1 p2 p3 m1 m2 (by rw [lr]; exact m3) (by rw [lr, lc]; exact m4) (by rw [lg]; exact m5) (by rw [lg, lc]; exact m6)
    (by split <;> split <;> omega) (by rw [lr, lc]; exact w1) (by rw [lg, lc]; exact w2)
theorem sums_right_ok {n : Nat} {T : M48.Tab} (h : M48.Had n T) (h1 : 1 ≤ n) (hn : n ≤ 64) {B : MD} (hB : BagOk B) : ∃ B', F__law_are_sums_right [B, .dat (tabD T)] = some (.dat (.bool true), [some B', none]) ∧ BagOk B' := by
  have hl := h.len
  obtain ⟨m, hm, em⟩ : ∃ m : Nat, m < 100 ∧ (if n < 20 then 3 else 2) = m := ⟨_, by split <;> omega, rfl⟩
  obtain ⟨Γ2, e, B1, rfl, hB1⟩ := loopS_ok (tg := gN 3) (b := b3__law_are_sums_right) (P := fun _ Γ => ∃ B' : MD, Γ = [some B', some (.dat (tabD T)), some (.dat (.int n)), none, none, none, none, none, none, none, none, none, none, none, none] ∧ BagOk B')
    (items := (List.range m).map fun (x : Nat) => PyData.int x) (Γ := [some B, some (.dat (tabD T)), some (.dat (.int n)), none, none, none, none, none, none, none, none, none, none, none, none]) 0 ⟨B, rfl, hB⟩ fun i d Γ hd ⟨B2, e, hB2⟩ => by
      subst e
      obtain ⟨hi, e⟩ := List.getElem?_eq_some_iff.mp hd
      simp at hi e
      obtain ⟨B3, e3, hB3⟩ := sums_turn h h1 hn hB2 (i : Nat)
      exact ⟨_, .inl (by rw [← e]; exact e3), B3, rfl, hB3⟩
  obtain ⟨R, B2, e1, hB2, hR⟩ := lot_ok h1 hn hB1
  obtain ⟨C, B3, e2, hB3, hC⟩ := lot_ok h1 hn hB2
  have hT := h.toTb
  have e3 := sum_over_ok hT hn hR hC
  have p1 := same_int (M48.lotS T R C)
  have r1 := rg1_nat (p := m) (by omega)
  have l2 := fun (d : Option MD) => lot_loop hR hn (tg := gN 14) (fe := e5__law_are_sums_right) (own := [14]) (Γ := [some B3, some (.dat (tabD T)), some (.dat (.int n)), none, some (.dat (lotD R)), some (.dat (lotD C)), none, none, none, none, none, none, none, none, none]) (f := fun i => M48.rowS C (T.getD i [])) fun i hi => by
    have hi' : i < n := by simpa using hR.mem hi
    have x0 := atI_nat (row_at hT hi')
    have rr := rowOk hT hi'
    generalize T.getD i [] = r at *
    have e1 := lot_loop hC hn (tg := gN 13) (fe := e4__law_are_sums_right) (own := [13]) (Γ := [some B3, some (.dat (tabD T)), some (.dat (.int n)), none, some (.dat (lotD R)), some (.dat (lotD C)), none, none, none, none, none, none, none, none, some (.dat (.int i))]) (f := fun c => r.getD c 0) fun c hc => by
      have x1 := atI_nat (colS rr.1 hC hc)
      generalize r.getD c 0 = y at *
      simp [fnOf, fSeq, fNil, fSet, fRet, fDrop, fIf, fFgt, fgtO, fgt, fFor, fIfE, fT, fTru, truD, fAnd, fOr, fNot, fAndV, fOrV, fNotV, fOp2, fVar, fC, fB, fACons, fANil, fTup, fLst, fNeg, gRel, gInt2, gInt2C, gAdd, gMulX_int, gIx, gLen, gAbs, gInt, gEq, gIs, gIsNot, dv_dat, dv_lst, dv_al, dvs, own_dat, own_lst, own_bag, own_dcK, own_scr, flat_dat, flat_lst, Res.fin, frzs_nil, frzs_cons, frz_dat, intT_int, outs, als, argsOf, putArgs, fCall, eqv_int, shp_int, shp_none, shp_bool, noOwn, ownAt, sizeLine_eq, fIter, itemsOf, fRange1, fRange2, eqX_int, eqX_str, fEnumA, fFrz, fNever, permOk, perm, fCallK, fCallP, gMax2, gMin2, gMax3, gMin3, fPar2, fMulti, putM, fAsgG, fLc, lcStep, lsStep, tYesF, gN, gT, gsCons, gsNil, e4__law_are_sums_right, x0, x1]
    have e3 := sum_S C fun c => r.getD c 0
    have e4 : M48.rowS C r = M48.S C fun c => r.getD c 0 := rfl
    rw [← e4] at e3
    generalize C.map (fun c => r.getD c 0) = z at *
    simp [fnOf, fSeq, fNil, fSet, fRet, fDrop, fIf, fFgt, fgtO, fgt, fFor, fIfE, fT, fTru, truD, fAnd, fOr, fNot, fAndV, fOrV, fNotV, fOp2, fVar, fC, fB, fACons, fANil, fTup, fLst, fNeg, gRel, gInt2, gInt2C, gAdd, gMulX_int, gIx, gLen, gAbs, gInt, gEq, gIs, gIsNot, dv_dat, dv_lst, dv_al, dvs, own_dat, own_lst, own_bag, own_dcK, own_scr, flat_dat, flat_lst, Res.fin, frzs_nil, frzs_cons, frz_dat, intT_int, outs, als, argsOf, putArgs, fCall, eqv_int, shp_int, shp_none, shp_bool, noOwn, ownAt, sizeLine_eq, fIter, itemsOf, fRange1, fRange2, eqX_int, eqX_str, fEnumA, fFrz, fNever, permOk, perm, fCallK, fCallP, gMax2, gMin2, gMax3, gMin3, fPar2, fMulti, putM, fAsgG, fLc, lcStep, lsStep, tYesF, gN, gT, gsCons, gsNil, e5__law_are_sums_right, e1, e3]
  have g2 := sum_S R fun i => M48.rowS C (T.getD i [])
  have e4 : M48.lotS T R C = M48.S R fun i => M48.rowS C (T.getD i []) := rfl
  rw [← e4] at g2
  have l3 := l2 none
  refine ⟨B3, ?_, hB3⟩
  generalize R.map (fun i => M48.rowS C (T.getD i [])) = z at *
  generalize M48.lotS T R C = a at *
  simp only [lotD] at *
  generalize natsD R = rd at *
  generalize natsD C = cd at *
  by_cases q : n < 20
  · have q' : (n : Int) < 20 := by omega
    rw [if_pos q] at em
    subst em
    rw [show ((3 : Nat) : Int) = 3 from rfl] at r1
    generalize (List.range 3).map (fun (x : Nat) => PyData.int x) = rr at *
    simp [fnOf, fSeq, fNil, fSet, fRet, fDrop, fIf, fFgt, fgtO, fgt, fFor, fIfE, fT, fTru, truD, fAnd, fOr, fNot, fAndV, fOrV, fNotV, fOp2, fVar, fC, fB, fACons, fANil, fTup, fLst, fNeg, gRel, gInt2, gInt2C, gAdd, gMulX_int, gIx, gLen, gAbs, gInt, gEq, gIs, gIsNot, dv_dat, dv_lst, dv_al, dvs, own_dat, own_lst, own_bag, own_dcK, own_scr, flat_dat, flat_lst, Res.fin, frzs_nil, frzs_cons, frz_dat, intT_int, outs, als, argsOf, putArgs, fCall, eqv_int, shp_int, shp_none, shp_bool, noOwn, ownAt, sizeLine_eq, fIter, itemsOf, fRange1, fRange2, eqX_int, eqX_str, fEnumA, fFrz, fNever, permOk, perm, fCallK, fCallP, gMax2, gMin2, gMax3, gMin3, fPar2, fMulti, putM, fAsgG, fLc, F__law_are_sums_right, hl, q, q', r1, e, hB.own, hB1.own, hB2.own, hB3.own, e1, e2, l3, g2, e3, p1]
  · have q' : ¬ (n : Int) < 20 := by omega
    rw [if_neg q] at em
    subst em
    rw [show ((2 : Nat) : Int) = 2 from rfl] at r1
    generalize (List.range 2).map (fun (x : Nat) => PyData.int x) = rr at *
    simp [fnOf, fSeq, fNil, fSet, fRet, fDrop, fIf, fFgt, fgtO, fgt, fFor, fIfE, fT, fTru, truD, fAnd, fOr, fNot, fAndV, fOrV, fNotV, fOp2, fVar, fC, fB, fACons, fANil, fTup, fLst, fNeg, gRel, gInt2, gInt2C, gAdd, gMulX_int, gIx, gLen, gAbs, gInt, gEq, gIs, gIsNot, dv_dat, dv_lst, dv_al, dvs, own_dat, own_lst, own_bag, own_dcK, own_scr, flat_dat, flat_lst, Res.fin, frzs_nil, frzs_cons, frz_dat, intT_int, outs, als, argsOf, putArgs, fCall, eqv_int, shp_int, shp_none, shp_bool, noOwn, ownAt, sizeLine_eq, fIter, itemsOf, fRange1, fRange2, eqX_int, eqX_str, fEnumA, fFrz, fNever, permOk, perm, fCallK, fCallP, gMax2, gMin2, gMax3, gMin3, fPar2, fMulti, putM, fAsgG, fLc, F__law_are_sums_right, hl, q, q', r1, e, hB.own, hB1.own, hB2.own, hB3.own, e1, e2, l3, g2, e3, p1]
end Lw

end

/-! K48j: squares of rows, errors told -/
noncomputable section
namespace Lw
open PySem PySem.Spec PyProof.Rows L2 Fx

theorem ones_S (r : List Int) : M48.rowS (List.range r.length) r = r.sum := by
  have := M48.S_list r fun x => x
  rw [M48.rowS, ← this]
  simp [M48.S]
theorem square_turn {n i : Nat} {T : M48.Tab} (h : M48.Had n T) (hn : n ≤ 64) (hi : i < n) (s : Int) :
    lsStep (gN 3) b1__law_are_rows_square (.int (i : Nat)) [some (.dat (tabD T)), some (.dat (.int n)), some (.dat (.int s)), none, none] =
      some (.nx [some (.dat (tabD T)), some (.dat (.int n)), some (.dat (.int (s + M48.rowS (List.range n) (T.getD i []) * M48.rowS (List.range n) (T.getD i [])))), none, none]) := by
  have hT := h.toTb
  have hR : [i].Sublist (List.range n) := by simpa using hi
  have e1 := sum_over_ok hT hn hR (List.Sublist.refl (List.range n))
  have e2 : M48.lotS T [i] (List.range n) = M48.rowS (List.range n) (T.getD i []) := by simp [M48.lotS]
  have w := M48.lindsey h hR (List.Sublist.refl (List.range n))
  have m := sq_ok w (bound3 hn (lot_len hR) (lot_len (List.Sublist.refl (List.range n))))
  rw [e2] at e1 m
  have rr := rowOk hT hi
  have x0 := atI_nat (row_at hT hi)
  have g := gSumA_tuple (T.getD i [])
  have e3 := ones_S (T.getD i [])
  rw [rr.1] at e3
  rw [← e3] at g
  have p1 := same_int (M48.rowS (List.range n) (T.getD i []))
  generalize M48.rowS (List.range n) (T.getD i []) = a at *
  generalize T.getD i [] = r at *
  have r1 := rgA_nat (p := n) (by omega)
  have e5 : lotD [i] = .tuple [.int i] := rfl
  rw [e5] at e1
  simp only [lotD, natsD] at e1
  generalize ((List.range n).map fun (x : Nat) => PyData.int x) = q at *
  simp [fnOf, fSeq, fNil, fSet, fRet, fDrop, fIf, fFgt, fgtO, fgt, fFor, fIfE, fT, fTru, truD, fAnd, fOr, fNot, fAndV, fOrV, fNotV, fOp2, fVar, fC, fB, fACons, fANil, fTup, fLst, fNeg, gRel, gInt2, gInt2C, gAdd, gMulX_int, gIx, gLen, gAbs, gInt, gEq, gIs, gIsNot, dv_dat, dv_lst, dv_al, dvs, own_dat, own_lst, own_bag, own_dcK, own_scr, flat_dat, flat_lst, Res.fin, frzs_nil, frzs_cons, frz_dat, intT_int, outs, als, argsOf, putArgs, fCall, eqv_int, shp_int, shp_none, shp_bool, noOwn, ownAt, sizeLine_eq, fIter, itemsOf, fRange1, fRange2, eqX_int, eqX_str, fEnumA, fFrz, fNever, permOk, perm, fCallK, fCallP, gMax2, gMin2, gMax3, gMin3, fPar2, fMulti, putM, fAsgG, fLc, lcStep, lsStep, tYesF, gN, gT, gsCons, gsNil, b1__law_are_rows_square, fTupR1, r1, e1, x0, g, p1, m]
theorem rows_square_ok {n : Nat} {T : M48.Tab} (h : M48.Had n T) (hn : n ≤ 64) : F__law_are_rows_square [.dat (tabD T)] = some (.dat (.bool true), [none]) := by
  have e1 := loopS_foldI (tg := gN 3) (b := b1__law_are_rows_square) (g := fun (i : Nat) => PyData.int i) (st := fun s : Int => [some (.dat (tabD T)), some (.dat (.int n)), some (.dat (.int s)), none, none]) (f := fun s i => s + M48.rowS (List.range n) (T.getD i []) * M48.rowS (List.range n) (T.getD i [])) (fun _ => True) (List.range n) 0 trivial fun x hx s _ => ⟨square_turn h hn (List.mem_range.mp hx) s, trivial⟩
  have e2 : ∀ (l : List Nat) (s : Int), l.foldl (fun s i => s + M48.rowS (List.range n) (T.getD i []) * M48.rowS (List.range n) (T.getD i [])) s = s + M48.S l fun i => M48.rowS (List.range n) (T.getD i []) * M48.rowS (List.range n) (T.getD i []) := by
    intro l
    induction l with
    | nil => intro s; simp
    | cons a l ih => intro s; rw [List.foldl_cons, ih, M48.S_cons]; omega
  have e3 := M48.squares h (C := List.range n) List.nodup_range (by simp)
  rw [M48.S_tab h.len fun r => M48.rowS (List.range n) r * M48.rowS (List.range n) r, List.length_range] at e3
  have e4 := e1.1
  rw [e2, e3, Int.zero_add] at e4
  have r1 := rg1_nat (p := n) (by omega)
  have m := na_ok hn (Nat.le_refl n)
  have hl := h.len
  simp [fnOf, fSeq, fNil, fSet, fRet, fDrop, fIf, fFgt, fgtO, fgt, fFor, fIfE, fT, fTru, truD, fAnd, fOr, fNot, fAndV, fOrV, fNotV, fOp2, fVar, fC, fB, fACons, fANil, fTup, fLst, fNeg, gRel, gInt2, gInt2C, gAdd, gMulX_int, gIx, gLen, gAbs, gInt, gEq, gIs, gIsNot, dv_dat, dv_lst, dv_al, dvs, own_dat, own_lst, own_bag, own_dcK, own_scr, flat_dat, flat_lst, Res.fin, frzs_nil, frzs_cons, frz_dat, intT_int, outs, als, argsOf, putArgs, fCall, eqv_int, shp_int, shp_none, shp_bool, noOwn, ownAt, sizeLine_eq, fIter, itemsOf, fRange1, fRange2, eqX_int, eqX_str, fEnumA, fFrz, fNever, permOk, perm, fCallK, fCallP, gMax2, gMin2, gMax3, gMin3, fPar2, fMulti, putM, fAsgG, fLc, F__law_are_rows_square, hl, r1, e4, m]

/-! ### is_error, put -/
theorem is_error_ok {d e : PyData} {n : Nat} (h : F_table_error [.dat d] = some (.dat e, [none])) (hp : Plain n e) (hn : n ≤ 8) (b : Bool) : F__law_is_error [.dat d, .dat e, .dat (.bool b)] = some (.dat (.bool true), [none, none, none]) := by
  have p := same8 hp hn
  cases b with
  | true => simp [fnOf, fSeq, fNil, fSet, fRet, fDrop, fIf, fFgt, fgtO, fgt, fFor, fIfE, fT, fTru, truD, fAnd, fOr, fNot, fAndV, fOrV, fNotV, fOp2, fVar, fC, fB, fACons, fANil, fTup, fLst, fNeg, gRel, gInt2, gInt2C, gAdd, gMulX_int, gIx, gLen, gAbs, gInt, gEq, gIs, gIsNot, dv_dat, dv_lst, dv_al, dvs, own_dat, own_lst, own_bag, own_dcK, own_scr, flat_dat, flat_lst, Res.fin, frzs_nil, frzs_cons, frz_dat, intT_int, outs, als, argsOf, putArgs, fCall, eqv_int, shp_int, shp_none, shp_bool, noOwn, ownAt, sizeLine_eq, fIter, itemsOf, fRange1, fRange2, eqX_int, eqX_str, fEnumA, fFrz, fNever, permOk, perm, fCallK, fCallP, gMax2, gMin2, gMax3, gMin3, fPar2, fMulti, putM, fAsgG, fLc, F__law_is_error, h, p]
  | false => simp [fnOf, fSeq, fNil, fSet, fRet, fDrop, fIf, fFgt, fgtO, fgt, fFor, fIfE, fT, fTru, truD, fAnd, fOr, fNot, fAndV, fOrV, fNotV, fOp2, fVar, fC, fB, fACons, fANil, fTup, fLst, fNeg, gRel, gInt2, gInt2C, gAdd, gMulX_int, gIx, gLen, gAbs, gInt, gEq, gIs, gIsNot, dv_dat, dv_lst, dv_al, dvs, own_dat, own_lst, own_bag, own_dcK, own_scr, flat_dat, flat_lst, Res.fin, frzs_nil, frzs_cons, frz_dat, intT_int, outs, als, argsOf, putArgs, fCall, eqv_int, shp_int, shp_none, shp_bool, noOwn, ownAt, sizeLine_eq, fIter, itemsOf, fRange1, fRange2, eqX_int, eqX_str, fEnumA, fFrz, fNever, permOk, perm, fCallK, fCallP, gMax2, gMin2, gMax3, gMin3, fPar2, fMulti, putM, fAsgG, fLc, F__law_is_error, h, p]
theorem put_ok {ds : List PyData} {i : Nat} (hi : i < ds.length) (hl : ds.length ≤ 1000) (d : PyData) : F__law_put [.dat (.tuple ds), .dat (.int i), .dat d] = some (.dat (.tuple (ds.set i d)), [none, none, none]) := by
  have c1 := cut_to ds i (by omega)
  have c2 := cut_from ds (i + 1) (by omega)
  rw [show ((i + 1 : Nat) : Int) = (i : Int) + 1 by omega] at c2
  have e : ds.set i d = ds.take i ++ d :: ds.drop (i + 1) := List.set_eq_take_append_cons_drop ▸ by simp [hi]
  have h1 : (ds.take i).length + 1 ≤ 16777216 := by simp; omega
  have h2 : (ds.take i).length + 1 + (ds.drop (i + 1)).length ≤ 16777216 := by simp; omega
  rw [e]
  generalize ds.take i = u at *
  generalize ds.drop (i + 1) = w at *
  simp [fnOf, fSeq, fNil, fSet, fRet, fDrop, fIf, fFgt, fgtO, fgt, fFor, fIfE, fT, fTru, truD, fAnd, fOr, fNot, fAndV, fOrV, fNotV, fOp2, fVar, fC, fB, fACons, fANil, fTup, fLst, fNeg, gRel, gInt2, gInt2C, gAdd, gMulX_int, gIx, gLen, gAbs, gInt, gEq, gIs, gIsNot, dv_dat, dv_lst, dv_al, dvs, own_dat, own_lst, own_bag, own_dcK, own_scr, flat_dat, flat_lst, Res.fin, frzs_nil, frzs_cons, frz_dat, intT_int, outs, als, argsOf, putArgs, fCall, eqv_int, shp_int, shp_none, shp_bool, noOwn, ownAt, sizeLine_eq, fIter, itemsOf, fRange1, fRange2, eqX_int, eqX_str, fEnumA, fFrz, fNever, permOk, perm, fCallK, fCallP, gMax2, gMin2, gMax3, gMin3, fPar2, fMulti, putM, fAsgG, fLc, F__law_put, fSlice, fONo, fOSo, dvS, gSl, c1, c2, h1, h2]
end Lw

end

/-! K48k: what is no table -/
noncomputable section
namespace Lw
open PySem PySem.Spec PyProof.Rows L2 Fx

theorem seq_nx {a b : FS} {Γ Γ1 : Gm} (h : a Γ = some (.nx Γ1)) : fSeq a b Γ = b Γ1 := by simp [fSeq, h]
/-- rows of a table, as data -/
structure Rows (n : Nat) (ds : List PyData) : Prop where
  len : ds.length = n
  dec : ∀ d ∈ ds, Dec d
theorem Rows.set {n i : Nat} {ds : List PyData} (h : Rows n ds) {d : PyData} (hd : Dec d) : Rows n (ds.set i d) := ⟨by rw [List.length_set]; exact h.len, fun x hx => by
  rcases List.mem_or_eq_of_mem_set hx with q | q
  · exact h.dec x q
  · rw [q]; exact hd⟩
theorem bad_set {n i : Nat} {ds : List PyData} (h : Rows n ds) (hn : n ≤ 64) (hi : i < n) {d : PyData} (hd : Dec d) (hs : sgRow n d = false) : Bad (.tuple (ds.set i d)) := by
  have hR := h.set (i := i) hd
  refine ⟨by rw [hR.len, sizeLine_eq]; omega, hR.dec, fun _ _ => ?_⟩
  rw [List.all_eq_false]
  refine ⟨d, ?_, by rw [hR.len, hs]; simp⟩
  have : (ds.set i d)[i]? = some d := by rw [List.getElem?_set]; simp [h.len, hi]
  exact List.mem_of_getElem? this
theorem bad_rows {m : Nat} {ds : List PyData} (h : Rows m ds) (hm : m ≤ 64) (hs : 1 ≤ m → ∃ d ∈ ds, sgRow m d = false) : Bad (.tuple ds) := by
  refine ⟨by rw [h.len, sizeLine_eq]; omega, h.dec, fun q _ => ?_⟩
  rw [h.len] at q ⊢
  obtain ⟨d, hd, e⟩ := hs q
  rw [List.all_eq_false]
  exact ⟨d, hd, by rw [e]; simp⟩
theorem row_put {n k : Nat} {r : List Int} (hr : r.length = n) (hk : k < n) (hn : n ≤ 64) {d : PyData} (hd : sgItem d = false) :
    sgRow n (.tuple ((r.map PyData.int).take k ++ d :: (r.map PyData.int).drop (k + 1))) = false ∧ Dec (.tuple ((r.map PyData.int).take k ++ d :: (r.map PyData.int).drop (k + 1))) := by
  constructor
  · simp only [sgRow]
    rw [List.all_append, List.all_cons, hd]
    simp
  · simp [Dec, sizeLine_eq]; omega
theorem row_cut {n k : Nat} {r : List Int} (hr : r.length = n) (hk : k < n) (hn : n ≤ 64) :
    sgRow n (.tuple ((r.map PyData.int).take k ++ (r.map PyData.int).drop (k + 1))) = false ∧ Dec (.tuple ((r.map PyData.int).take k ++ (r.map PyData.int).drop (k + 1))) := by
  constructor
  · have : ¬ ((r.map PyData.int).take k ++ (r.map PyData.int).drop (k + 1)).length = n := by simp; omega
    simp only [sgRow, decide_eq_false this, Bool.false_and]
  · simp [Dec, sizeLine_eq]; omega
theorem row_more {n : Nat} {r : List Int} (hr : r.length = n) (hn : n ≤ 64) (d : PyData) :
    sgRow n (.tuple (r.map PyData.int ++ [d])) = false ∧ Dec (.tuple (r.map PyData.int ++ [d])) := by
  constructor
  · have : ¬ (r.map PyData.int ++ [d]).length = n := by simp; omega
    simp only [sgRow, decide_eq_false this, Bool.false_and]
  · simp [Dec, sizeLine_eq]; omega
theorem tab_rows {n : Nat} {T : M48.Tab} (h : M48.Tb n T) (hn : n ≤ 64) : Rows n (T.map rowD) := ⟨by rw [List.length_map, h.len], fun d hd => by
  obtain ⟨r, hr, rfl⟩ := List.mem_map.mp hd
  have := (h.row r hr).1
  simp [Dec, sizeLine_eq, this]; omega⟩
theorem bad_less {n i : Nat} {T : M48.Tab} (h : M48.Tb n T) (hn : n ≤ 64) (hi : i < n) : Bad (.tuple ((T.map rowD).take i ++ (T.map rowD).drop (i + 1))) := by
  have hl := h.len
  have hR := tab_rows h hn
  refine bad_rows (m := n - 1) ⟨by simp; omega, fun d hd => ?_⟩ (by omega) fun q => ?_
  · rcases List.mem_append.mp hd with q | q
    · exact hR.dec d (List.mem_of_mem_take q)
    · exact hR.dec d (List.mem_of_mem_drop q)
  · have : ((T.map rowD).take i ++ (T.map rowD).drop (i + 1)) ≠ [] := fun e => by
      have h1 : ((T.map rowD).take i ++ (T.map rowD).drop (i + 1)).length = n - 1 := by simp; omega
      rw [e, List.length_nil] at h1
      omega
    obtain ⟨d, l, e⟩ := List.exists_cons_of_ne_nil this
    refine ⟨d, by rw [e]; exact List.mem_cons_self, ?_⟩
    have hd : d ∈ T.map rowD := by
      have : d ∈ (T.map rowD).take i ++ (T.map rowD).drop (i + 1) := by rw [e]; exact List.mem_cons_self
      rcases List.mem_append.mp this with q | q
      · exact List.mem_of_mem_take q
      · exact List.mem_of_mem_drop q
    obtain ⟨r, hr, rfl⟩ := List.mem_map.mp hd
    have hrl := (h.row r hr).1
    have : ¬ (r.map PyData.int).length = n - 1 := by simp; omega
    simp only [sgRow, decide_eq_false this, Bool.false_and]
theorem bad_plus {n : Nat} {T : M48.Tab} (h : M48.Tb n T) (hn : n ≤ 32) {r : List Int} (hr : r.length = n) : Bad (.tuple (T.map rowD ++ [rowD r])) := by
  have hR := tab_rows h (by omega)
  have hr' : ¬ (r.map PyData.int).length = n + 1 := by simp; omega
  refine bad_rows (m := n + 1) ⟨by simp [h.len], fun d hd => ?_⟩ (by omega) fun q => ⟨rowD r, by simp, by simp only [sgRow, decide_eq_false hr', Bool.false_and]⟩
  rcases List.mem_append.mp hd with q | q
  · exact hR.dec d q
  · rw [List.mem_singleton] at q
    subst q
    simp [Dec, sizeLine_eq, hr]; omega
def Wf0 : FS := (fSet 2 2 (fB gLen false (fACons (fVar 1) fANil)))
def Wf1 : FS := (fPar2 2 3 4 (fCall F__law_pick (fACons (fVar 0) (fACons (fLst false (fACons (fOp2 gSub false (fVar 2) (fC (.int 1))) (fACons (fCall F__law_draw (fACons (fVar 0) (fACons (fVar 2) fANil))) fANil))) fANil))) (fCall F__law_pick (fACons (fVar 0) (fACons (fLst false (fACons (fOp2 gSub false (fVar 2) (fC (.int 1))) (fACons (fCall F__law_draw (fACons (fVar 0) (fACons (fVar 2) fANil))) fANil))) fANil))))
def Wf2 : FS := (fPar2 2 5 6 (fOp2 gIx false (fVar 1) (fVar 3)) (fLst true fANil))
def Wf3 : FS := (fSet 2 7 (fCall F__law_pick (fACons (fVar 0) (fACons (fLst false (fACons (fC (.int 0)) (fACons (fC (.int 2)) (fACons (fNeg (fC (.int 2))) (fACons (fC .none) (fACons (fC (.str "1")) (fACons (fTup (fACons (fC (.int 1)) fANil)) (fACons (fC (.int 3)) (fACons (fOp2 gPow false (fC (.int 10)) (fC (.int 30))) fANil))))))))) fANil))))
def Wf4 : FS := (fFor (fIter (fLst false (fACons (fVar 7) (fACons (fC (.bool true)) (fACons (fOp2 gMulX false (fOp2 gIx false (fVar 5) (fVar 4)) (fC (.int 3))) fANil))))) (gN 8) b1__law_are_forms_told)
def Wf5 : FS := (fSet 2 9 (fOp2 gMulX false (fSlice false (fVar 1) fONo (fOSo (fC (.int 1)))) (fVar 2)))
def Wf6 : FS := (fDrop (fAppend 6 (fCall F__law_put (fACons (fVar 9) (fACons (fVar 3) (fACons (fOp2 gAdd false (fOp2 gAdd false (fSlice false (fVar 5) fONo (fOSo (fVar 4))) (fTup (fACons (fCall F__law_pick (fACons (fVar 0) (fACons (fLst false (fACons (fC (.bool true)) (fACons (fC (.int 0)) (fACons (fC .none) fANil)))) fANil))) fANil))) (fSlice false (fVar 5) (fOSo (fOp2 gAdd false (fVar 4) (fC (.int 1)))) fONo)) fANil))))))
def Wf7 : FS := (fDrop (fAppend 6 (fCall F__law_put (fACons (fVar 1) (fACons (fVar 3) (fACons (fOp2 gAdd false (fSlice false (fVar 5) fONo (fOSo (fVar 4))) (fSlice false (fVar 5) (fOSo (fOp2 gAdd false (fVar 4) (fC (.int 1)))) fONo)) fANil))))))
def Wf8 : FS := (fDrop (fAppend 6 (fCall F__law_put (fACons (fVar 1) (fACons (fVar 3) (fACons (fOp2 gAdd false (fVar 5) (fTup (fACons (fCall F__law_pick (fACons (fVar 0) (fACons (fLst false (fACons (fC (.int 1)) (fACons (fNeg (fC (.int 1))) (fACons (fC (.int 0)) fANil)))) fANil))) fANil))) fANil))))))
def Wf9 : FS := (fDrop (fAppend 6 (fCall F__law_put (fACons (fVar 1) (fACons (fVar 3) (fACons (fB gToL false (fACons (fVar 5) fANil)) fANil))))))
def Wf10 : FS := (fDrop (fAppend 6 (fOp2 gAdd false (fSlice false (fVar 1) fONo (fOSo (fVar 3))) (fSlice false (fVar 1) (fOSo (fOp2 gAdd false (fVar 3) (fC (.int 1)))) fONo))))
def Wf11 : FS := (fDrop (fAppend 6 (fOp2 gAdd false (fVar 1) (fTup (fACons (fVar 5) fANil)))))
def Wf12 : FS := (fDrop (fAppend 6 (fB gToL false (fACons (fVar 1) fANil))))
def Wf13 : FS := (fDrop (fAppend 6 (fCall F__law_pick (fACons (fVar 0) (fACons (fLst false (fACons (fC .none) (fACons (fTup fANil) (fACons (fTup (fACons (fTup fANil) fANil)) (fACons (fC (.int 1)) (fACons (fC (.bool true)) (fACons (fC (.str "1")) (fACons (fTup (fACons (fC (.int 1)) fANil)) (fACons (fFrzE (fDOne (fC (.int 0)) (fTup (fACons (fC (.int 1)) fANil)))) (fACons (fTup (fACons (fC .none) fANil)) (fACons (fTup (fACons (fTup (fACons (fC (.int 1)) (fACons (fC (.int 1)) fANil))) fANil)) (fACons (fTup (fACons (fLst false (fACons (fC (.int 1)) fANil)) fANil)) fANil)))))))))))) fANil)))))
def Wf14 : FS := (fDrop (fAppend 6 (fCall F__law_pick (fACons (fVar 0) (fACons (fLst false (fACons (fTup (fACons (fTup (fACons (fC (.bool true)) fANil)) fANil)) (fACons (fTup (fACons (fTup (fACons (fC (.int 0)) fANil)) fANil)) (fACons (fTup (fACons (fTup (fACons (fC (.int 1)) fANil)) (fACons (fTup (fACons (fC (.int 1)) fANil)) fANil))) (fACons (fTup (fACons (fTup (fACons (fC (.int 1)) (fACons (fC (.int 1)) fANil))) fANil)) (fACons (fTup (fACons (fTup (fACons (fTup (fACons (fC (.int 1)) fANil)) fANil)) fANil)) (fACons (fTup (fACons (fTup (fACons (fC (.str "1")) fANil)) fANil)) (fACons (fTup (fACons (fTup (fACons (fC (.int 2)) fANil)) fANil)) fANil)))))))) fANil)))))
def Wf15 : FS := (fIf (fT (fOp2 (gEqX false) false (fCall F__law_draw (fACons (fVar 0) (fACons (fC (.int 4)) fANil))) (fC (.int 0)))) (fDrop (fAppend 6 (fCall F__law_pick (fACons (fVar 0) (fACons (fLst false (fACons (fOp2 gMulX false (fTup (fACons (fOp2 gMulX false (fTup (fACons (fC (.int 1)) fANil)) (fC (.int 33))) fANil)) (fC (.int 33))) (fACons (fCall F__law_doubled (fACons (fC (.int 6)) fANil)) fANil))) fANil))))) fNil)
def Wf16 : FS := (fFrz 6 (fSeq (fFor (fIter (fVar 6)) (gN 10) b2__law_are_forms_told) (fSeq (fSet 2 5 (fB gToL false (fACons (fOp2 gIx false (fVar 1) (fC (.int 0))) fANil))) (fSeq (fSet 2 11 (fB gToL false (fACons (fVar 5) fANil))) (fRet 2 true (fAndV (fCall F__law_is_error (fACons (fLst false (fACons (fVar 5) fANil)) (fACons (fC (.str "form")) (fACons (fC (.bool false)) fANil)))) (fAndV (fOp2 (gEqX false) false (fVar 5) (fVar 11)) (fAndV (fCall F__law_is_error (fACons (fTup (fACons (fVar 5) fANil)) (fACons (fC (.str "form")) (fACons (fC (.bool true)) fANil)))) (fOp2 (gEqX false) false (fVar 5) (fVar 11))))))))))
theorem Wf_is : F__law_are_forms_told = fnOf 2 12 (fSeq Wf0 (fSeq Wf1 (fSeq Wf2 (fSeq Wf3 (fSeq Wf4 (fSeq Wf5 (fSeq Wf6 (fSeq Wf7 (fSeq Wf8 (fSeq Wf9 (fSeq Wf10 (fSeq Wf11 (fSeq Wf12 (fSeq Wf13 (fSeq Wf14 (fSeq Wf15 Wf16)))))))))))))))) := rfl
end Lw

end

/-! K48l: what is no table is told so -/
noncomputable section
namespace Lw
open PySem PySem.Spec PyProof.Rows L2 Fx

abbrev Gf (B : MD) (ds : List PyData) (n i k : Nat) (rd : List PyData) (A : List PyData) (o s : Option MD) : Gm := [some B, some (.dat (.tuple ds)), some (.dat (.int n)), some (.dat (.int i)), some (.dat (.int k)), some (.dat (.tuple rd)), some (.lst A), o, none, s, none, none]
theorem pick_ix {n : Nat} (h1 : 1 ≤ n) (hn : n ≤ 64) {B : MD} (hB : BagOk B) : ∃ (v i : Nat) (B1 B2 : MD), F__law_draw [B, .dat (.int n)] = some (.dat (.int v), [some B1, none]) ∧ F__law_pick [B1, .dat (.list [.int ((n : Int) - 1), .int v])] = some (.dat (.int i), [some B2, none]) ∧ BagOk B1 ∧ BagOk B2 ∧ i < n := by
  obtain ⟨v, B1, e1, hB1, hv⟩ := drawN hB (n := n) (by omega) (by omega)
  obtain ⟨d, B2, e2, hB2, hd⟩ := pick hB1 (ds := [.int ((n : Int) - 1), .int v]) (by simp) (by simp)
  simp only [List.mem_cons, List.not_mem_nil, or_false] at hd
  rcases hd with rfl | rfl
  · refine ⟨v, n - 1, B1, B2, e1, ?_, hB1, hB2, by omega⟩
    rw [e2, show ((n - 1 : Nat) : Int) = (n : Int) - 1 by omega]
  · exact ⟨v, v, B1, B2, e1, e2, hB1, hB2, hv⟩
theorem wf1_ok {n : Nat} (h1 : 1 ≤ n) (hn : n ≤ 64) {ds : List PyData} {B : MD} (hB : BagOk B) : ∃ (i k : Nat) (B' : MD), Wf1 [some B, some (.dat (.tuple ds)), some (.dat (.int n)), none, none, none, none, none, none, none, none, none] = some (.nx [some B', some (.dat (.tuple ds)), some (.dat (.int n)), some (.dat (.int i)), some (.dat (.int k)), none, none, none, none, none, none, none]) ∧ BagOk B' ∧ i < n ∧ k < n := by
  obtain ⟨v, i, B1, B2, e1, e2, hB1, hB2, hi⟩ := pick_ix h1 hn hB
  obtain ⟨w, k, B3, B4, e3, e4, hB3, hB4, hk⟩ := pick_ix h1 hn hB2
  refine ⟨i, k, B4, ?_, hB4, hi, hk⟩
  simp [fnOf, fSeq, fNil, fSet, fRet, fDrop, fIf, fFgt, fgtO, fgt, fFor, fIfE, fT, fTru, truD, fAnd, fOr, fNot, fAndV, fOrV, fNotV, fOp2, fVar, fC, fB, fACons, fANil, fTup, fLst, fNeg, gRel, gInt2, gInt2C, gAdd, gMulX_int, gIx, gLen, gAbs, gInt, gEq, gIs, gIsNot, dv_dat, dv_lst, dv_al, dvs, own_dat, own_lst, own_bag, own_dcK, own_scr, flat_dat, flat_lst, Res.fin, frzs_nil, frzs_cons, frz_dat, intT_int, outs, als, argsOf, putArgs, fCall, eqv_int, shp_int, shp_none, shp_bool, noOwn, ownAt, sizeLine_eq, fIter, itemsOf, fRange1, fRange2, eqX_int, eqX_str, fEnumA, fFrz, fNever, permOk, perm, fCallK, fCallP, gMax2, gMin2, gMax3, gMin3, fPar2, fMulti, putM, fAsgG, fLc, Wf1, hB.own, hB1.own, hB2.own, hB3.own, hB4.own, e1, e2, e3, e4]
theorem wf2_ok {n i k : Nat} {ds rd : List PyData} {B : MD} (hB : BagOk B) (e : ds[i]? = some (.tuple rd)) : Wf2 [some B, some (.dat (.tuple ds)), some (.dat (.int n)), some (.dat (.int i)), some (.dat (.int k)), none, none, none, none, none, none, none] = some (.nx (Gf B ds n i k rd [] none none)) := by
  have x := atI_nat e
  simp [fnOf, fSeq, fNil, fSet, fRet, fDrop, fIf, fFgt, fgtO, fgt, fFor, fIfE, fT, fTru, truD, fAnd, fOr, fNot, fAndV, fOrV, fNotV, fOp2, fVar, fC, fB, fACons, fANil, fTup, fLst, fNeg, gRel, gInt2, gInt2C, gAdd, gMulX_int, gIx, gLen, gAbs, gInt, gEq, gIs, gIsNot, dv_dat, dv_lst, dv_al, dvs, own_dat, own_lst, own_bag, own_dcK, own_scr, flat_dat, flat_lst, Res.fin, frzs_nil, frzs_cons, frz_dat, intT_int, outs, als, argsOf, putArgs, fCall, eqv_int, shp_int, shp_none, shp_bool, noOwn, ownAt, sizeLine_eq, fIter, itemsOf, fRange1, fRange2, eqX_int, eqX_str, fEnumA, fFrz, fNever, permOk, perm, fCallK, fCallP, gMax2, gMin2, gMax3, gMin3, fPar2, fMulti, putM, fAsgG, fLc, Wf2, hB.own, x]
def oddL : List PyData := [.int 0, .int 2, .int (-2), .none, .str "1", .tuple [.int 1], .int 3, .int 1000000000000000000000000000000]
theorem wf3_ok {n i k : Nat} {ds rd A : List PyData} {B : MD} (hB : BagOk B) : ∃ (d : PyData) (B' : MD), Wf3 (Gf B ds n i k rd A none none) = some (.nx (Gf B' ds n i k rd A (some (.dat d)) none)) ∧ BagOk B' ∧ sgItem d = false := by
  obtain ⟨d, B', e, hB', hd⟩ := pick hB (ds := oddL) (by simp [oddL]) (by simp [oddL])
  refine ⟨d, B', ?_, hB', ?_⟩
  · have e' : F__law_pick [B, .dat (.list [.int 0, .int 2, .int (-2), .none, .str "1", .tuple [.int 1], .int 3, .int 1000000000000000000000000000000])] = some (.dat d, [some B', none]) := e
    have p : powOk 10 30 = true := by decide
    simp [fnOf, fSeq, fNil, fSet, fRet, fDrop, fIf, fFgt, fgtO, fgt, fFor, fIfE, fT, fTru, truD, fAnd, fOr, fNot, fAndV, fOrV, fNotV, fOp2, fVar, fC, fB, fACons, fANil, fTup, fLst, fNeg, gRel, gInt2, gInt2C, gAdd, gMulX_int, gIx, gLen, gAbs, gInt, gEq, gIs, gIsNot, dv_dat, dv_lst, dv_al, dvs, own_dat, own_lst, own_bag, own_dcK, own_scr, flat_dat, flat_lst, Res.fin, frzs_nil, frzs_cons, frz_dat, intT_int, outs, als, argsOf, putArgs, fCall, eqv_int, shp_int, shp_none, shp_bool, noOwn, ownAt, sizeLine_eq, fIter, itemsOf, fRange1, fRange2, eqX_int, eqX_str, fEnumA, fFrz, fNever, permOk, perm, fCallK, fCallP, gMax2, gMin2, gMax3, gMin3, fPar2, fMulti, putM, fAsgG, fLc, Wf3, hB.own, hB'.own, e', p]
  · simp only [oddL, List.mem_cons, List.not_mem_nil, or_false] at hd
    rcases hd with rfl | rfl | rfl | rfl | rfl | rfl | rfl | rfl <;> rfl
theorem cutr {rd : List PyData} {k : Nat} (hk : k < rd.length) : cutL rd none (some (k : Int)) = rd.take k ∧ cutL rd (some ((k : Int) + 1)) none = rd.drop (k + 1) := by
  have c2 := cut_from rd (k + 1) (by omega)
  rw [show ((k + 1 : Nat) : Int) = (k : Int) + 1 by omega] at c2
  exact ⟨cut_to rd k (by omega), c2⟩
theorem wf4_step {n i k : Nat} {ds rd A : List PyData} {B : MD} (hB : BagOk B) (hi : i < ds.length) (hk : k < rd.length) (hd : ds.length ≤ 100) (hr : rd.length ≤ 100) (hA : A.length < 1000) (o s : Option MD) (x : PyData) :
    lsStep (gN 8) b1__law_are_forms_told x (Gf B ds n i k rd A o s) = some (.nx (Gf B ds n i k rd (A ++ [.tuple (ds.set i (.tuple (rd.take k ++ x :: rd.drop (k + 1))))]) o s)) := by
  obtain ⟨c1, c2⟩ := cutr hk
  have p := put_ok hi (by omega) (.tuple (rd.take k ++ x :: rd.drop (k + 1)))
  have l1 : (rd.take k).length + 1 ≤ 16777216 := by simp; omega
  have l2 : (rd.take k).length + 1 + (rd.drop (k + 1)).length ≤ 16777216 := by simp; omega
  have l3 : A.length < 16777216 := by omega
  generalize rd.take k = u at *
  generalize rd.drop (k + 1) = w at *
  simp [fnOf, fSeq, fNil, fSet, fRet, fDrop, fIf, fFgt, fgtO, fgt, fFor, fIfE, fT, fTru, truD, fAnd, fOr, fNot, fAndV, fOrV, fNotV, fOp2, fVar, fC, fB, fACons, fANil, fTup, fLst, fNeg, gRel, gInt2, gInt2C, gAdd, gMulX_int, gIx, gLen, gAbs, gInt, gEq, gIs, gIsNot, dv_dat, dv_lst, dv_al, dvs, own_dat, own_lst, own_bag, own_dcK, own_scr, flat_dat, flat_lst, Res.fin, frzs_nil, frzs_cons, frz_dat, intT_int, outs, als, argsOf, putArgs, fCall, eqv_int, shp_int, shp_none, shp_bool, noOwn, ownAt, sizeLine_eq, fIter, itemsOf, fRange1, fRange2, eqX_int, eqX_str, fEnumA, fFrz, fNever, permOk, perm, fCallK, fCallP, gMax2, gMin2, gMax3, gMin3, fPar2, fMulti, putM, fAsgG, fLc, lcStep, lsStep, tYesF, gN, gT, gsCons, gsNil, b1__law_are_forms_told, hB.own, fSlice, fONo, fOSo, dvS, gSl, c1, c2, l1, l2, l3, p, fAppend, lstS]
theorem wf4_ok {n i k : Nat} {ds A : List PyData} {r : List Int} {B : MD} (hB : BagOk B) (hi : i < ds.length) (hk : k < r.length) (hd : ds.length ≤ 100) (hr : r.length ≤ 100) (hs : M48.Sg r) (hA : A.length < 900) (d : PyData) (s : Option MD) :
    ∃ y : Int, (y = 3 ∨ y = -3) ∧ Wf4 (Gf B ds n i k (r.map .int) A (some (.dat d)) s) = some (.nx (Gf B ds n i k (r.map .int) (A ++ [.tuple (ds.set i (.tuple ((r.map .int).take k ++ d :: (r.map .int).drop (k + 1)))), .tuple (ds.set i (.tuple ((r.map .int).take k ++ .bool true :: (r.map .int).drop (k + 1)))), .tuple (ds.set i (.tuple ((r.map .int).take k ++ .int y :: (r.map .int).drop (k + 1))))]) (some (.dat d)) s)) := by
  have hs1 := hs.get hk
  have ek : (r.map PyData.int)[k]? = some (.int (r.getD k 0)) := by
    rw [List.getElem?_map, List.getElem?_eq_getElem hk, List.getD_eq_getElem?_getD, List.getElem?_eq_getElem hk]; rfl
  generalize r.getD k 0 = z at *
  refine ⟨z * 3, by omega, ?_⟩
  have hrl : (r.map PyData.int).length = r.length := List.length_map _
  generalize r.map PyData.int = rd at *
  have s1 := wf4_step (n := n) (i := i) (k := k) (ds := ds) (rd := rd) (A := A) hB hi (by omega) hd (by omega) (by omega) (some (.dat d)) s d
  have s2 := wf4_step (n := n) (i := i) (k := k) (ds := ds) (rd := rd) (A := A ++ [.tuple (ds.set i (.tuple (rd.take k ++ d :: rd.drop (k + 1))))]) hB hi (by omega) hd (by omega) (by simp; omega) (some (.dat d)) s (.bool true)
  have s3 := wf4_step (n := n) (i := i) (k := k) (ds := ds) (rd := rd) (A := A ++ [.tuple (ds.set i (.tuple (rd.take k ++ d :: rd.drop (k + 1))))] ++ [.tuple (ds.set i (.tuple (rd.take k ++ .bool true :: rd.drop (k + 1))))]) hB hi (by omega) hd (by omega) (by simp; omega) (some (.dat d)) s (.int (z * 3))
  have e : loopS (gN 8) b1__law_are_forms_told [d, .bool true, .int (z * 3)] (Gf B ds n i k rd A (some (.dat d)) s) = some (.nx (Gf B ds n i k rd (A ++ [.tuple (ds.set i (.tuple (rd.take k ++ d :: rd.drop (k + 1))))] ++ [.tuple (ds.set i (.tuple (rd.take k ++ .bool true :: rd.drop (k + 1))))] ++ [.tuple (ds.set i (.tuple (rd.take k ++ .int (z * 3) :: rd.drop (k + 1))))]) (some (.dat d)) s)) := by
    rw [loopS_cons, s1]
    show loopS _ _ _ _ = _
    rw [loopS_cons, s2]
    show loopS _ _ _ _ = _
    rw [loopS_cons, s3]
    rfl
  have x := atI_nat ek
  have m : mulOk z 3 = true := mulOk_of (Nat.lt_of_lt_of_le (by omega) big64) (Nat.lt_of_lt_of_le (by decide) big64)
  simp only [List.append_assoc, List.cons_append, List.nil_append] at e
  have e1 : (fIter (fLst false (fACons (fVar 7) (fACons (fC (.bool true)) (fACons (fOp2 gMulX false (fOp2 gIx false (fVar 5) (fVar 4)) (fC (.int 3))) fANil))))) (Gf B ds n i k rd A (some (.dat d)) s) = some ([d, .bool true, .int (z * 3)], Gf B ds n i k rd A (some (.dat d)) s) := by
    simp [fnOf, fSeq, fNil, fSet, fRet, fDrop, fIf, fFgt, fgtO, fgt, fFor, fIfE, fT, fTru, truD, fAnd, fOr, fNot, fAndV, fOrV, fNotV, fOp2, fVar, fC, fB, fACons, fANil, fTup, fLst, fNeg, gRel, gInt2, gInt2C, gAdd, gMulX_int, gIx, gLen, gAbs, gInt, gEq, gIs, gIsNot, dv_dat, dv_lst, dv_al, dvs, own_dat, own_lst, own_bag, own_dcK, own_scr, flat_dat, flat_lst, Res.fin, frzs_nil, frzs_cons, frz_dat, intT_int, outs, als, argsOf, putArgs, fCall, eqv_int, shp_int, shp_none, shp_bool, noOwn, ownAt, sizeLine_eq, fIter, itemsOf, fRange1, fRange2, eqX_int, eqX_str, fEnumA, fFrz, fNever, permOk, perm, fCallK, fCallP, gMax2, gMin2, gMax3, gMin3, fPar2, fMulti, putM, fAsgG, fLc, hB.own, x, m]
  show Option.bind _ _ = _
  rw [e1]
  exact e
end Lw

end

/-! K48m: what is no table is told so, the other statements -/
noncomputable section
namespace Lw
open PySem PySem.Spec PyProof.Rows L2 Fx

theorem flat_rep (n : Nat) (d : PyData) : (List.replicate n [d]).flatten = List.replicate n d := by
  induction n with
  | zero => rfl
  | succ n ih => simp [List.replicate_succ, ih]
theorem wf5_ok {n i k : Nat} {ds rd A : List PyData} {B : MD} (hB : BagOk B) (hd : ds.length = n) (h1 : 1 ≤ n) (hn : n ≤ 64) (o : Option MD) :
    ∃ d0, d0 ∈ ds ∧ Wf5 (Gf B ds n i k rd A o none) = some (.nx (Gf B ds n i k rd A o (some (.dat (.tuple (List.replicate n d0)))))) := by
  cases ds with
  | nil => simp at hd; omega
  | cons d0 ds' =>
    have c := cut_to (d0 :: ds') 1 (by simp)
    have m := gMulX_tup [d0] (k := n) (by simp) (by omega)
    rw [flat_rep] at m
    rw [show ((1 : Nat) : Int) = 1 from rfl] at c
    simp only [List.take_succ_cons, List.take_zero] at c
    refine ⟨d0, List.mem_cons_self, ?_⟩
    generalize List.replicate n d0 = z at *
    simp [fnOf, fSeq, fNil, fSet, fRet, fDrop, fIf, fFgt, fgtO, fgt, fFor, fIfE, fT, fTru, truD, fAnd, fOr, fNot, fAndV, fOrV, fNotV, fOp2, fVar, fC, fB, fACons, fANil, fTup, fLst, fNeg, gRel, gInt2, gInt2C, gAdd, gMulX_int, gIx, gLen, gAbs, gInt, gEq, gIs, gIsNot, dv_dat, dv_lst, dv_al, dvs, own_dat, own_lst, own_bag, own_dcK, own_scr, flat_dat, flat_lst, Res.fin, frzs_nil, frzs_cons, frz_dat, intT_int, outs, als, argsOf, putArgs, fCall, eqv_int, shp_int, shp_none, shp_bool, noOwn, ownAt, sizeLine_eq, fIter, itemsOf, fRange1, fRange2, eqX_int, eqX_str, fEnumA, fFrz, fNever, permOk, perm, fCallK, fCallP, gMax2, gMin2, gMax3, gMin3, fPar2, fMulti, putM, fAsgG, fLc, Wf5, hB.own, fSlice, fONo, fOSo, dvS, gSl, c, m]
theorem wf6_ok {n i k : Nat} {ds sd rd A : List PyData} {B : MD} (hB : BagOk B) (hi : i < sd.length) (hk : k < rd.length) (hd : sd.length ≤ 100) (hr : rd.length ≤ 100) (hA : A.length < 900) (o : Option MD) :
    ∃ (d : PyData) (B' : MD), BagOk B' ∧ sgItem d = false ∧ Wf6 (Gf B ds n i k rd A o (some (.dat (.tuple sd)))) = some (.nx (Gf B' ds n i k rd (A ++ [.tuple (sd.set i (.tuple (rd.take k ++ d :: rd.drop (k + 1))))]) o (some (.dat (.tuple sd))))) := by
  obtain ⟨d, B', e, hB', hd2⟩ := pick hB (ds := [.bool true, .int 0, .none]) (by simp) (by simp)
  obtain ⟨c1, c2⟩ := cutr hk
  have p := put_ok hi (by omega) (.tuple (rd.take k ++ d :: rd.drop (k + 1)))
  have l1 : (rd.take k).length + 1 ≤ 16777216 := by simp; omega
  have l2 : (rd.take k).length + 1 + (rd.drop (k + 1)).length ≤ 16777216 := by simp; omega
  have l3 : A.length < 16777216 := by omega
  refine ⟨d, B', hB', ?_, ?_⟩
  · simp only [List.mem_cons, List.not_mem_nil, or_false] at hd2
    rcases hd2 with rfl | rfl | rfl <;> rfl
  · generalize rd.take k = u at *
    generalize rd.drop (k + 1) = w at *
    simp [fnOf, fSeq, fNil, fSet, fRet, fDrop, fIf, fFgt, fgtO, fgt, fFor, fIfE, fT, fTru, truD, fAnd, fOr, fNot, fAndV, fOrV, fNotV, fOp2, fVar, fC, fB, fACons, fANil, fTup, fLst, fNeg, gRel, gInt2, gInt2C, gAdd, gMulX_int, gIx, gLen, gAbs, gInt, gEq, gIs, gIsNot, dv_dat, dv_lst, dv_al, dvs, own_dat, own_lst, own_bag, own_dcK, own_scr, flat_dat, flat_lst, Res.fin, frzs_nil, frzs_cons, frz_dat, intT_int, outs, als, argsOf, putArgs, fCall, eqv_int, shp_int, shp_none, shp_bool, noOwn, ownAt, sizeLine_eq, fIter, itemsOf, fRange1, fRange2, eqX_int, eqX_str, fEnumA, fFrz, fNever, permOk, perm, fCallK, fCallP, gMax2, gMin2, gMax3, gMin3, fPar2, fMulti, putM, fAsgG, fLc, Wf6, hB.own, hB'.own, e, fSlice, fONo, fOSo, dvS, gSl, c1, c2, l1, l2, l3, p, fAppend, lstS]
theorem wf7_ok {n i k : Nat} {ds rd A : List PyData} {B : MD} (hB : BagOk B) (hi : i < ds.length) (hk : k < rd.length) (hd : ds.length ≤ 100) (hr : rd.length ≤ 100) (hA : A.length < 900) (o s : Option MD) :
    Wf7 (Gf B ds n i k rd A o s) = some (.nx (Gf B ds n i k rd (A ++ [.tuple (ds.set i (.tuple (rd.take k ++ rd.drop (k + 1))))]) o s)) := by
  obtain ⟨c1, c2⟩ := cutr hk
  have p := put_ok hi (by omega) (.tuple (rd.take k ++ rd.drop (k + 1)))
  have l2 : (rd.take k).length + (rd.drop (k + 1)).length ≤ 16777216 := by simp; omega
  have l3 : A.length < 16777216 := by omega
  generalize rd.take k = u at *
  generalize rd.drop (k + 1) = w at *
  simp [fnOf, fSeq, fNil, fSet, fRet, fDrop, fIf, fFgt, fgtO, fgt, fFor, fIfE, fT, fTru, truD, fAnd, fOr, fNot, fAndV, fOrV, fNotV, fOp2, fVar, fC, fB, fACons, fANil, fTup, fLst, fNeg, gRel, gInt2, gInt2C, gAdd, gMulX_int, gIx, gLen, gAbs, gInt, gEq, gIs, gIsNot, dv_dat, dv_lst, dv_al, dvs, own_dat, own_lst, own_bag, own_dcK, own_scr, flat_dat, flat_lst, Res.fin, frzs_nil, frzs_cons, frz_dat, intT_int, outs, als, argsOf, putArgs, fCall, eqv_int, shp_int, shp_none, shp_bool, noOwn, ownAt, sizeLine_eq, fIter, itemsOf, fRange1, fRange2, eqX_int, eqX_str, fEnumA, fFrz, fNever, permOk, perm, fCallK, fCallP, gMax2, gMin2, gMax3, gMin3, fPar2, fMulti, putM, fAsgG, fLc, Wf7, hB.own, fSlice, fONo, fOSo, dvS, gSl, c1, c2, l2, l3, p, fAppend, lstS]
theorem wf8_ok {n i k : Nat} {ds rd A : List PyData} {B : MD} (hB : BagOk B) (hi : i < ds.length) (hd : ds.length ≤ 100) (hr : rd.length ≤ 100) (hA : A.length < 900) (o s : Option MD) :
    ∃ (d : PyData) (B' : MD), BagOk B' ∧ Wf8 (Gf B ds n i k rd A o s) = some (.nx (Gf B' ds n i k rd (A ++ [.tuple (ds.set i (.tuple (rd ++ [d])))]) o s)) := by
  obtain ⟨d, B', e, hB', hd2⟩ := pick hB (ds := [.int 1, .int (-1), .int 0]) (by simp) (by simp)
  have p := put_ok hi (by omega) (.tuple (rd ++ [d]))
  have l1 : rd.length + 1 ≤ 16777216 := by omega
  have l3 : A.length < 16777216 := by omega
  refine ⟨d, B', hB', ?_⟩
  simp [fnOf, fSeq, fNil, fSet, fRet, fDrop, fIf, fFgt, fgtO, fgt, fFor, fIfE, fT, fTru, truD, fAnd, fOr, fNot, fAndV, fOrV, fNotV, fOp2, fVar, fC, fB, fACons, fANil, fTup, fLst, fNeg, gRel, gInt2, gInt2C, gAdd, gMulX_int, gIx, gLen, gAbs, gInt, gEq, gIs, gIsNot, dv_dat, dv_lst, dv_al, dvs, own_dat, own_lst, own_bag, own_dcK, own_scr, flat_dat, flat_lst, Res.fin, frzs_nil, frzs_cons, frz_dat, intT_int, outs, als, argsOf, putArgs, fCall, eqv_int, shp_int, shp_none, shp_bool, noOwn, ownAt, sizeLine_eq, fIter, itemsOf, fRange1, fRange2, eqX_int, eqX_str, fEnumA, fFrz, fNever, permOk, perm, fCallK, fCallP, gMax2, gMin2, gMax3, gMin3, fPar2, fMulti, putM, fAsgG, fLc, Wf8, hB.own, hB'.own, e, l1, l3, p, fAppend, lstS]
theorem wf9_ok {n i k : Nat} {ds rd A : List PyData} {B : MD} (hB : BagOk B) (hi : i < ds.length) (hd : ds.length ≤ 100) (hA : A.length < 900) (o s : Option MD) :
    Wf9 (Gf B ds n i k rd A o s) = some (.nx (Gf B ds n i k rd (A ++ [.tuple (ds.set i (.list rd))]) o s)) := by
  have p := put_ok hi (by omega) (.list rd)
  have l3 : A.length < 16777216 := by omega
  simp [fnOf, fSeq, fNil, fSet, fRet, fDrop, fIf, fFgt, fgtO, fgt, fFor, fIfE, fT, fTru, truD, fAnd, fOr, fNot, fAndV, fOrV, fNotV, fOp2, fVar, fC, fB, fACons, fANil, fTup, fLst, fNeg, gRel, gInt2, gInt2C, gAdd, gMulX_int, gIx, gLen, gAbs, gInt, gEq, gIs, gIsNot, dv_dat, dv_lst, dv_al, dvs, own_dat, own_lst, own_bag, own_dcK, own_scr, flat_dat, flat_lst, Res.fin, frzs_nil, frzs_cons, frz_dat, intT_int, outs, als, argsOf, putArgs, fCall, eqv_int, shp_int, shp_none, shp_bool, noOwn, ownAt, sizeLine_eq, fIter, itemsOf, fRange1, fRange2, eqX_int, eqX_str, fEnumA, fFrz, fNever, permOk, perm, fCallK, fCallP, gMax2, gMin2, gMax3, gMin3, fPar2, fMulti, putM, fAsgG, fLc, Wf9, hB.own, l3, p, fAppend, lstS, gToL]
theorem wf10_ok {n i k : Nat} {ds rd A : List PyData} {B : MD} (hB : BagOk B) (hi : i < ds.length) (hd : ds.length ≤ 100) (hA : A.length < 900) (o s : Option MD) :
    Wf10 (Gf B ds n i k rd A o s) = some (.nx (Gf B ds n i k rd (A ++ [.tuple (ds.take i ++ ds.drop (i + 1))]) o s)) := by
  obtain ⟨c1, c2⟩ := cutr hi
  have l2 : (ds.take i).length + (ds.drop (i + 1)).length ≤ 16777216 := by simp; omega
  have l3 : A.length < 16777216 := by omega
  generalize ds.take i = u at *
  generalize ds.drop (i + 1) = w at *
  simp [fnOf, fSeq, fNil, fSet, fRet, fDrop, fIf, fFgt, fgtO, fgt, fFor, fIfE, fT, fTru, truD, fAnd, fOr, fNot, fAndV, fOrV, fNotV, fOp2, fVar, fC, fB, fACons, fANil, fTup, fLst, fNeg, gRel, gInt2, gInt2C, gAdd, gMulX_int, gIx, gLen, gAbs, gInt, gEq, gIs, gIsNot, dv_dat, dv_lst, dv_al, dvs, own_dat, own_lst, own_bag, own_dcK, own_scr, flat_dat, flat_lst, Res.fin, frzs_nil, frzs_cons, frz_dat, intT_int, outs, als, argsOf, putArgs, fCall, eqv_int, shp_int, shp_none, shp_bool, noOwn, ownAt, sizeLine_eq, fIter, itemsOf, fRange1, fRange2, eqX_int, eqX_str, fEnumA, fFrz, fNever, permOk, perm, fCallK, fCallP, gMax2, gMin2, gMax3, gMin3, fPar2, fMulti, putM, fAsgG, fLc, Wf10, hB.own, fSlice, fONo, fOSo, dvS, gSl, c1, c2, l2, l3, fAppend, lstS]
theorem wf11_ok {n i k : Nat} {ds rd A : List PyData} {B : MD} (hB : BagOk B) (hd : ds.length ≤ 100) (hA : A.length < 900) (o s : Option MD) :
    Wf11 (Gf B ds n i k rd A o s) = some (.nx (Gf B ds n i k rd (A ++ [.tuple (ds ++ [.tuple rd])]) o s)) := by
  have l2 : ds.length + 1 ≤ 16777216 := by omega
  have l3 : A.length < 16777216 := by omega
  simp [fnOf, fSeq, fNil, fSet, fRet, fDrop, fIf, fFgt, fgtO, fgt, fFor, fIfE, fT, fTru, truD, fAnd, fOr, fNot, fAndV, fOrV, fNotV, fOp2, fVar, fC, fB, fACons, fANil, fTup, fLst, fNeg, gRel, gInt2, gInt2C, gAdd, gMulX_int, gIx, gLen, gAbs, gInt, gEq, gIs, gIsNot, dv_dat, dv_lst, dv_al, dvs, own_dat, own_lst, own_bag, own_dcK, own_scr, flat_dat, flat_lst, Res.fin, frzs_nil, frzs_cons, frz_dat, intT_int, outs, als, argsOf, putArgs, fCall, eqv_int, shp_int, shp_none, shp_bool, noOwn, ownAt, sizeLine_eq, fIter, itemsOf, fRange1, fRange2, eqX_int, eqX_str, fEnumA, fFrz, fNever, permOk, perm, fCallK, fCallP, gMax2, gMin2, gMax3, gMin3, fPar2, fMulti, putM, fAsgG, fLc, Wf11, hB.own, l2, l3, fAppend, lstS]
theorem wf12_ok {n i k : Nat} {ds rd A : List PyData} {B : MD} (hB : BagOk B) (hA : A.length < 900) (o s : Option MD) :
    Wf12 (Gf B ds n i k rd A o s) = some (.nx (Gf B ds n i k rd (A ++ [.list ds]) o s)) := by
  have l3 : A.length < 16777216 := by omega
  simp [fnOf, fSeq, fNil, fSet, fRet, fDrop, fIf, fFgt, fgtO, fgt, fFor, fIfE, fT, fTru, truD, fAnd, fOr, fNot, fAndV, fOrV, fNotV, fOp2, fVar, fC, fB, fACons, fANil, fTup, fLst, fNeg, gRel, gInt2, gInt2C, gAdd, gMulX_int, gIx, gLen, gAbs, gInt, gEq, gIs, gIsNot, dv_dat, dv_lst, dv_al, dvs, own_dat, own_lst, own_bag, own_dcK, own_scr, flat_dat, flat_lst, Res.fin, frzs_nil, frzs_cons, frz_dat, intT_int, outs, als, argsOf, putArgs, fCall, eqv_int, shp_int, shp_none, shp_bool, noOwn, ownAt, sizeLine_eq, fIter, itemsOf, fRange1, fRange2, eqX_int, eqX_str, fEnumA, fFrz, fNever, permOk, perm, fCallK, fCallP, gMax2, gMin2, gMax3, gMin3, fPar2, fMulti, putM, fAsgG, fLc, Wf12, hB.own, l3, fAppend, lstS, gToL]
def badA : List PyData := [.none, .tuple [], .tuple [.tuple []], .int 1, .bool true, .str "1", .tuple [.int 1], .dict (pairsD [(.inl 0, .tuple [.int 1])]), .tuple [.none], .tuple [.tuple [.int 1, .int 1]], .tuple [.list [.int 1]]]
def badB : List PyData := [.tuple [.tuple [.bool true]], .tuple [.tuple [.int 0]], .tuple [.tuple [.int 1], .tuple [.int 1]], .tuple [.tuple [.int 1, .int 1]], .tuple [.tuple [.tuple [.int 1]]], .tuple [.tuple [.str "1"]], .tuple [.tuple [.int 2]]]
theorem badA_ok : ∀ d ∈ badA, Bad d := by
  intro d hd
  simp only [badA, List.mem_cons, List.not_mem_nil, or_false] at hd
  rcases hd with rfl | rfl | rfl | rfl | rfl | rfl | rfl | rfl | rfl | rfl | rfl <;> simp [Bad, Dec, sgRow, sgItem, sizeLine_eq]
theorem badB_ok : ∀ d ∈ badB, Bad d := by
  intro d hd
  simp only [badB, List.mem_cons, List.not_mem_nil, or_false] at hd
  rcases hd with rfl | rfl | rfl | rfl | rfl | rfl | rfl <;> simp [Bad, Dec, sgRow, sgItem, sizeLine_eq]
theorem wf13_ok {n i k : Nat} {ds rd A : List PyData} {B : MD} (hB : BagOk B) (hA : A.length < 900) (o s : Option MD) :
    ∃ (d : PyData) (B' : MD), BagOk B' ∧ Bad d ∧ Wf13 (Gf B ds n i k rd A o s) = some (.nx (Gf B' ds n i k rd (A ++ [d]) o s)) := by
  obtain ⟨d, B', e, hB', hd⟩ := pick hB (ds := badA) (by simp [badA]) (by simp [badA])
  have l3 : A.length < 16777216 := by omega
  refine ⟨d, B', hB', badA_ok d hd, ?_⟩
  simp only [badA] at e
  generalize hp : PyData.dict (pairsD [(.inl 0, .tuple [.int 1])]) = q at e
  simp [fnOf, fSeq, fNil, fSet, fRet, fDrop, fIf, fFgt, fgtO, fgt, fFor, fIfE, fT, fTru, truD, fAnd, fOr, fNot, fAndV, fOrV, fNotV, fOp2, fVar, fC, fB, fACons, fANil, fTup, fLst, fNeg, gRel, gInt2, gInt2C, gAdd, gMulX_int, gIx, gLen, gAbs, gInt, gEq, gIs, gIsNot, dv_dat, dv_lst, dv_al, dvs, own_dat, own_lst, own_bag, own_dcK, own_scr, flat_dat, flat_lst, Res.fin, frzs_nil, frzs_cons, frz_dat, intT_int, outs, als, argsOf, putArgs, fCall, eqv_int, shp_int, shp_none, shp_bool, noOwn, ownAt, sizeLine_eq, fIter, itemsOf, fRange1, fRange2, eqX_int, eqX_str, fEnumA, fFrz, fNever, permOk, perm, fCallK, fCallP, gMax2, gMin2, gMax3, gMin3, fPar2, fMulti, putM, fAsgG, fLc, Wf13, hB.own, hB'.own, e, l3, fAppend, lstS, fFrzE, fDOne, kOf, hp]
theorem wf14_ok {n i k : Nat} {ds rd A : List PyData} {B : MD} (hB : BagOk B) (hA : A.length < 900) (o s : Option MD) :
    ∃ (d : PyData) (B' : MD), BagOk B' ∧ Bad d ∧ Wf14 (Gf B ds n i k rd A o s) = some (.nx (Gf B' ds n i k rd (A ++ [d]) o s)) := by
  obtain ⟨d, B', e, hB', hd⟩ := pick hB (ds := badB) (by simp [badB]) (by simp [badB])
  have l3 : A.length < 16777216 := by omega
  refine ⟨d, B', hB', badB_ok d hd, ?_⟩
  simp only [badB] at e
  simp [fnOf, fSeq, fNil, fSet, fRet, fDrop, fIf, fFgt, fgtO, fgt, fFor, fIfE, fT, fTru, truD, fAnd, fOr, fNot, fAndV, fOrV, fNotV, fOp2, fVar, fC, fB, fACons, fANil, fTup, fLst, fNeg, gRel, gInt2, gInt2C, gAdd, gMulX_int, gIx, gLen, gAbs, gInt, gEq, gIs, gIsNot, dv_dat, dv_lst, dv_al, dvs, own_dat, own_lst, own_bag, own_dcK, own_scr, flat_dat, flat_lst, Res.fin, frzs_nil, frzs_cons, frz_dat, intT_int, outs, als, argsOf, putArgs, fCall, eqv_int, shp_int, shp_none, shp_bool, noOwn, ownAt, sizeLine_eq, fIter, itemsOf, fRange1, fRange2, eqX_int, eqX_str, fEnumA, fFrz, fNever, permOk, perm, fCallK, fCallP, gMax2, gMin2, gMax3, gMin3, fPar2, fMulti, putM, fAsgG, fLc, Wf14, hB.own, hB'.own, e, l3, fAppend, lstS]
end Lw

end

/-! K48n: what is no table is told so, the last statements -/
noncomputable section
namespace Lw
open PySem PySem.Spec PyProof.Rows L2 Fx

theorem bad_long {m : Nat} {d : PyData} (h : 32 < m) (h2 : m ≤ 64) (hd : Dec d) : Bad (.tuple (List.replicate m d)) := by
  refine ⟨by simp [sizeLine_eq]; omega, fun x hx => ?_, fun _ q => ?_⟩
  · rw [List.eq_of_mem_replicate hx]; exact hd
  · rw [List.length_replicate] at q; omega
theorem bad_dbl : Bad (tabD (dblT 6)) := by
  have h := dbl_sz 6
  have hl : ((dblT 6).map rowD).length = 64 := by rw [List.length_map, h.1]
  refine ⟨by rw [hl, sizeLine_eq]; decide, fun x hx => ?_, fun _ q => by rw [hl] at q; omega⟩
  obtain ⟨r, hr, rfl⟩ := List.mem_map.mp hx
  have := h.2 r hr
  simp [Dec, sizeLine_eq, this]
theorem wf15_ok {n i k : Nat} {ds rd A : List PyData} {B : MD} (hB : BagOk B) (hA : A.length < 900) (o s : Option MD) :
    ∃ (L : List PyData) (B' : MD), BagOk B' ∧ (∀ d ∈ L, Bad d) ∧ Wf15 (Gf B ds n i k rd A o s) = some (.nx (Gf B' ds n i k rd (A ++ L) o s)) := by
  obtain ⟨v, B1, e1, hB1, hv⟩ := drawN hB (n := 4) (by omega) (by omega)
  rw [show ((4 : Nat) : Int) = 4 from rfl] at e1
  have l3 : A.length < 16777216 := by omega
  by_cases q : v = 0
  · have m1 := gMulX_tup [.int 1] (k := 33) (by simp) (by omega)
    rw [flat_rep] at m1
    have b1 := bad_long (m := 33) (d := .tuple (List.replicate 33 (.int 1))) (by omega) (by omega) (by simp [Dec, sizeLine_eq])
    have m2 := gMulX_tup [.tuple (List.replicate 33 (.int 1))] (k := 33) (by simp) (by omega)
    rw [flat_rep] at m2
    rw [show ((33 : Nat) : Int) = 33 from rfl] at m1 m2
    generalize List.replicate 33 (PyData.int 1) = u at *
    generalize List.replicate 33 (PyData.tuple u) = w at *
    have e2 := ldoubled_ok (k := 6) (by omega)
    rw [show ((6 : Nat) : Int) = 6 from rfl] at e2
    have b2 := bad_dbl
    generalize tabD (dblT 6) = y at *
    obtain ⟨d, B2, e3, hB2, hd⟩ := pick hB1 (ds := [.tuple w, y]) (by simp) (by simp)
    refine ⟨[d], B2, hB2, fun x hx => ?_, ?_⟩
    · rw [List.mem_singleton] at hx
      subst hx
      simp only [List.mem_cons, List.not_mem_nil, or_false] at hd
      rcases hd with rfl | rfl
      · exact b1
      · exact b2
    · simp [fnOf, fSeq, fNil, fSet, fRet, fDrop, fIf, fFgt, fgtO, fgt, fFor, fIfE, fT, fTru, truD, fAnd, fOr, fNot, fAndV, fOrV, fNotV, fOp2, fVar, fC, fB, fACons, fANil, fTup, fLst, fNeg, gRel, gInt2, gInt2C, gAdd, gMulX_int, gIx, gLen, gAbs, gInt, gEq, gIs, gIsNot, dv_dat, dv_lst, dv_al, dvs, own_dat, own_lst, own_bag, own_dcK, own_scr, flat_dat, flat_lst, Res.fin, frzs_nil, frzs_cons, frz_dat, intT_int, outs, als, argsOf, putArgs, fCall, eqv_int, shp_int, shp_none, shp_bool, noOwn, ownAt, sizeLine_eq, fIter, itemsOf, fRange1, fRange2, eqX_int, eqX_str, fEnumA, fFrz, fNever, permOk, perm, fCallK, fCallP, gMax2, gMin2, gMax3, gMin3, fPar2, fMulti, putM, fAsgG, fLc, Wf15, hB.own, hB1.own, hB2.own, e1, q, m1, m2, e2, e3, l3, fAppend, lstS]
  · have q' : ¬ (v : Int) = 0 := by omega
    refine ⟨[], B1, hB1, (fun x hx => nomatch hx), ?_⟩
    simp [fnOf, fSeq, fNil, fSet, fRet, fDrop, fIf, fFgt, fgtO, fgt, fFor, fIfE, fT, fTru, truD, fAnd, fOr, fNot, fAndV, fOrV, fNotV, fOp2, fVar, fC, fB, fACons, fANil, fTup, fLst, fNeg, gRel, gInt2, gInt2C, gAdd, gMulX_int, gIx, gLen, gAbs, gInt, gEq, gIs, gIsNot, dv_dat, dv_lst, dv_al, dvs, own_dat, own_lst, own_bag, own_dcK, own_scr, flat_dat, flat_lst, Res.fin, frzs_nil, frzs_cons, frz_dat, intT_int, outs, als, argsOf, putArgs, fCall, eqv_int, shp_int, shp_none, shp_bool, noOwn, ownAt, sizeLine_eq, fIter, itemsOf, fRange1, fRange2, eqX_int, eqX_str, fEnumA, fFrz, fNever, permOk, perm, fCallK, fCallP, gMax2, gMin2, gMax3, gMin3, fPar2, fMulti, putM, fAsgG, fLc, Wf15, hB.own, hB1.own, e1, q, q']
end Lw

end

/-! K48o: what is no table is told so: all statements -/
noncomputable section
namespace Lw
open PySem PySem.Spec PyProof.Rows L2 Fx

theorem app_bad {A L : List PyData} (h : ∀ x ∈ A, Bad x) (g : ∀ x ∈ L, Bad x) : ∀ x ∈ A ++ L, Bad x := fun x hx => by
  rcases List.mem_append.mp hx with q | q
  · exact h x q
  · exact g x q
theorem one_bad {A : List PyData} {d : PyData} (h : ∀ x ∈ A, Bad x) (g : Bad d) : ∀ x ∈ A ++ [d], Bad x := app_bad h fun x hx => by
  rw [List.mem_singleton] at hx; subst hx; exact g
theorem plS (x : Str) (h1 : x.length ≤ sizeLine := by decide +kernel) (h2 : shp (.str x) = true := by decide +kernel) (h3 : PyData.eqv (.str x) (.str x) = true := by decide +kernel) : Plain 1 (.str x) := .str _ _ h1 h2 h3
theorem form_str : Plain 1 (.str "form") := plS "form"
theorem form_turn {d : PyData} (hd : Bad d) {B : MD} (hB : BagOk B) (t n i k r a o s : Option MD) : ∃ B', BagOk B' ∧
    lsStep (gN 10) b2__law_are_forms_told d [some B, t, n, i, k, r, a, o, none, s, none, none] = some (.nx [some B', t, n, i, k, r, a, o, none, s, none, none]) := by
  obtain ⟨v, B1, e1, hB1, v0, v1⟩ := draw hB (n := 2) (by omega) (by omega)
  have e2 := is_error_ok (err_form hd) form_str (by decide) (decide (0 < v))
  refine ⟨B1, hB1, ?_⟩
  simp [fnOf, fSeq, fNil, fSet, fRet, fDrop, fIf, fFgt, fgtO, fgt, fFor, fIfE, fT, fTru, truD, fAnd, fOr, fNot, fAndV, fOrV, fNotV, fOp2, fVar, fC, fB, fACons, fANil, fTup, fLst, fNeg, gRel, gInt2, gInt2C, gAdd, gMulX_int, gIx, gLen, gAbs, gInt, gEq, gIs, gIsNot, dv_dat, dv_lst, dv_al, dvs, own_dat, own_lst, own_bag, own_dcK, own_scr, flat_dat, flat_lst, Res.fin, frzs_nil, frzs_cons, frz_dat, intT_int, outs, als, argsOf, putArgs, fCall, eqv_int, shp_int, shp_none, shp_bool, noOwn, ownAt, sizeLine_eq, fIter, itemsOf, fRange1, fRange2, eqX_int, eqX_str, fEnumA, fFrz, fNever, permOk, perm, fCallK, fCallP, gMax2, gMin2, gMax3, gMin3, fPar2, fMulti, putM, fAsgG, fLc, lcStep, lsStep, tYesF, gN, gT, gsCons, gsNil, b2__law_are_forms_told, hB.own, hB1.own, e1, e2]
theorem form_turns {A : List PyData} (hA : ∀ x ∈ A, Bad x) {B : MD} (hB : BagOk B) (t n i k r a o s : Option MD) : ∃ B', BagOk B' ∧
    loopS (gN 10) b2__law_are_forms_told A [some B, t, n, i, k, r, a, o, none, s, none, none] = some (.nx [some B', t, n, i, k, r, a, o, none, s, none, none]) := by
  obtain ⟨Γ, e, B', h1, h2⟩ := loopS_ok (tg := gN 10) (b := b2__law_are_forms_told) (P := fun _ Γ => ∃ B', BagOk B' ∧ Γ = [some B', t, n, i, k, r, a, o, none, s, none, none]) (items := A) (Γ := [some B, t, n, i, k, r, a, o, none, s, none, none]) 0 ⟨B, hB, rfl⟩ fun j d Γ ed hΓ => by
    obtain ⟨B1, hB1, rfl⟩ := hΓ
    obtain ⟨B2, hB2, e⟩ := form_turn (hA d (List.mem_of_getElem? ed)) hB1 t n i k r a o s
    exact ⟨_, .inl e, B2, hB2, rfl⟩
  exact ⟨B', h1, by rw [e, h2]⟩
theorem wf16_ok {n i k : Nat} {ds rd A : List PyData} {r0 : List Int} {B : MD} (hB : BagOk B) (hA : ∀ x ∈ A, Bad x) (e0 : ds[0]? = some (rowD r0)) (h0 : r0.length ≤ 64) (o s : Option MD) :
    ∃ B' : MD, BagOk B' ∧ Wf16 (Gf B ds n i k rd A o s) = some (.rt (.dat (.bool true)) [some B', some (.dat (.tuple ds)), some (.dat (.int n)), some (.dat (.int i)), some (.dat (.int k)), some (.dat (.list (r0.map .int))), some (.dat (.list A)), o, none, s, none, some (.dat (.list (r0.map .int)))]) := by
  obtain ⟨B', hB', e⟩ := form_turns hA hB (some (.dat (.tuple ds))) (some (.dat (.int n))) (some (.dat (.int i))) (some (.dat (.int k))) (some (.dat (.tuple rd))) (some (.dat (.list A))) o s
  have x := atI_nat e0
  rw [show ((0 : Nat) : Int) = 0 from rfl] at x
  have q := eqX_intsL false r0 r0
  simp only [decide_true, Bool.false_eq_true, if_false] at q
  have b1 := is_error_ok (err_form (d := .list [.list (r0.map .int)]) trivial) form_str (by decide) false
  have b2 := is_error_ok (err_form (d := .tuple [.list (r0.map .int)]) (by simp [Bad, Dec, sgRow, sizeLine_eq])) form_str (by decide) true
  refine ⟨B', hB', ?_⟩
  simp only [rowD] at x
  generalize r0.map PyData.int = z at *
  simp [fnOf, fSeq, fNil, fSet, fRet, fDrop, fIf, fFgt, fgtO, fgt, fFor, fIfE, fT, fTru, truD, fAnd, fOr, fNot, fAndV, fOrV, fNotV, fOp2, fVar, fC, fB, fACons, fANil, fTup, fLst, fNeg, gRel, gInt2, gInt2C, gAdd, gMulX_int, gIx, gLen, gAbs, gInt, gEq, gIs, gIsNot, dv_dat, dv_lst, dv_al, dvs, own_dat, own_lst, own_bag, own_dcK, own_scr, flat_dat, flat_lst, Res.fin, frzs_nil, frzs_cons, frz_dat, intT_int, outs, als, argsOf, putArgs, fCall, eqv_int, shp_int, shp_none, shp_bool, noOwn, ownAt, sizeLine_eq, fIter, itemsOf, fRange1, fRange2, eqX_int, eqX_str, fEnumA, fFrz, fNever, permOk, perm, fCallK, fCallP, gMax2, gMin2, gMax3, gMin3, fPar2, fMulti, putM, fAsgG, fLc, Wf16, e, hB.own, hB'.own, x, gToL, q, b1, b2]
theorem forms_ok {n : Nat} {T : M48.Tab} (h : M48.Tb n T) (h1 : 1 ≤ n) (hn : n ≤ 32) {B : MD} (hB : BagOk B) : ∃ B', BagOk B' ∧ F__law_are_forms_told [B, .dat (tabD T)] = some (.dat (.bool true), [some B', none]) := by
  have hR := tab_rows h (by omega)
  have hl := h.len
  obtain ⟨i, k, B1, w1, hB1, hi, hk⟩ := wf1_ok h1 (by omega) (ds := T.map rowD) hB
  have rr := rowOk h hi
  have w2 := wf2_ok (n := n) (i := i) (k := k) (rd := (T.getD i []).map .int) hB1 (row_at h hi)
  generalize hr : T.getD i [] = r at *
  obtain ⟨d, B2, w3, hB2, hd⟩ := wf3_ok (n := n) (i := i) (k := k) (ds := T.map rowD) (rd := r.map .int) (A := []) hB1
  have hri : ∀ {d : PyData}, sgItem d = false → Bad (.tuple ((T.map rowD).set i (.tuple ((r.map PyData.int).take k ++ d :: (r.map PyData.int).drop (k + 1))))) := fun hd => by
    have := row_put rr.1 hk (by omega) hd
    exact bad_set hR (by omega) hi this.2 this.1
  have hrl : (r.map PyData.int).length = n := by rw [List.length_map, rr.1]
  have hdl : (T.map rowD).length = n := hR.len
  obtain ⟨A4, b4, l4, w4⟩ : ∃ A4, (∀ x ∈ A4, Bad x) ∧ A4.length ≤ 3 ∧ Wf4 (Gf B2 (T.map rowD) n i k (r.map .int) [] (some (.dat d)) none) = some (.nx (Gf B2 (T.map rowD) n i k (r.map .int) A4 (some (.dat d)) none)) := by
    obtain ⟨y, hy, w4⟩ := wf4_ok (n := n) (i := i) (k := k) (ds := T.map rowD) (A := []) (r := r) hB2 (by omega) (by omega) (by omega) (by omega) rr.2 (by simp) d none
    refine ⟨_, ?_, by simp, w4⟩
    intro x hx
    simp only [List.nil_append, List.mem_cons, List.not_mem_nil, or_false] at hx
    rcases hx with rfl | rfl | rfl
    · exact hri hd
    · exact hri rfl
    · exact hri (by rcases hy with rfl | rfl <;> rfl)
  obtain ⟨d0, hd0, w5⟩ := wf5_ok (n := n) (i := i) (k := k) (ds := T.map rowD) (rd := r.map .int) (A := A4) hB2 hdl h1 (by omega) (some (.dat d))
  have hRs : Rows n (List.replicate n d0) := ⟨List.length_replicate .., fun x hx => by rw [List.eq_of_mem_replicate hx]; exact hR.dec d0 hd0⟩
  generalize List.replicate n d0 = sd at *
  obtain ⟨A6, B6, b6, l6, hB6, w6⟩ : ∃ A6 B6, (∀ x ∈ A6, Bad x) ∧ A6.length ≤ 4 ∧ BagOk B6 ∧ Wf6 (Gf B2 (T.map rowD) n i k (r.map .int) A4 (some (.dat d)) (some (.dat (.tuple sd)))) = some (.nx (Gf B6 (T.map rowD) n i k (r.map .int) A6 (some (.dat d)) (some (.dat (.tuple sd))))) := by
    obtain ⟨e, B6, hB6, he, w6⟩ := wf6_ok (n := n) (i := i) (k := k) (ds := T.map rowD) (sd := sd) (rd := r.map .int) (A := A4) hB2 (by rw [hRs.len]; omega) (by omega) (by rw [hRs.len]; omega) (by omega) (by omega) (some (.dat d))
    refine ⟨_, B6, one_bad b4 ?_, by simp; omega, hB6, w6⟩
    have := row_put rr.1 hk (by omega) he
    exact bad_set hRs (by omega) hi this.2 this.1
  generalize hs : some (MD.dat (.tuple sd)) = s at *
  generalize ho : some (MD.dat d) = o at *
  obtain ⟨A7, b7, l7, w7⟩ : ∃ A7, (∀ x ∈ A7, Bad x) ∧ A7.length ≤ 5 ∧ Wf7 (Gf B6 (T.map rowD) n i k (r.map .int) A6 o s) = some (.nx (Gf B6 (T.map rowD) n i k (r.map .int) A7 o s)) := by
    refine ⟨_, one_bad b6 ?_, by simp; omega, wf7_ok hB6 (by omega) (by omega) (by omega) (by omega) (by omega) o s⟩
    have := row_cut rr.1 hk (by omega)
    exact bad_set hR (by omega) hi this.2 this.1
  obtain ⟨A8, B8, b8, l8, hB8, w8⟩ : ∃ A8 B8, (∀ x ∈ A8, Bad x) ∧ A8.length ≤ 6 ∧ BagOk B8 ∧ Wf8 (Gf B6 (T.map rowD) n i k (r.map .int) A7 o s) = some (.nx (Gf B8 (T.map rowD) n i k (r.map .int) A8 o s)) := by
    obtain ⟨e, B8, hB8, w8⟩ := wf8_ok (n := n) (i := i) (k := k) (ds := T.map rowD) (rd := r.map .int) (A := A7) hB6 (by omega) (by omega) (by omega) (by omega) o s
    refine ⟨_, B8, one_bad b7 ?_, by simp; omega, hB8, w8⟩
    have := row_more rr.1 (by omega) e
    exact bad_set hR (by omega) hi this.2 this.1
  obtain ⟨A9, b9, l9, w9⟩ : ∃ A9, (∀ x ∈ A9, Bad x) ∧ A9.length ≤ 7 ∧ Wf9 (Gf B8 (T.map rowD) n i k (r.map .int) A8 o s) = some (.nx (Gf B8 (T.map rowD) n i k (r.map .int) A9 o s)) :=
    ⟨_, one_bad b8 (bad_set hR (by omega) hi (show Dec (.list (r.map .int)) from trivial) rfl), by simp; omega, wf9_ok hB8 (by omega) (by omega) (by omega) o s⟩
  obtain ⟨A10, b10, l10, w10⟩ : ∃ A10, (∀ x ∈ A10, Bad x) ∧ A10.length ≤ 8 ∧ Wf10 (Gf B8 (T.map rowD) n i k (r.map .int) A9 o s) = some (.nx (Gf B8 (T.map rowD) n i k (r.map .int) A10 o s)) :=
    ⟨_, one_bad b9 (bad_less h (by omega) hi), by simp; omega, wf10_ok hB8 (by omega) (by omega) (by omega) o s⟩
  obtain ⟨A11, b11, l11, w11⟩ : ∃ A11, (∀ x ∈ A11, Bad x) ∧ A11.length ≤ 9 ∧ Wf11 (Gf B8 (T.map rowD) n i k (r.map .int) A10 o s) = some (.nx (Gf B8 (T.map rowD) n i k (r.map .int) A11 o s)) :=
    ⟨_, one_bad b10 (bad_plus h hn rr.1), by simp; omega, wf11_ok hB8 (by omega) (by omega) o s⟩
  obtain ⟨A12, b12, l12, w12⟩ : ∃ A12, (∀ x ∈ A12, Bad x) ∧ A12.length ≤ 10 ∧ Wf12 (Gf B8 (T.map rowD) n i k (r.map .int) A11 o s) = some (.nx (Gf B8 (T.map rowD) n i k (r.map .int) A12 o s)) :=
    ⟨_, one_bad b11 (show Bad (.list (T.map rowD)) from trivial), by simp; omega, wf12_ok hB8 (by omega) o s⟩
  obtain ⟨e13, B13, hB13, he13, w13⟩ := wf13_ok (n := n) (i := i) (k := k) (ds := T.map rowD) (rd := r.map .int) (A := A12) hB8 (by omega) o s
  obtain ⟨e14, B14, hB14, he14, w14⟩ := wf14_ok (n := n) (i := i) (k := k) (ds := T.map rowD) (rd := r.map .int) (A := A12 ++ [e13]) hB13 (by simp; omega) o s
  obtain ⟨L15, B15, hB15, hL15, w15⟩ := wf15_ok (n := n) (i := i) (k := k) (ds := T.map rowD) (rd := r.map .int) (A := A12 ++ [e13] ++ [e14]) hB14 (by simp; omega) o s
  have bA := app_bad (one_bad (one_bad b12 he13) he14) hL15
  generalize A12 ++ [e13] ++ [e14] ++ L15 = A at *
  have r0 := row_at h (i := 0) (by omega)
  have r0' := rowOk h (i := 0) (by omega)
  obtain ⟨B', hB', w16⟩ := wf16_ok (n := n) (i := i) (k := k) (rd := r.map .int) hB15 bA r0 (by omega) o s
  refine ⟨B', hB', ?_⟩
  have w0 : Wf0 [some B, some (.dat (tabD T)), none, none, none, none, none, none, none, none, none, none] = some (.nx [some B, some (.dat (.tuple (T.map rowD))), some (.dat (.int n)), none, none, none, none, none, none, none, none, none]) := by
    simp [fnOf, fSeq, fNil, fSet, fRet, fDrop, fIf, fFgt, fgtO, fgt, fFor, fIfE, fT, fTru, truD, fAnd, fOr, fNot, fAndV, fOrV, fNotV, fOp2, fVar, fC, fB, fACons, fANil, fTup, fLst, fNeg, gRel, gInt2, gInt2C, gAdd, gMulX_int, gIx, gLen, gAbs, gInt, gEq, gIs, gIsNot, dv_dat, dv_lst, dv_al, dvs, own_dat, own_lst, own_bag, own_dcK, own_scr, flat_dat, flat_lst, Res.fin, frzs_nil, frzs_cons, frz_dat, intT_int, outs, als, argsOf, putArgs, fCall, eqv_int, shp_int, shp_none, shp_bool, noOwn, ownAt, sizeLine_eq, fIter, itemsOf, fRange1, fRange2, eqX_int, eqX_str, fEnumA, fFrz, fNever, permOk, perm, fCallK, fCallP, gMax2, gMin2, gMax3, gMin3, fPar2, fMulti, putM, fAsgG, fLc, Wf0, hl, tabD]
  rw [Wf_is]
  show (Option.bind (fSeq Wf0 _ [some B, some (.dat (tabD T)), none, none, none, none, none, none, none, none, none, none]) _) = _
  subst hs ho
  rw [seq_nx w0, seq_nx w1, seq_nx w2, seq_nx w3, seq_nx w4, seq_nx w5, seq_nx w6, seq_nx w7, seq_nx w8, seq_nx w9, seq_nx w10, seq_nx w11, seq_nx w12, seq_nx w13, seq_nx w14, seq_nx w15, w16]
  simp [outs, hB'.own, own_dat]
end Lw

end

/-! K48p: pairs of rows told -/
noncomputable section
namespace Lw
open PySem PySem.Spec PyProof.Rows L2 Fx

theorem zipD_zip (r s : List Int) : zipD (r.map .int) (s.map .int) = (r.zip s).map fun p => PyData.tuple [.int p.1, .int p.2] := by
  unfold zipD
  induction r generalizing s with
  | nil => simp
  | cons a r ih =>
    cases s with
    | nil => simp
    | cons b s => simp [ih]
theorem b2_lp {n i j : Nat} {r s : List Int} {ds : List PyData} (r1 : r.length = n ∧ M48.Sg r) (r2 : s.length = n ∧ M48.Sg s) (hn : n ≤ 64) (e0 : ds[j]? = some (rowD s)) :
    lsStep (gN 3) b2__law_least_pair (.int (j : Nat)) [some (.dat (.tuple ds)), some (.dat (.int i)), some (.dat (rowD r)), none, none, none] =
      some (if M48.dot r s ≠ 0 then .rt (.dat (pairD (some (i, j)))) [some (.dat (.tuple ds)), some (.dat (.int i)), some (.dat (rowD r)), some (.dat (.int j)), none, none] else .nx [some (.dat (.tuple ds)), some (.dat (.int i)), some (.dat (rowD r)), none, none, none]) := by
  have e1 := zip_sum r1 r2 hn (tg := gT 2 (gsCons (gN 4) (gsCons (gN 5) gsNil))) (fe := e1__law_least_pair) (own := [4, 5]) (Γ := [some (.dat (.tuple ds)), some (.dat (.int i)), some (.dat (rowD r)), some (.dat (.int j)), none, none]) fun p hp => by
    have := sgMul r1.2 r2.2 hp
    simp [fnOf, fSeq, fNil, fSet, fRet, fDrop, fIf, fFgt, fgtO, fgt, fFor, fIfE, fT, fTru, truD, fAnd, fOr, fNot, fAndV, fOrV, fNotV, fOp2, fVar, fC, fB, fACons, fANil, fTup, fLst, fNeg, gRel, gInt2, gInt2C, gAdd, gMulX_int, gIx, gLen, gAbs, gInt, gEq, gIs, gIsNot, dv_dat, dv_lst, dv_al, dvs, own_dat, own_lst, own_bag, own_dcK, own_scr, flat_dat, flat_lst, Res.fin, frzs_nil, frzs_cons, frz_dat, intT_int, outs, als, argsOf, putArgs, fCall, eqv_int, shp_int, shp_none, shp_bool, noOwn, ownAt, sizeLine_eq, fIter, itemsOf, fRange1, fRange2, eqX_int, eqX_str, fEnumA, fFrz, fNever, permOk, perm, fCallK, fCallP, gMax2, gMin2, gMax3, gMin3, fPar2, fMulti, putM, fAsgG, fLc, lcStep, lsStep, tYesF, gN, gT, gsCons, gsNil, e1__law_least_pair, this]
  have e2 := gSumA_list ((r.zip s).map fun p => p.1 * p.2)
  rw [← dot_zip] at e2
  generalize ((r.zip s).map fun p => p.1 * p.2) = l at e1 e2
  have e3 := atI_nat e0
  simp only [rowD] at e3
  by_cases hz : M48.dot r s = 0
  · simp [fnOf, fSeq, fNil, fSet, fRet, fDrop, fIf, fFgt, fgtO, fgt, fFor, fIfE, fT, fTru, truD, fAnd, fOr, fNot, fAndV, fOrV, fNotV, fOp2, fVar, fC, fB, fACons, fANil, fTup, fLst, fNeg, gRel, gInt2, gInt2C, gAdd, gMulX_int, gIx, gLen, gAbs, gInt, gEq, gIs, gIsNot, dv_dat, dv_lst, dv_al, dvs, own_dat, own_lst, own_bag, own_dcK, own_scr, flat_dat, flat_lst, Res.fin, frzs_nil, frzs_cons, frz_dat, intT_int, outs, als, argsOf, putArgs, fCall, eqv_int, shp_int, shp_none, shp_bool, noOwn, ownAt, sizeLine_eq, fIter, itemsOf, fRange1, fRange2, eqX_int, eqX_str, fEnumA, fFrz, fNever, permOk, perm, fCallK, fCallP, gMax2, gMin2, gMax3, gMin3, fPar2, fMulti, putM, fAsgG, fLc, lcStep, lsStep, tYesF, gN, gT, gsCons, gsNil, b2__law_least_pair, fListZip, e3, e1, e2, hz, rowD]
  · simp [fnOf, fSeq, fNil, fSet, fRet, fDrop, fIf, fFgt, fgtO, fgt, fFor, fIfE, fT, fTru, truD, fAnd, fOr, fNot, fAndV, fOrV, fNotV, fOp2, fVar, fC, fB, fACons, fANil, fTup, fLst, fNeg, gRel, gInt2, gInt2C, gAdd, gMulX_int, gIx, gLen, gAbs, gInt, gEq, gIs, gIsNot, dv_dat, dv_lst, dv_al, dvs, own_dat, own_lst, own_bag, own_dcK, own_scr, flat_dat, flat_lst, Res.fin, frzs_nil, frzs_cons, frz_dat, intT_int, outs, als, argsOf, putArgs, fCall, eqv_int, shp_int, shp_none, shp_bool, noOwn, ownAt, sizeLine_eq, fIter, itemsOf, fRange1, fRange2, eqX_int, eqX_str, fEnumA, fFrz, fNever, permOk, perm, fCallK, fCallP, gMax2, gMin2, gMax3, gMin3, fPar2, fMulti, putM, fAsgG, fLc, lcStep, lsStep, tYesF, gN, gT, gsCons, gsNil, b2__law_least_pair, fListZip, e3, e1, e2, hz, pairD, rowD]
theorem b3_lp {n i : Nat} {T : M48.Tab} (h : M48.Tb n T) (hn : n ≤ 64) (hi : i < n) {ds : List PyData} (hds : T.map rowD = ds) :
    ∃ Γ' : Gm, Γ'[0]? = some (some (.dat (.tuple ds))) ∧ lsStep (gT 2 (gsCons (gN 1) (gsCons (gN 2) gsNil))) b3__law_least_pair (.tuple [.int (i : Nat), rowD (T.getD i [])]) [some (.dat (.tuple ds)), none, none, none, none, none] =
      some (match (inner T i).map pairM with | none => .nx [some (.dat (.tuple ds)), none, none, none, none, none] | some m => .rt m Γ') := by
  have hl := h.len
  have hdl : ds.length = n := by rw [← hds]; simp [hl]
  have r1 := rowOk h hi
  generalize hr : T.getD i [] = r at r1
  obtain ⟨Γ1, p1, e1⟩ := loopS_findE (fun Γ => Γ[0]? = some (some (.dat (.tuple ds)))) (tg := gN 3) (b := b2__law_least_pair) (g := fun (x : Nat) => PyData.int ((i : Int) + 1 + x)) (Γ := [some (.dat (.tuple ds)), some (.dat (.int i)), some (.dat (rowD r)), none, none, none])
    (p := fun x => (if M48.dot r (T.getD (i + 1 + x) []) ≠ 0 then some (i, i + 1 + x) else none).map pairM) rfl (List.range (n - (i + 1))) fun x hx => by
      have hx' : i + 1 + x < n := by have := List.mem_range.mp hx; omega
      have e0 := row_at h hx'
      rw [hds] at e0
      refine ⟨[some (.dat (.tuple ds)), some (.dat (.int i)), some (.dat (rowD r)), some (.dat (.int ((i + 1 + x : Nat) : Int))), none, none], rfl, ?_⟩
      rw [show ((i : Int) + 1 + x) = ((i + 1 + x : Nat) : Int) by omega, b2_lp r1 (rowOk h hx') (by omega) e0]
      generalize M48.dot r (T.getD (i + 1 + x) []) = z
      by_cases hz : z = 0
      · subst hz; rfl
      · rw [if_pos hz, if_pos hz]; rfl
  rw [find_map] at e1
  have e2 := rg2_nat (a := i + 1) (b := n) (by omega) (by omega)
  rw [show ((i + 1 : Nat) : Int) = (i : Int) + 1 by omega] at e2
  have e3 : inner T i = (List.range (n - (i + 1))).findSome? fun j => if M48.dot r (T.getD (i + 1 + j) []) ≠ 0 then some (i, i + 1 + j) else none := by rw [inner, hr, hl]
  rw [← e3] at e1
  generalize (inner T i).map pairM = m at *
  cases m with
  | none =>
    refine ⟨Γ1, p1, ?_⟩
    simp [fnOf, fSeq, fNil, fSet, fRet, fDrop, fIf, fFgt, fgtO, fgt, fFor, fIfE, fT, fTru, truD, fAnd, fOr, fNot, fAndV, fOrV, fNotV, fOp2, fVar, fC, fB, fACons, fANil, fTup, fLst, fNeg, gRel, gInt2, gInt2C, gAdd, gMulX_int, gIx, gLen, gAbs, gInt, gEq, gIs, gIsNot, dv_dat, dv_lst, dv_al, dvs, own_dat, own_lst, own_bag, own_dcK, own_scr, flat_dat, flat_lst, Res.fin, frzs_nil, frzs_cons, frz_dat, intT_int, outs, als, argsOf, putArgs, fCall, eqv_int, shp_int, shp_none, shp_bool, noOwn, ownAt, sizeLine_eq, fIter, itemsOf, fRange1, fRange2, eqX_int, eqX_str, fEnumA, fFrz, fNever, permOk, perm, fCallK, fCallP, gMax2, gMin2, gMax3, gMin3, fPar2, fMulti, putM, fAsgG, fLc, lcStep, lsStep, tYesF, gN, gT, gsCons, gsNil, b3__law_least_pair, hdl, e2, e1]
  | some m =>
    refine ⟨Γ1, p1, ?_⟩
    simp [fnOf, fSeq, fNil, fSet, fRet, fDrop, fIf, fFgt, fgtO, fgt, fFor, fIfE, fT, fTru, truD, fAnd, fOr, fNot, fAndV, fOrV, fNotV, fOp2, fVar, fC, fB, fACons, fANil, fTup, fLst, fNeg, gRel, gInt2, gInt2C, gAdd, gMulX_int, gIx, gLen, gAbs, gInt, gEq, gIs, gIsNot, dv_dat, dv_lst, dv_al, dvs, own_dat, own_lst, own_bag, own_dcK, own_scr, flat_dat, flat_lst, Res.fin, frzs_nil, frzs_cons, frz_dat, intT_int, outs, als, argsOf, putArgs, fCall, eqv_int, shp_int, shp_none, shp_bool, noOwn, ownAt, sizeLine_eq, fIter, itemsOf, fRange1, fRange2, eqX_int, eqX_str, fEnumA, fFrz, fNever, permOk, perm, fCallK, fCallP, gMax2, gMin2, gMax3, gMin3, fPar2, fMulti, putM, fAsgG, fLc, lcStep, lsStep, tYesF, gN, gT, gsCons, gsNil, b3__law_least_pair, hdl, e2, e1]
theorem least_ok {n : Nat} {T : M48.Tab} (h : M48.Tb n T) (hn : n ≤ 32) : F__law_least_pair [.dat (tabD T)] = some (.dat (pairD (M48.lp T)), [none]) := by
  have hl := h.len
  obtain ⟨ds, hds⟩ : ∃ ds, T.map rowD = ds := ⟨_, rfl⟩
  have hdl : ds.length = n := by rw [← hds]; simp [hl]
  have e4 : enumD ds = (List.range n).map fun (i : Nat) => PyData.tuple [.int i, rowD (T.getD i [])] := by rw [← hds]; exact tab_enum h
  obtain ⟨Γ1, p1, e5⟩ := loopS_findE (fun Γ => Γ[0]? = some (some (.dat (.tuple ds)))) (tg := gT 2 (gsCons (gN 1) (gsCons (gN 2) gsNil))) (b := b3__law_least_pair) (g := fun (i : Nat) => PyData.tuple [.int i, rowD (T.getD i [])]) (Γ := [some (.dat (.tuple ds)), none, none, none, none, none])
    (p := fun i => (inner T i).map pairM) rfl (List.range n) fun i hi => b3_lp h (by omega) (List.mem_range.mp hi) hds
  rw [← e4, find_map] at e5
  have e6 : M48.lp T = (List.range n).findSome? (inner T) := by rw [lp_inner, hl]
  rw [← e6] at e5
  show F__law_least_pair [.dat (.tuple (T.map rowD))] = _
  rw [hds]
  cases hlp : M48.lp T with
  | none =>
    rw [hlp] at e5
    simp only [Option.map_none] at e5
    simp [fnOf, fSeq, fNil, fSet, fRet, fDrop, fIf, fFgt, fgtO, fgt, fFor, fIfE, fT, fTru, truD, fAnd, fOr, fNot, fAndV, fOrV, fNotV, fOp2, fVar, fC, fB, fACons, fANil, fTup, fLst, fNeg, gRel, gInt2, gInt2C, gAdd, gMulX_int, gIx, gLen, gAbs, gInt, gEq, gIs, gIsNot, dv_dat, dv_lst, dv_al, dvs, own_dat, own_lst, own_bag, own_dcK, own_scr, flat_dat, flat_lst, Res.fin, frzs_nil, frzs_cons, frz_dat, intT_int, outs, als, argsOf, putArgs, fCall, eqv_int, shp_int, shp_none, shp_bool, noOwn, ownAt, sizeLine_eq, fIter, itemsOf, fRange1, fRange2, eqX_int, eqX_str, fEnumA, fFrz, fNever, permOk, perm, fCallK, fCallP, gMax2, gMin2, gMax3, gMin3, fPar2, fMulti, putM, fAsgG, fLc, F__law_least_pair, e5, pairD]
  | some q =>
    rw [hlp] at e5
    simp only [Option.map_some] at e5
    obtain ⟨Γ2, rfl⟩ : ∃ Γ2, Γ1 = some (.dat (.tuple ds)) :: Γ2 := by
      cases Γ1 with
      | nil => cases p1
      | cons x Γ2 => simp at p1; exact ⟨Γ2, by rw [p1]⟩
    simp [fnOf, fSeq, fNil, fSet, fRet, fDrop, fIf, fFgt, fgtO, fgt, fFor, fIfE, fT, fTru, truD, fAnd, fOr, fNot, fAndV, fOrV, fNotV, fOp2, fVar, fC, fB, fACons, fANil, fTup, fLst, fNeg, gRel, gInt2, gInt2C, gAdd, gMulX_int, gIx, gLen, gAbs, gInt, gEq, gIs, gIsNot, dv_dat, dv_lst, dv_al, dvs, own_dat, own_lst, own_bag, own_dcK, own_scr, flat_dat, flat_lst, Res.fin, frzs_nil, frzs_cons, frz_dat, intT_int, outs, als, argsOf, putArgs, fCall, eqv_int, shp_int, shp_none, shp_bool, noOwn, ownAt, sizeLine_eq, fIter, itemsOf, fRange1, fRange2, eqX_int, eqX_str, fEnumA, fFrz, fNever, permOk, perm, fCallK, fCallP, gMax2, gMin2, gMax3, gMin3, fPar2, fMulti, putM, fAsgG, fLc, F__law_least_pair, e5, pairM]
def Wp0 : FS := (fSet 2 4 (fCall F__law_pick (fACons (fVar 0) (fACons (fLst false (fACons (fOp2 gSub false (fVar 2) (fC (.int 1))) (fACons (fCall F__law_draw (fACons (fVar 0) (fACons (fVar 2) fANil))) fANil))) fANil))))
def Wp1 : FS := (fPar2 2 5 6 (fOp2 gIx false (fVar 1) (fVar 4)) (fCall F__law_draw (fACons (fVar 0) (fACons (fVar 2) fANil))))
def Wp2c : FT := (fT (fOp2 (gEqX false) false (fVar 3) (fC (.int 0))))
def Wp2t : FS := (fSeq (fSet 2 7 (fCall F__law_put (fACons (fVar 1) (fACons (fVar 4) (fACons (fOp2 gAdd false (fOp2 gAdd false (fSlice false (fVar 5) fONo (fOSo (fVar 6))) (fTup (fACons (fNeg (fOp2 gIx false (fVar 5) (fVar 6))) fANil))) (fSlice false (fVar 5) (fOSo (fOp2 gAdd false (fVar 6) (fC (.int 1)))) fONo)) fANil))))) (fSet 2 8 (fTup (fACons (fC (.str "rows")) (fACons (fC (.int 0)) (fACons (fIfE (fT (fOp2 gGt false (fVar 4) (fC (.int 0)))) (fVar 4) (fC (.int 1))) fANil))))))
def Wp2e : FS := (fIf (fT (fOp2 gLt false (fVar 3) (fC (.int 3)))) (fSeq (fSet 2 9 (fIfE (fAnd (fT (fOp2 (gEqX false) false (fVar 3) (fC (.int 1)))) (fT (fOp2 (gEqX false) false (fVar 4) (fOp2 gSub false (fVar 2) (fC (.int 1)))))) (fOp2 gSub false (fVar 2) (fC (.int 2))) (fOp2 gMod false (fB gInt false (fACons (fOp2 gAdd false (fOp2 gAdd false (fVar 4) (fC (.int 1))) (fCall F__law_draw (fACons (fVar 0) (fACons (fOp2 gSub false (fVar 2) (fC (.int 1))) fANil)))) fANil)) (fVar 2)))) (fSeq (fSet 2 7 (fCall F__law_put (fACons (fVar 1) (fACons (fVar 4) (fACons (fIfE (fT (fOp2 gGt false (fCall F__law_draw (fACons (fVar 0) (fACons (fC (.int 2)) fANil))) (fC (.int 0)))) (fOp2 gIx false (fVar 1) (fVar 9)) (fB gToT false (fACons (fLc false (fIter (fOp2 gIx false (fVar 1) (fVar 9))) (gN 10) tYesF e1__law_are_pairs_told [10]) fANil))) fANil))))) (fSet 2 8 (fTup (fACons (fC (.str "rows")) (fACons (fB gMin2 false (fACons (fVar 4) (fACons (fVar 9) fANil))) (fACons (fB gMax2 false (fACons (fVar 4) (fACons (fVar 9) fANil))) fANil))))))) (fSeq (fSet 2 7 (fCall F__law_put (fACons (fCall F__law_put (fACons (fVar 1) (fACons (fVar 4) (fACons (fOp2 gIx false (fVar 1) (fCall F__law_draw (fACons (fVar 0) (fACons (fVar 2) fANil)))) fANil)))) (fACons (fOp2 gSub false (fOp2 gSub false (fVar 2) (fC (.int 1))) (fVar 4)) (fACons (fOp2 gIx false (fVar 1) (fCall F__law_draw (fACons (fVar 0) (fACons (fVar 2) fANil)))) fANil))))) (fSet 2 8 (fCall F__law_least_pair (fACons (fVar 7) fANil)))))
def Wp2 : FS := fIf Wp2c Wp2t Wp2e
def Wp3 : FS := (fIf (fNot (fTru (fCall F__law_is_error (fACons (fVar 7) (fACons (fVar 8) (fACons (fOp2 gGt false (fCall F__law_draw (fACons (fVar 0) (fACons (fC (.int 2)) fANil))) (fC (.int 0))) fANil)))))) (fRet 2 true (fC (.bool false))) fNil)
theorem Wp_is : b2__law_are_pairs_told = fFgt [3, 4, 5, 6, 7, 8, 9] (fSeq Wp0 (fSeq Wp1 (fSeq Wp2 Wp3))) := rfl
abbrev Gp (B : MD) (ds : List PyData) (n t i : Nat) (rd : List PyData) (k : Nat) (bad due j : Option MD) : Gm := [some B, some (.dat (.tuple ds)), some (.dat (.int n)), some (.dat (.int t)), some (.dat (.int i)), some (.dat (.tuple rd)), some (.dat (.int k)), bad, due, j, none]
theorem tab_set (T : M48.Tab) (i : Nat) (r : List Int) : PyData.tuple ((T.map rowD).set i (rowD r)) = tabD (T.set i r) := by
  rw [tabD, List.map_set]
theorem row_flip {r : List Int} {k : Nat} (hk : k < r.length) : PyData.tuple ((r.map PyData.int).take k ++ .int (-(r.getD k 0)) :: (r.map PyData.int).drop (k + 1)) = rowD (M48.flip r k) := by
  rw [rowD, M48.flip, List.map_set, List.set_eq_take_append_cons_drop, if_pos (by simpa using hk)]
theorem wp2_0 {n i k : Nat} {T : M48.Tab} (h : M48.Had n T) (h1 : 1 < n) (hn : n ≤ 32) (hi : i < n) (hk : k < n) {B : MD} (hB : BagOk B) {r : List Int} (hr : T.getD i [] = r) :
    ∃ T' : M48.Tab, M48.Tb n T' ∧ Wp2 (Gp B (T.map rowD) n 0 i (r.map .int) k none none none) = some (.nx (Gp B (T.map rowD) n 0 i (r.map .int) k (some (.dat (tabD T'))) (some (.dat (pairD (M48.lp T')))) none)) := by
  have hT := h.toTb
  have rr := rowOk hT hi
  have e := M48.lp_flip h h1 hi hk
  rw [hr] at rr e
  refine ⟨T.set i (M48.flip r k), hT.set (M48.flip_ok rr hk), ?_⟩
  rw [e, ← tab_set, ← row_flip (by omega)]
  have hl := h.len
  obtain ⟨c1, c2⟩ := cutr (rd := r.map .int) (k := k) (by simp; omega)
  have p := put_ok (ds := T.map rowD) (i := i) (by simp; omega) (by simp; omega) (.tuple ((r.map PyData.int).take k ++ .int (-(r.getD k 0)) :: (r.map PyData.int).drop (k + 1)))
  have l1 : ((r.map PyData.int).take k).length + 1 ≤ 16777216 := by simp; omega
  have l2 : ((r.map PyData.int).take k).length + 1 + ((r.map PyData.int).drop (k + 1)).length ≤ 16777216 := by simp; omega
  have ek : (r.map PyData.int)[k]? = some (.int (r.getD k 0)) := by
    have hk' : k < r.length := by omega
    rw [List.getElem?_map, List.getElem?_eq_getElem hk', List.getD_eq_getElem?_getD, List.getElem?_eq_getElem hk']; rfl
  have x := atI_nat ek
  generalize r.getD k 0 = z at *
  generalize (r.map PyData.int).take k = u at *
  generalize (r.map PyData.int).drop (k + 1) = w at *
  generalize r.map PyData.int = rd at *
  generalize (T.map rowD).set i (.tuple (u ++ .int (-z) :: w)) = y at *
  generalize T.map rowD = ds at *
  by_cases q : 0 < i
  · have q' : (0 : Int) < i := by omega
    simp [fnOf, fSeq, fNil, fSet, fRet, fDrop, fIf, fFgt, fgtO, fgt, fFor, fIfE, fT, fTru, truD, fAnd, fOr, fNot, fAndV, fOrV, fNotV, fOp2, fVar, fC, fB, fACons, fANil, fTup, fLst, fNeg, gRel, gInt2, gInt2C, gAdd, gMulX_int, gIx, gLen, gAbs, gInt, gEq, gIs, gIsNot, dv_dat, dv_lst, dv_al, dvs, own_dat, own_lst, own_bag, own_dcK, own_scr, flat_dat, flat_lst, Res.fin, frzs_nil, frzs_cons, frz_dat, intT_int, outs, als, argsOf, putArgs, fCall, eqv_int, shp_int, shp_none, shp_bool, noOwn, ownAt, sizeLine_eq, fIter, itemsOf, fRange1, fRange2, eqX_int, eqX_str, fEnumA, fFrz, fNever, permOk, perm, fCallK, fCallP, gMax2, gMin2, gMax3, gMin3, fPar2, fMulti, putM, fAsgG, fLc, Wp2, Wp2c, Wp2t, hB.own, fSlice, fONo, fOSo, dvS, gSl, c1, c2, l1, l2, p, x, q, q', pairD]
  · have q' : ¬ (0 : Int) < i := by omega
    simp [fnOf, fSeq, fNil, fSet, fRet, fDrop, fIf, fFgt, fgtO, fgt, fFor, fIfE, fT, fTru, truD, fAnd, fOr, fNot, fAndV, fOrV, fNotV, fOp2, fVar, fC, fB, fACons, fANil, fTup, fLst, fNeg, gRel, gInt2, gInt2C, gAdd, gMulX_int, gIx, gLen, gAbs, gInt, gEq, gIs, gIsNot, dv_dat, dv_lst, dv_al, dvs, own_dat, own_lst, own_bag, own_dcK, own_scr, flat_dat, flat_lst, Res.fin, frzs_nil, frzs_cons, frz_dat, intT_int, outs, als, argsOf, putArgs, fCall, eqv_int, shp_int, shp_none, shp_bool, noOwn, ownAt, sizeLine_eq, fIter, itemsOf, fRange1, fRange2, eqX_int, eqX_str, fEnumA, fFrz, fNever, permOk, perm, fCallK, fCallP, gMax2, gMin2, gMax3, gMin3, fPar2, fMulti, putM, fAsgG, fLc, Wp2, Wp2c, Wp2t, hB.own, fSlice, fONo, fOSo, dvS, gSl, c1, c2, l1, l2, p, x, q, q', pairD]
theorem min_int (a b : Nat) : (if (b : Int) < a then (b : Int) else a) = ((min a b : Nat) : Int) := by
  split <;> omega
theorem neg_loop (r : List Int) (hr : r.length ≤ 64) {a b c d e f g i j k : Option MD} : loopL (gN 10) tYesF e1__law_are_pairs_told [10] (r.map .int) [] [a, b, c, d, e, f, g, i, j, k, none] = some ((M48.neg r).map .int, [a, b, c, d, e, f, g, i, j, k, none]) := by
  have := loopL_map (acc := []) (g := PyData.int) (f := fun x : Int => PyData.int (-x)) (l := r) (tg := gN 10) (tt := tYesF) (fe := e1__law_are_pairs_told) (own := [10]) (Γ := [a, b, c, d, e, f, g, i, j, k, none]) (by simp [sizeLine_eq]; omega) fun x _ => by simp [fnOf, fSeq, fNil, fSet, fRet, fDrop, fIf, fFgt, fgtO, fgt, fFor, fIfE, fT, fTru, truD, fAnd, fOr, fNot, fAndV, fOrV, fNotV, fOp2, fVar, fC, fB, fACons, fANil, fTup, fLst, fNeg, gRel, gInt2, gInt2C, gAdd, gMulX_int, gIx, gLen, gAbs, gInt, gEq, gIs, gIsNot, dv_dat, dv_lst, dv_al, dvs, own_dat, own_lst, own_bag, own_dcK, own_scr, flat_dat, flat_lst, Res.fin, frzs_nil, frzs_cons, frz_dat, intT_int, outs, als, argsOf, putArgs, fCall, eqv_int, shp_int, shp_none, shp_bool, noOwn, ownAt, sizeLine_eq, fIter, itemsOf, fRange1, fRange2, eqX_int, eqX_str, fEnumA, fFrz, fNever, permOk, perm, fCallK, fCallP, gMax2, gMin2, gMax3, gMin3, fPar2, fMulti, putM, fAsgG, fLc, lcStep, lsStep, tYesF, gN, gT, gsCons, gsNil, e1__law_are_pairs_told]
  rw [this]
  simp [M48.neg]
theorem if_t {c : FT} {a b : FS} {Γ Γ1 : Gm} (h : c Γ = some (true, Γ1)) : fIf c a b Γ = a Γ1 := by simp [fIf, h]
theorem if_f {c : FT} {a b : FS} {Γ Γ1 : Gm} (h : c Γ = some (false, Γ1)) : fIf c a b Γ = b Γ1 := by simp [fIf, h]
theorem wp2_12 {n i k t : Nat} {T : M48.Tab} (h : M48.Had n T) (h1 : 1 < n) (hn : n ≤ 32) (hi : i < n) {B : MD} (hB : BagOk B) (ht : t = 1 ∨ t = 2) (rd : List PyData) :
    ∃ (T' : M48.Tab) (B' : MD) (j : Option MD), M48.Tb n T' ∧ BagOk B' ∧ Wp2 (Gp B (T.map rowD) n t i rd k none none none) = some (.nx (Gp B' (T.map rowD) n t i rd k (some (.dat (tabD T'))) (some (.dat (pairD (M48.lp T')))) j)) := by
  have hT := h.toTb
  have hl := h.len
  have fin : ∀ (j : Nat) (B1 : MD), BagOk B1 → j < n → i ≠ j → ∃ (T' : M48.Tab) (B' : MD), M48.Tb n T' ∧ BagOk B' ∧
      fSeq (fSet 2 7 (fCall F__law_put (fACons (fVar 1) (fACons (fVar 4) (fACons (fIfE (fT (fOp2 gGt false (fCall F__law_draw (fACons (fVar 0) (fACons (fC (.int 2)) fANil))) (fC (.int 0)))) (fOp2 gIx false (fVar 1) (fVar 9)) (fB gToT false (fACons (fLc false (fIter (fOp2 gIx false (fVar 1) (fVar 9))) (gN 10) tYesF e1__law_are_pairs_told [10]) fANil))) fANil))))) (fSet 2 8 (fTup (fACons (fC (.str "rows")) (fACons (fB gMin2 false (fACons (fVar 4) (fACons (fVar 9) fANil))) (fACons (fB gMax2 false (fACons (fVar 4) (fACons (fVar 9) fANil))) fANil)))))
        (Gp B1 (T.map rowD) n t i rd k none none (some (.dat (.int j)))) = some (.nx (Gp B' (T.map rowD) n t i rd k (some (.dat (tabD T'))) (some (.dat (pairD (M48.lp T')))) (some (.dat (.int j))))) := by
    intro j B1 hB1 hj hij
    obtain ⟨v, B2, e2, hB2, v0, v1⟩ := draw hB1 (n := 2) (by omega) (by omega)
    have rj := rowOk hT hj
    have x0 := atI_nat (row_at hT hj)
    have tot : ∀ r' : List Int, r' = T.getD j [] ∨ r' = M48.neg (T.getD j []) → M48.Tb n (T.set i r') ∧ pairD (M48.lp (T.set i r')) = .tuple [.str "rows", .int (if (j : Int) < i then (j : Int) else i), .int (if (i : Int) < j then (j : Int) else i)] := fun r' hr' => by
      refine ⟨hT.set ?_, ?_⟩
      · rcases hr' with rfl | rfl
        · exact rj
        · exact ⟨by rw [M48.neg_length]; exact rj.1, rj.2.neg⟩
      · rw [M48.lp_same h hi hj hij hr']
        have a1 : ((min i j : Nat) : Int) = if (j : Int) < i then (j : Int) else i := by split <;> omega
        have a2 : ((max i j : Nat) : Int) = if (i : Int) < j then (j : Int) else i := by split <;> omega
        simp only [pairD, a1, a2]
    by_cases q : 0 < v
    · obtain ⟨t1, t2⟩ := tot (T.getD j []) (.inl rfl)
      refine ⟨_, B2, t1, hB2, ?_⟩
      rw [t2, ← tab_set]
      have p := put_ok (ds := T.map rowD) (i := i) (by simp; omega) (by simp; omega) (rowD (T.getD j []))
      generalize (T.map rowD).set i (rowD (T.getD j [])) = y at *
      generalize rowD (T.getD j []) = z at *
      generalize T.map rowD = ds at *
      simp [fnOf, fSeq, fNil, fSet, fRet, fDrop, fIf, fFgt, fgtO, fgt, fFor, fIfE, fT, fTru, truD, fAnd, fOr, fNot, fAndV, fOrV, fNotV, fOp2, fVar, fC, fB, fACons, fANil, fTup, fLst, fNeg, gRel, gInt2, gInt2C, gAdd, gMulX_int, gIx, gLen, gAbs, gInt, gEq, gIs, gIsNot, dv_dat, dv_lst, dv_al, dvs, own_dat, own_lst, own_bag, own_dcK, own_scr, flat_dat, flat_lst, Res.fin, frzs_nil, frzs_cons, frz_dat, intT_int, outs, als, argsOf, putArgs, fCall, eqv_int, shp_int, shp_none, shp_bool, noOwn, ownAt, sizeLine_eq, fIter, itemsOf, fRange1, fRange2, eqX_int, eqX_str, fEnumA, fFrz, fNever, permOk, perm, fCallK, fCallP, gMax2, gMin2, gMax3, gMin3, fPar2, fMulti, putM, fAsgG, fLc, hB1.own, hB2.own, e2, q, x0, p]
    · obtain ⟨t1, t2⟩ := tot (M48.neg (T.getD j [])) (.inr rfl)
      refine ⟨_, B2, t1, hB2, ?_⟩
      rw [t2, ← tab_set]
      have p := put_ok (ds := T.map rowD) (i := i) (by simp; omega) (by simp; omega) (rowD (M48.neg (T.getD j [])))
      generalize T.getD j [] = r at *
      have lp := fun a b c d e f g i' j' k' => neg_loop r (by omega) (a := a) (b := b) (c := c) (d := d) (e := e) (f := f) (g := g) (i := i') (j := j') (k := k')
      simp only [rowD] at x0 p ⊢
      generalize (M48.neg r).map PyData.int = z at *
      generalize r.map PyData.int = w at *
      generalize (List.map (fun r => PyData.tuple (List.map PyData.int r)) T).set i (.tuple z) = y at *
      generalize List.map (fun r => PyData.tuple (List.map PyData.int r)) T = ds at *
      simp [fnOf, fSeq, fNil, fSet, fRet, fDrop, fIf, fFgt, fgtO, fgt, fFor, fIfE, fT, fTru, truD, fAnd, fOr, fNot, fAndV, fOrV, fNotV, fOp2, fVar, fC, fB, fACons, fANil, fTup, fLst, fNeg, gRel, gInt2, gInt2C, gAdd, gMulX_int, gIx, gLen, gAbs, gInt, gEq, gIs, gIsNot, dv_dat, dv_lst, dv_al, dvs, own_dat, own_lst, own_bag, own_dcK, own_scr, flat_dat, flat_lst, Res.fin, frzs_nil, frzs_cons, frz_dat, intT_int, outs, als, argsOf, putArgs, fCall, eqv_int, shp_int, shp_none, shp_bool, noOwn, ownAt, sizeLine_eq, fIter, itemsOf, fRange1, fRange2, eqX_int, eqX_str, fEnumA, fFrz, fNever, permOk, perm, fCallK, fCallP, gMax2, gMin2, gMax3, gMin3, fPar2, fMulti, putM, fAsgG, fLc, hB1.own, hB2.own, e2, q, x0, lp, p, gToT]
  have hd : ∀ x : Int, divOk x n = true := fun x => divNat (by omega) (by omega)
  by_cases q : t = 1 ∧ i = n - 1
  · obtain ⟨q1, q2⟩ := q
    obtain ⟨T', B', f1, f2, f3⟩ := fin (n - 2) B hB (by omega) (by omega)
    refine ⟨T', B', some (.dat (.int ((n : Int) - 2))), f1, f2, ?_⟩
    rw [show ((n - 2 : Nat) : Int) = (n : Int) - 2 by omega] at f3
    rw [← f3]
    have q2' : (i : Int) = (n : Int) - 1 := by omega
    subst q1
    have c : Wp2c (Gp B (T.map rowD) n 1 i rd k none none none) = some (false, Gp B (T.map rowD) n 1 i rd k none none none) := by simp [fnOf, fSeq, fNil, fSet, fRet, fDrop, fIf, fFgt, fgtO, fgt, fFor, fIfE, fT, fTru, truD, fAnd, fOr, fNot, fAndV, fOrV, fNotV, fOp2, fVar, fC, fB, fACons, fANil, fTup, fLst, fNeg, gRel, gInt2, gInt2C, gAdd, gMulX_int, gIx, gLen, gAbs, gInt, gEq, gIs, gIsNot, dv_dat, dv_lst, dv_al, dvs, own_dat, own_lst, own_bag, own_dcK, own_scr, flat_dat, flat_lst, Res.fin, frzs_nil, frzs_cons, frz_dat, intT_int, outs, als, argsOf, putArgs, fCall, eqv_int, shp_int, shp_none, shp_bool, noOwn, ownAt, sizeLine_eq, fIter, itemsOf, fRange1, fRange2, eqX_int, eqX_str, fEnumA, fFrz, fNever, permOk, perm, fCallK, fCallP, gMax2, gMin2, gMax3, gMin3, fPar2, fMulti, putM, fAsgG, fLc, Wp2c]
    rw [Wp2, if_f c]
    have c2 : (fT (fOp2 gLt false (fVar 3) (fC (.int 3)))) (Gp B (T.map rowD) n 1 i rd k none none none) = some (true, Gp B (T.map rowD) n 1 i rd k none none none) := by simp [fnOf, fSeq, fNil, fSet, fRet, fDrop, fIf, fFgt, fgtO, fgt, fFor, fIfE, fT, fTru, truD, fAnd, fOr, fNot, fAndV, fOrV, fNotV, fOp2, fVar, fC, fB, fACons, fANil, fTup, fLst, fNeg, gRel, gInt2, gInt2C, gAdd, gMulX_int, gIx, gLen, gAbs, gInt, gEq, gIs, gIsNot, dv_dat, dv_lst, dv_al, dvs, own_dat, own_lst, own_bag, own_dcK, own_scr, flat_dat, flat_lst, Res.fin, frzs_nil, frzs_cons, frz_dat, intT_int, outs, als, argsOf, putArgs, fCall, eqv_int, shp_int, shp_none, shp_bool, noOwn, ownAt, sizeLine_eq, fIter, itemsOf, fRange1, fRange2, eqX_int, eqX_str, fEnumA, fFrz, fNever, permOk, perm, fCallK, fCallP, gMax2, gMin2, gMax3, gMin3, fPar2, fMulti, putM, fAsgG, fLc, ]
    rw [Wp2e, if_t c2]
    refine seq_nx ?_
    simp [fnOf, fSeq, fNil, fSet, fRet, fDrop, fIf, fFgt, fgtO, fgt, fFor, fIfE, fT, fTru, truD, fAnd, fOr, fNot, fAndV, fOrV, fNotV, fOp2, fVar, fC, fB, fACons, fANil, fTup, fLst, fNeg, gRel, gInt2, gInt2C, gAdd, gMulX_int, gIx, gLen, gAbs, gInt, gEq, gIs, gIsNot, dv_dat, dv_lst, dv_al, dvs, own_dat, own_lst, own_bag, own_dcK, own_scr, flat_dat, flat_lst, Res.fin, frzs_nil, frzs_cons, frz_dat, intT_int, outs, als, argsOf, putArgs, fCall, eqv_int, shp_int, shp_none, shp_bool, noOwn, ownAt, sizeLine_eq, fIter, itemsOf, fRange1, fRange2, eqX_int, eqX_str, fEnumA, fFrz, fNever, permOk, perm, fCallK, fCallP, gMax2, gMin2, gMax3, gMin3, fPar2, fMulti, putM, fAsgG, fLc, hB.own, q2']
  · obtain ⟨v, B1, e1, hB1, v0, v1⟩ := draw hB (n := (n : Int) - 1) (by omega) (by omega)
    have z0 : 0 ≤ ((i : Int) + 1 + v) % n := Int.emod_nonneg _ (by omega)
    have z1 : ((i : Int) + 1 + v) % n < n := Int.emod_lt_of_pos _ (by omega)
    have ne : ((i : Int) + 1 + v) % n ≠ i := fun e => by
      have h2 := Int.emod_add_mul_ediv ((i : Int) + 1 + v) n
      rw [e] at h2
      have h3 : (n : Int) * (((i : Int) + 1 + v) / n) = 1 + v := by omega
      generalize ((i : Int) + 1 + v) / n = w at h3
      have : (0 : Int) < w := by
        by_cases hw : 0 < w
        · exact hw
        · have : (n : Int) * w ≤ 0 := Int.mul_nonpos_of_nonneg_of_nonpos (by omega) (by omega)
          omega
      have : (n : Int) * 1 ≤ n * w := Int.mul_le_mul_of_nonneg_left (by omega) (by omega)
      omega
    obtain ⟨j, hj⟩ : ∃ j : Nat, ((i : Int) + 1 + v) % n = j := ⟨(((i : Int) + 1 + v) % n).toNat, by omega⟩
    obtain ⟨T', B', f1, f2, f3⟩ := fin j B1 hB1 (by omega) (by omega)
    refine ⟨T', B', some (.dat (.int j)), f1, f2, ?_⟩
    rw [← f3]
    have hh := hd ((i : Int) + 1 + v)
    have ht0 : ¬ (t : Int) = 0 := by omega
    have ht3 : (t : Int) < 3 := by omega
    have c : Wp2c (Gp B (T.map rowD) n t i rd k none none none) = some (false, Gp B (T.map rowD) n t i rd k none none none) := by simp [fnOf, fSeq, fNil, fSet, fRet, fDrop, fIf, fFgt, fgtO, fgt, fFor, fIfE, fT, fTru, truD, fAnd, fOr, fNot, fAndV, fOrV, fNotV, fOp2, fVar, fC, fB, fACons, fANil, fTup, fLst, fNeg, gRel, gInt2, gInt2C, gAdd, gMulX_int, gIx, gLen, gAbs, gInt, gEq, gIs, gIsNot, dv_dat, dv_lst, dv_al, dvs, own_dat, own_lst, own_bag, own_dcK, own_scr, flat_dat, flat_lst, Res.fin, frzs_nil, frzs_cons, frz_dat, intT_int, outs, als, argsOf, putArgs, fCall, eqv_int, shp_int, shp_none, shp_bool, noOwn, ownAt, sizeLine_eq, fIter, itemsOf, fRange1, fRange2, eqX_int, eqX_str, fEnumA, fFrz, fNever, permOk, perm, fCallK, fCallP, gMax2, gMin2, gMax3, gMin3, fPar2, fMulti, putM, fAsgG, fLc, Wp2c, ht0]; omega
    rw [Wp2, if_f c]
    have c2 : (fT (fOp2 gLt false (fVar 3) (fC (.int 3)))) (Gp B (T.map rowD) n t i rd k none none none) = some (true, Gp B (T.map rowD) n t i rd k none none none) := by simp [fnOf, fSeq, fNil, fSet, fRet, fDrop, fIf, fFgt, fgtO, fgt, fFor, fIfE, fT, fTru, truD, fAnd, fOr, fNot, fAndV, fOrV, fNotV, fOp2, fVar, fC, fB, fACons, fANil, fTup, fLst, fNeg, gRel, gInt2, gInt2C, gAdd, gMulX_int, gIx, gLen, gAbs, gInt, gEq, gIs, gIsNot, dv_dat, dv_lst, dv_al, dvs, own_dat, own_lst, own_bag, own_dcK, own_scr, flat_dat, flat_lst, Res.fin, frzs_nil, frzs_cons, frz_dat, intT_int, outs, als, argsOf, putArgs, fCall, eqv_int, shp_int, shp_none, shp_bool, noOwn, ownAt, sizeLine_eq, fIter, itemsOf, fRange1, fRange2, eqX_int, eqX_str, fEnumA, fFrz, fNever, permOk, perm, fCallK, fCallP, gMax2, gMin2, gMax3, gMin3, fPar2, fMulti, putM, fAsgG, fLc, ht3]
    rw [Wp2e, if_t c2]
    refine seq_nx ?_
    generalize T.map rowD = ds at *
    have np : 0 < n := by omega
    by_cases q1 : (t : Int) = 1
    · have q2 : ¬ (i : Int) = (n : Int) - 1 := by omega
      simp [fnOf, fSeq, fNil, fSet, fRet, fDrop, fIf, fFgt, fgtO, fgt, fFor, fIfE, fT, fTru, truD, fAnd, fOr, fNot, fAndV, fOrV, fNotV, fOp2, fVar, fC, fB, fACons, fANil, fTup, fLst, fNeg, gRel, gInt2, gInt2C, gAdd, gMulX_int, gIx, gLen, gAbs, gInt, gEq, gIs, gIsNot, dv_dat, dv_lst, dv_al, dvs, own_dat, own_lst, own_bag, own_dcK, own_scr, flat_dat, flat_lst, Res.fin, frzs_nil, frzs_cons, frz_dat, intT_int, outs, als, argsOf, putArgs, fCall, eqv_int, shp_int, shp_none, shp_bool, noOwn, ownAt, sizeLine_eq, fIter, itemsOf, fRange1, fRange2, eqX_int, eqX_str, fEnumA, fFrz, fNever, permOk, perm, fCallK, fCallP, gMax2, gMin2, gMax3, gMin3, fPar2, fMulti, putM, fAsgG, fLc, hB.own, hB1.own, q1, q2, e1, hh, hj, np]
    · simp [fnOf, fSeq, fNil, fSet, fRet, fDrop, fIf, fFgt, fgtO, fgt, fFor, fIfE, fT, fTru, truD, fAnd, fOr, fNot, fAndV, fOrV, fNotV, fOp2, fVar, fC, fB, fACons, fANil, fTup, fLst, fNeg, gRel, gInt2, gInt2C, gAdd, gMulX_int, gIx, gLen, gAbs, gInt, gEq, gIs, gIsNot, dv_dat, dv_lst, dv_al, dvs, own_dat, own_lst, own_bag, own_dcK, own_scr, flat_dat, flat_lst, Res.fin, frzs_nil, frzs_cons, frz_dat, intT_int, outs, als, argsOf, putArgs, fCall, eqv_int, shp_int, shp_none, shp_bool, noOwn, ownAt, sizeLine_eq, fIter, itemsOf, fRange1, fRange2, eqX_int, eqX_str, fEnumA, fFrz, fNever, permOk, perm, fCallK, fCallP, gMax2, gMin2, gMax3, gMin3, fPar2, fMulti, putM, fAsgG, fLc, hB.own, hB1.own, q1, e1, hh, hj, np]
theorem wp2_3 {n i k : Nat} {T : M48.Tab} (h : M48.Tb n T) (h1 : 1 < n) (hn : n ≤ 32) (hi : i < n) {B : MD} (hB : BagOk B) (rd : List PyData) :
    ∃ (T' : M48.Tab) (B' : MD), M48.Tb n T' ∧ BagOk B' ∧ Wp2 (Gp B (T.map rowD) n 3 i rd k none none none) = some (.nx (Gp B' (T.map rowD) n 3 i rd k (some (.dat (tabD T'))) (some (.dat (pairD (M48.lp T')))) none)) := by
  have hl := h.len
  obtain ⟨a, B1, e1, hB1, ha⟩ := drawN hB (n := n) (by omega) (by omega)
  obtain ⟨b, B2, e2, hB2, hb⟩ := drawN hB1 (n := n) (by omega) (by omega)
  have ra := rowOk h ha
  have rb := rowOk h hb
  have xa := atI_nat (row_at h ha)
  have xb := atI_nat (row_at h hb)
  have p1 := put_ok (ds := T.map rowD) (i := i) (by simp; omega) (by simp; omega) (rowD (T.getD a []))
  rw [tab_set] at p1
  have h2 : M48.Tb n (T.set i (T.getD a [])) := h.set ra
  have hl2 := h2.len
  have p2 := put_ok (ds := (T.set i (T.getD a [])).map rowD) (i := n - 1 - i) (by simp; omega) (by simp; omega) (rowD (T.getD b []))
  rw [tab_set] at p2
  have h3 : M48.Tb n ((T.set i (T.getD a [])).set (n - 1 - i) (T.getD b [])) := h2.set rb
  refine ⟨_, B2, h3, hB2, ?_⟩
  have lp := least_ok h3 hn
  rw [show ((n - 1 - i : Nat) : Int) = (n : Int) - 1 - i by omega] at p2
  simp only [tabD] at p1 p2 lp ⊢
  generalize ((T.set i (T.getD a [])).set (n - 1 - i) (T.getD b [])).map rowD = u at *
  generalize (T.set i (T.getD a [])).map rowD = w at *
  generalize pairD (M48.lp ((T.set i (T.getD a [])).set (n - 1 - i) (T.getD b []))) = z at *
  generalize rowD (T.getD a []) = ra at *
  generalize rowD (T.getD b []) = rb at *
  generalize T.map rowD = ds at *
  simp [fnOf, fSeq, fNil, fSet, fRet, fDrop, fIf, fFgt, fgtO, fgt, fFor, fIfE, fT, fTru, truD, fAnd, fOr, fNot, fAndV, fOrV, fNotV, fOp2, fVar, fC, fB, fACons, fANil, fTup, fLst, fNeg, gRel, gInt2, gInt2C, gAdd, gMulX_int, gIx, gLen, gAbs, gInt, gEq, gIs, gIsNot, dv_dat, dv_lst, dv_al, dvs, own_dat, own_lst, own_bag, own_dcK, own_scr, flat_dat, flat_lst, Res.fin, frzs_nil, frzs_cons, frz_dat, intT_int, outs, als, argsOf, putArgs, fCall, eqv_int, shp_int, shp_none, shp_bool, noOwn, ownAt, sizeLine_eq, fIter, itemsOf, fRange1, fRange2, eqX_int, eqX_str, fEnumA, fFrz, fNever, permOk, perm, fCallK, fCallP, gMax2, gMin2, gMax3, gMin3, fPar2, fMulti, putM, fAsgG, fLc, Wp2, Wp2c, Wp2e, hB.own, hB1.own, hB2.own, e1, e2, xa, xb, p1, p2, lp]
theorem pair_plain (o : Option (Nat × Nat)) : Plain 2 (pairD o) := by
  cases o with
  | none => exact .non _
  | some q =>
    refine .tup _ _ (by simp [sizeLine_eq]) fun d hd => ?_
    simp only [List.mem_cons, List.not_mem_nil, or_false] at hd
    rcases hd with rfl | rfl | rfl
    · exact plS "rows"
    · exact .int _ _
    · exact .int _ _
theorem pair_turn {n t : Nat} {T : M48.Tab} (h : M48.Had n T) (h1 : 1 < n) (hn : n ≤ 32) {B : MD} (hB : BagOk B) (ht : t < 4) :
    ∃ B', lsStep (gN 3) b2__law_are_pairs_told (.int t) [some B, some (.dat (tabD T)), some (.dat (.int n)), none, none, none, none, none, none, none, none] = some (.nx [some B', some (.dat (tabD T)), some (.dat (.int n)), none, none, none, none, none, none, none, none]) ∧ BagOk B' := by
  have hT := h.toTb
  obtain ⟨v, i, B1, B2, e1, e2, hB1, hB2, hi⟩ := pick_ix (n := n) (by omega) (by omega) hB
  obtain ⟨k, B3, e3, hB3, hk⟩ := drawN hB2 (n := n) (by omega) (by omega)
  have x0 := atI_nat (row_at hT hi)
  obtain ⟨T', B4, j, hT', hB4, e4⟩ : ∃ (T' : M48.Tab) (B' : MD) (j : Option MD), M48.Tb n T' ∧ BagOk B' ∧ Wp2 (Gp B3 (T.map rowD) n t i ((T.getD i []).map .int) k none none none) = some (.nx (Gp B' (T.map rowD) n t i ((T.getD i []).map .int) k (some (.dat (tabD T'))) (some (.dat (pairD (M48.lp T')))) j)) := by
    rcases (show t = 0 ∨ (t = 1 ∨ t = 2) ∨ t = 3 by omega) with rfl | q | rfl
    · obtain ⟨T', a, b⟩ := wp2_0 h h1 hn hi hk hB3 rfl
      exact ⟨T', B3, none, a, hB3, b⟩
    · exact wp2_12 h h1 hn hi hB3 q _
    · obtain ⟨T', B', a, b, c⟩ := wp2_3 (k := k) hT h1 hn hi hB3 ((T.getD i []).map .int)
      exact ⟨T', B', none, a, b, c⟩
  obtain ⟨u, B5, e5, hB5, u0, u1⟩ := draw hB4 (n := 2) (by omega) (by omega)
  have e6 := is_error_ok (err_tab hT' (by omega) hn) (pair_plain _) (by decide) (decide (0 < u))
  refine ⟨B5, ?_, hB5⟩
  have w0 : Wp0 [some B, some (.dat (tabD T)), some (.dat (.int n)), some (.dat (.int t)), none, none, none, none, none, none, none] = some (.nx [some B2, some (.dat (tabD T)), some (.dat (.int n)), some (.dat (.int t)), some (.dat (.int i)), none, none, none, none, none, none]) := by
    simp [fnOf, fSeq, fNil, fSet, fRet, fDrop, fIf, fFgt, fgtO, fgt, fFor, fIfE, fT, fTru, truD, fAnd, fOr, fNot, fAndV, fOrV, fNotV, fOp2, fVar, fC, fB, fACons, fANil, fTup, fLst, fNeg, gRel, gInt2, gInt2C, gAdd, gMulX_int, gIx, gLen, gAbs, gInt, gEq, gIs, gIsNot, dv_dat, dv_lst, dv_al, dvs, own_dat, own_lst, own_bag, own_dcK, own_scr, flat_dat, flat_lst, Res.fin, frzs_nil, frzs_cons, frz_dat, intT_int, outs, als, argsOf, putArgs, fCall, eqv_int, shp_int, shp_none, shp_bool, noOwn, ownAt, sizeLine_eq, fIter, itemsOf, fRange1, fRange2, eqX_int, eqX_str, fEnumA, fFrz, fNever, permOk, perm, fCallK, fCallP, gMax2, gMin2, gMax3, gMin3, fPar2, fMulti, putM, fAsgG, fLc, Wp0, hB.own, hB1.own, hB2.own, e1, e2]
  have w1 : Wp1 [some B2, some (.dat (tabD T)), some (.dat (.int n)), some (.dat (.int t)), some (.dat (.int i)), none, none, none, none, none, none] = some (.nx (Gp B3 (T.map rowD) n t i ((T.getD i []).map .int) k none none none)) := by
    simp only [rowD] at x0
    generalize (T.getD i []).map PyData.int = z at *
    simp [fnOf, fSeq, fNil, fSet, fRet, fDrop, fIf, fFgt, fgtO, fgt, fFor, fIfE, fT, fTru, truD, fAnd, fOr, fNot, fAndV, fOrV, fNotV, fOp2, fVar, fC, fB, fACons, fANil, fTup, fLst, fNeg, gRel, gInt2, gInt2C, gAdd, gMulX_int, gIx, gLen, gAbs, gInt, gEq, gIs, gIsNot, dv_dat, dv_lst, dv_al, dvs, own_dat, own_lst, own_bag, own_dcK, own_scr, flat_dat, flat_lst, Res.fin, frzs_nil, frzs_cons, frz_dat, intT_int, outs, als, argsOf, putArgs, fCall, eqv_int, shp_int, shp_none, shp_bool, noOwn, ownAt, sizeLine_eq, fIter, itemsOf, fRange1, fRange2, eqX_int, eqX_str, fEnumA, fFrz, fNever, permOk, perm, fCallK, fCallP, gMax2, gMin2, gMax3, gMin3, fPar2, fMulti, putM, fAsgG, fLc, Wp1, hB2.own, hB3.own, e3, x0, tabD]
  have w3 : Wp3 (Gp B4 (T.map rowD) n t i ((T.getD i []).map .int) k (some (.dat (tabD T'))) (some (.dat (pairD (M48.lp T')))) j) = some (.nx (Gp B5 (T.map rowD) n t i ((T.getD i []).map .int) k (some (.dat (tabD T'))) (some (.dat (pairD (M48.lp T')))) j)) := by
    simp [fnOf, fSeq, fNil, fSet, fRet, fDrop, fIf, fFgt, fgtO, fgt, fFor, fIfE, fT, fTru, truD, fAnd, fOr, fNot, fAndV, fOrV, fNotV, fOp2, fVar, fC, fB, fACons, fANil, fTup, fLst, fNeg, gRel, gInt2, gInt2C, gAdd, gMulX_int, gIx, gLen, gAbs, gInt, gEq, gIs, gIsNot, dv_dat, dv_lst, dv_al, dvs, own_dat, own_lst, own_bag, own_dcK, own_scr, flat_dat, flat_lst, Res.fin, frzs_nil, frzs_cons, frz_dat, intT_int, outs, als, argsOf, putArgs, fCall, eqv_int, shp_int, shp_none, shp_bool, noOwn, ownAt, sizeLine_eq, fIter, itemsOf, fRange1, fRange2, eqX_int, eqX_str, fEnumA, fFrz, fNever, permOk, perm, fCallK, fCallP, gMax2, gMin2, gMax3, gMin3, fPar2, fMulti, putM, fAsgG, fLc, Wp3, hB4.own, hB5.own, e5, e6]
  show Option.bind (gN 3 (.int t) _) b2__law_are_pairs_told = _
  rw [Wp_is]
  have g : gN 3 (.int t) [some B, some (.dat (tabD T)), some (.dat (.int n)), none, none, none, none, none, none, none, none] = some [some B, some (.dat (tabD T)), some (.dat (.int n)), some (.dat (.int t)), none, none, none, none, none, none, none] := by simp [fnOf, fSeq, fNil, fSet, fRet, fDrop, fIf, fFgt, fgtO, fgt, fFor, fIfE, fT, fTru, truD, fAnd, fOr, fNot, fAndV, fOrV, fNotV, fOp2, fVar, fC, fB, fACons, fANil, fTup, fLst, fNeg, gRel, gInt2, gInt2C, gAdd, gMulX_int, gIx, gLen, gAbs, gInt, gEq, gIs, gIsNot, dv_dat, dv_lst, dv_al, dvs, own_dat, own_lst, own_bag, own_dcK, own_scr, flat_dat, flat_lst, Res.fin, frzs_nil, frzs_cons, frz_dat, intT_int, outs, als, argsOf, putArgs, fCall, eqv_int, shp_int, shp_none, shp_bool, noOwn, ownAt, sizeLine_eq, fIter, itemsOf, fRange1, fRange2, eqX_int, eqX_str, fEnumA, fFrz, fNever, permOk, perm, fCallK, fCallP, gMax2, gMin2, gMax3, gMin3, fPar2, fMulti, putM, fAsgG, fLc, lcStep, lsStep, tYesF, gN, gT, gsCons, gsNil, ]
  rw [g, Option.bind_some, fFgt, seq_nx w0, seq_nx w1, seq_nx e4, w3]
  simp [fgtO, fgt, tabD]
theorem pairs_ok {n : Nat} {T : M48.Tab} (h : M48.Had n T) (h1 : 1 < n) (hn : n ≤ 32) {B : MD} (hB : BagOk B) : ∃ B', F__law_are_pairs_told [B, .dat (tabD T)] = some (.dat (.bool true), [some B', none]) ∧ BagOk B' := by
  have hl := h.len
  obtain ⟨m, hm, em⟩ : ∃ m : Nat, m ≤ 4 ∧ (if n < 20 then 4 else 3) = m := ⟨_, by split <;> omega, rfl⟩
  have r1 := rg1_nat (p := m) (by omega)
  obtain ⟨Γ, e, B1, hΓ, hB1⟩ := loopS_ok (tg := gN 3) (b := b2__law_are_pairs_told) (P := fun _ Γ => ∃ B', Γ = [some B', some (.dat (tabD T)), some (.dat (.int n)), none, none, none, none, none, none, none, none] ∧ BagOk B') (items := (List.range m).map fun (x : Nat) => PyData.int x) 0 ⟨B, rfl, hB⟩ fun i d Γ hd hΓ => by
      obtain ⟨B2, rfl, hB2⟩ := hΓ
      rw [List.getElem?_map] at hd
      obtain ⟨x, hx, e⟩ := Option.map_eq_some_iff.mp hd
      subst e
      obtain ⟨hi, e⟩ := List.getElem?_eq_some_iff.mp hx
      simp at hi e
      obtain ⟨B3, e3, hB3⟩ := pair_turn (t := i) h h1 hn hB2 (by omega)
      exact ⟨_, .inl (by rw [← e]; exact e3), B3, rfl, hB3⟩
  refine ⟨B1, ?_, hB1⟩
  subst hΓ
  by_cases q : n < 20
  · have q' : (n : Int) < 20 := by omega
    rw [if_pos q] at em
    subst em
    rw [show ((4 : Nat) : Int) = 4 from rfl] at r1
    generalize (List.range 4).map (fun (x : Nat) => PyData.int x) = rr at *
    simp [fnOf, fSeq, fNil, fSet, fRet, fDrop, fIf, fFgt, fgtO, fgt, fFor, fIfE, fT, fTru, truD, fAnd, fOr, fNot, fAndV, fOrV, fNotV, fOp2, fVar, fC, fB, fACons, fANil, fTup, fLst, fNeg, gRel, gInt2, gInt2C, gAdd, gMulX_int, gIx, gLen, gAbs, gInt, gEq, gIs, gIsNot, dv_dat, dv_lst, dv_al, dvs, own_dat, own_lst, own_bag, own_dcK, own_scr, flat_dat, flat_lst, Res.fin, frzs_nil, frzs_cons, frz_dat, intT_int, outs, als, argsOf, putArgs, fCall, eqv_int, shp_int, shp_none, shp_bool, noOwn, ownAt, sizeLine_eq, fIter, itemsOf, fRange1, fRange2, eqX_int, eqX_str, fEnumA, fFrz, fNever, permOk, perm, fCallK, fCallP, gMax2, gMin2, gMax3, gMin3, fPar2, fMulti, putM, fAsgG, fLc, F__law_are_pairs_told, hl, q, q', r1, e, hB.own, hB1.own]
  · have q' : ¬ (n : Int) < 20 := by omega
    rw [if_neg q] at em
    subst em
    rw [show ((3 : Nat) : Int) = 3 from rfl] at r1
    generalize (List.range 3).map (fun (x : Nat) => PyData.int x) = rr at *
    simp [fnOf, fSeq, fNil, fSet, fRet, fDrop, fIf, fFgt, fgtO, fgt, fFor, fIfE, fT, fTru, truD, fAnd, fOr, fNot, fAndV, fOrV, fNotV, fOp2, fVar, fC, fB, fACons, fANil, fTup, fLst, fNeg, gRel, gInt2, gInt2C, gAdd, gMulX_int, gIx, gLen, gAbs, gInt, gEq, gIs, gIsNot, dv_dat, dv_lst, dv_al, dvs, own_dat, own_lst, own_bag, own_dcK, own_scr, flat_dat, flat_lst, Res.fin, frzs_nil, frzs_cons, frz_dat, intT_int, outs, als, argsOf, putArgs, fCall, eqv_int, shp_int, shp_none, shp_bool, noOwn, ownAt, sizeLine_eq, fIter, itemsOf, fRange1, fRange2, eqX_int, eqX_str, fEnumA, fFrz, fNever, permOk, perm, fCallK, fCallP, gMax2, gMin2, gMax3, gMin3, fPar2, fMulti, putM, fAsgG, fLc, F__law_are_pairs_told, hl, q, q', r1, e, hB.own, hB1.own]
end Lw

end

/-! K48q: the whole law -/
noncomputable section
namespace Lw
open PySem PySem.Spec PyProof.Rows L2 Fx

def Wr0 : FS := (fSet 1 1 (fCall F__law_draw (fACons (fVar 0) (fACons (fC (.int 16)) fANil))))
def Wr1 : FS := (fPar2 1 2 3 (fCall F__law_pick (fACons (fVar 0) (fACons (fLst false (fACons (fC (.int 0)) (fACons (fC (.int 1)) (fACons (fC (.int 1)) (fACons (fC (.int 2)) (fACons (fC (.int 2)) (fACons (fC (.int 3)) (fACons (fC (.int 3)) (fACons (fC (.int 3)) (fACons (fC (.int 4)) fANil)))))))))) fANil))) (fCall F__law_pick (fACons (fVar 0) (fACons (fLst false (fACons (fC (.int 3)) (fACons (fC (.int 3)) (fACons (fC (.int 7)) (fACons (fC (.int 7)) (fACons (fC (.int 11)) fANil)))))) fANil))))
def Wr2 : FS := (fIf (fT (fOp2 gLt false (fVar 1) (fC (.int 2)))) (fPar2 1 2 3 (fIfE (fT (fOp2 (gEqX false) false (fVar 1) (fC (.int 0)))) (fC (.int 5)) (fC (.int 4))) (fCall F__law_pick (fACons (fVar 0) (fACons (fLst false (fACons (fC (.int 19)) (fACons (fC (.int 23)) (fACons (fC (.int 31)) fANil)))) fANil)))) fNil)
def Wr3 : FS := (fPar2 1 4 5 (fOp2 gGt false (fCall F__law_draw (fACons (fVar 0) (fACons (fC (.int 2)) fANil))) (fC (.int 0))) (fOp2 gGt false (fCall F__law_draw (fACons (fVar 0) (fACons (fC (.int 2)) fANil))) (fC (.int 0))))
def Wr4 : FS := (fIf (fT (fOp2 gLt false (fVar 1) (fC (.int 2)))) (fSet 1 5 (fOp2 (gEqX false) false (fVar 1) (fC (.int 0)))) fNil)
def Wr5 : FS := (fIf (fTru (fVar 5)) (fPar2 1 6 7 (fIfE (fTru (fVar 4)) (fCallK F_doubled_table 1 [0] (fACons (fVar 2) fANil)) (fCall F_doubled_table (fACons (fVar 2) fANil))) (fCall F__law_doubled (fACons (fVar 2) fANil))) (fPar2 1 6 7 (fIfE (fTru (fVar 4)) (fCallK F_leftover_table 1 [0] (fACons (fVar 3) fANil)) (fCall F_leftover_table (fACons (fVar 3) fANil))) (fCall F__law_leftover (fACons (fVar 3) fANil))))
def Wr6 : FS := (fIf (fNot (fTru (fCall (F__law_same 8) (fACons (fVar 6) (fACons (fVar 7) fANil))))) (fRet 1 true (fC (.bool false))) fNil)
def Wr7 : FS := (fSet 1 8 (fCall F__law_own_table (fACons (fVar 0) (fACons (fVar 7) fANil))))
def Wr8 : FS := (fIf (fOr (fNot (fTru (fCall F__law_is_error (fACons (fVar 8) (fACons (fC .none) (fACons (fVar 4) fANil)))))) (fNot (fTru (fCall F__law_are_sums_right (fACons (fVar 0) (fACons (fVar 8) fANil)))))) (fRet 1 true (fC (.bool false))) fNil)
def Wr9 : FS := (fIf (fOr (fNot (fTru (fCall F__law_are_forms_told (fACons (fVar 0) (fACons (fVar 8) fANil))))) (fAnd (fT (fOp2 gGt false (fB gLen false (fACons (fVar 8) fANil)) (fC (.int 1)))) (fNot (fTru (fCall F__law_are_pairs_told (fACons (fVar 0) (fACons (fVar 8) fANil))))))) (fRet 1 true (fC (.bool false))) fNil)
def Wr10 : FS := (fIf (fT (fOp2 gGt false (fB gLen false (fACons (fVar 8) fANil)) (fC (.int 12)))) (fRet 1 true (fC (.bool true))) fNil)
def Wr11 : FS := (fIf (fOr (fNot (fTru (fCall F__law_is_error (fACons (fVar 6) (fACons (fC .none) (fACons (fNotV (fVar 4)) fANil)))))) (fNot (fTru (fCall F__law_is_error (fACons (fVar 8) (fACons (fC .none) (fACons (fC (.bool false)) fANil))))))) (fRet 1 true (fC (.bool false))) fNil)
def Wr12 : FS := (fMulti 1 [2, 3, 9] (fACons (fCall F__law_draw (fACons (fVar 0) (fACons (fC (.int 6)) fANil))) (fACons (fCall F__law_pick (fACons (fVar 0) (fACons (fLst false (fACons (fC (.int 3)) (fACons (fC (.int 7)) (fACons (fC (.int 11)) (fACons (fC (.int 19)) (fACons (fC (.int 23)) (fACons (fC (.int 31)) fANil))))))) fANil))) (fACons (fCall F_leftover_table (fACons (fC (.int 3)) fANil)) fANil))))
def Wr13 : FS := (fIf (fOr (fNot (fTru (fCall (F__law_same 8) (fACons (fCall F_doubled_table (fACons (fVar 2) fANil)) (fACons (fCall F__law_doubled (fACons (fVar 2) fANil)) fANil))))) (fNot (fTru (fCall (F__law_same 8) (fACons (fCall F_leftover_table (fACons (fVar 3) fANil)) (fACons (fCall F__law_leftover (fACons (fVar 3) fANil)) fANil)))))) (fRet 1 true (fC (.bool false))) fNil)
def Wr14 : FS := (fRet 1 true (fAndV (fCall F__law_are_rows_square (fACons (fVar 8) fANil)) (fAndV (fCall F__law_is_error (fACons (fVar 9) (fACons (fC .none) (fACons (fC (.bool true)) fANil)))) (fCall (F__law_same 8) (fACons (fVar 9) (fACons (fCall F__law_leftover (fACons (fC (.int 3)) fANil)) fANil))))))
theorem Wr_is : F__law_is_right = fnOf 1 10 (fSeq Wr0 (fSeq Wr1 (fSeq Wr2 (fSeq Wr3 (fSeq Wr4 (fSeq Wr5 (fSeq Wr6 (fSeq Wr7 (fSeq Wr8 (fSeq Wr9 (fSeq Wr10 (fSeq Wr11 (fSeq Wr12 (fSeq Wr13 Wr14)))))))))))))) := rfl
theorem table_plain {n : Nat} {T : M48.Tab} (h : M48.Tb n T) (hn : n ≤ 64) : Plain 3 (tabD T) := tab_plain T (by rw [h.len, sizeLine_eq]; omega) fun r hr => by rw [(h.row r hr).1, sizeLine_eq]; omega
theorem none_err {n : Nat} {T : M48.Tab} (h : M48.Had n T) (h1 : 1 ≤ n) (hn : n ≤ 32) (b : Bool) : F__law_is_error [.dat (tabD T), .dat .none, .dat (.bool b)] = some (.dat (.bool true), [none, none, none]) := by
  have e := err_tab h.toTb h1 hn
  rw [h.lp] at e
  exact is_error_ok e (.non 1) (by decide) b
theorem PQ.small {p : Nat} (h : PQ p) : 0 < p ∧ p < 32 := by
  rcases h with rfl | rfl | rfl | rfl | rfl | rfl <;> omega
theorem left_same {p : Nat} (h : PQ p) : F_leftover_table [.dat (.int p)] = some (.dat (tabD (lawT p)), [none]) := by
  rw [leftover_ok h.small.1 (by have := h.small.2; omega), left_law h]
theorem left_law' {p : Nat} (h : PQ p) : F__law_leftover [.dat (.int p)] = some (.dat (tabD (lawT p)), [none]) := lleftover_ok h.small.1 (by have := h.small.2; omega)
theorem is_right_ok {B : MD} (hB : BagOk B) : ∃ B', F__law_is_right [B] = some (.dat (.bool true), [some B']) ∧ BagOk B' := by
  obtain ⟨w, B1, e1, hB1, hw⟩ := drawN hB (n := 16) (by decide) (by decide)
  obtain ⟨dm, B2, e2, hB2, hm⟩ := pick hB1 (ds := [.int 0, .int 1, .int 1, .int 2, .int 2, .int 3, .int 3, .int 3, .int 4]) (by simp) (by simp)
  obtain ⟨dp, B3, e3, hB3, hp⟩ := pick hB2 (ds := [.int 3, .int 3, .int 7, .int 7, .int 11]) (by simp) (by simp)
  have w0 : Wr0 [some B, none, none, none, none, none, none, none, none, none] = some (.nx [some B1, some (.dat (.int w)), none, none, none, none, none, none, none, none]) := by
    rw [show ((16 : Nat) : Int) = 16 from rfl] at e1
    simp [fnOf, fSeq, fNil, fSet, fRet, fDrop, fIf, fFgt, fgtO, fgt, fFor, fIfE, fT, fTru, truD, fAnd, fOr, fNot, fAndV, fOrV, fNotV, fOp2, fVar, fC, fB, fACons, fANil, fTup, fLst, fNeg, gRel, gInt2, gInt2C, gAdd, gMulX_int, gIx, gLen, gAbs, gInt, gEq, gIs, gIsNot, dv_dat, dv_lst, dv_al, dvs, own_dat, own_lst, own_bag, own_dcK, own_scr, flat_dat, flat_lst, Res.fin, frzs_nil, frzs_cons, frz_dat, intT_int, outs, als, argsOf, putArgs, fCall, eqv_int, shp_int, shp_none, shp_bool, noOwn, ownAt, sizeLine_eq, fIter, itemsOf, fRange1, fRange2, eqX_int, eqX_str, fEnumA, fFrz, fNever, permOk, perm, fCallK, fCallP, gMax2, gMin2, gMax3, gMin3, fPar2, fMulti, putM, fAsgG, fLc, Wr0, hB.own, hB1.own, e1]
  have w1 : Wr1 [some B1, some (.dat (.int w)), none, none, none, none, none, none, none, none] = some (.nx [some B3, some (.dat (.int w)), some (.dat dm), some (.dat dp), none, none, none, none, none, none]) := by
    simp [fnOf, fSeq, fNil, fSet, fRet, fDrop, fIf, fFgt, fgtO, fgt, fFor, fIfE, fT, fTru, truD, fAnd, fOr, fNot, fAndV, fOrV, fNotV, fOp2, fVar, fC, fB, fACons, fANil, fTup, fLst, fNeg, gRel, gInt2, gInt2C, gAdd, gMulX_int, gIx, gLen, gAbs, gInt, gEq, gIs, gIsNot, dv_dat, dv_lst, dv_al, dvs, own_dat, own_lst, own_bag, own_dcK, own_scr, flat_dat, flat_lst, Res.fin, frzs_nil, frzs_cons, frz_dat, intT_int, outs, als, argsOf, putArgs, fCall, eqv_int, shp_int, shp_none, shp_bool, noOwn, ownAt, sizeLine_eq, fIter, itemsOf, fRange1, fRange2, eqX_int, eqX_str, fEnumA, fFrz, fNever, permOk, perm, fCallK, fCallP, gMax2, gMin2, gMax3, gMin3, fPar2, fMulti, putM, fAsgG, fLc, Wr1, hB1.own, hB2.own, hB3.own, e2, e3]
  obtain ⟨m, hm5, rfl⟩ : ∃ m : Nat, m ≤ 5 ∧ dm = .int m := by
    simp at hm
    rcases hm with rfl | rfl | rfl | rfl | rfl
    · exact ⟨0, by omega, rfl⟩
    · exact ⟨1, by omega, rfl⟩
    · exact ⟨2, by omega, rfl⟩
    · exact ⟨3, by omega, rfl⟩
    · exact ⟨4, by omega, rfl⟩
  obtain ⟨p, hpq, rfl⟩ : ∃ p : Nat, PQ p ∧ dp = .int p := by
    simp at hp
    rcases hp with rfl | rfl | rfl
    · exact ⟨3, by simp [PQ], rfl⟩
    · exact ⟨7, by simp [PQ], rfl⟩
    · exact ⟨11, by simp [PQ], rfl⟩
  obtain ⟨m, p, B4, hm5, hpq, hB4, w2⟩ : ∃ (m' p' : Nat) (B4 : MD), m' ≤ 5 ∧ PQ p' ∧ BagOk B4 ∧ Wr2 [some B3, some (.dat (.int w)), some (.dat (.int m)), some (.dat (.int p)), none, none, none, none, none, none] = some (.nx [some B4, some (.dat (.int w)), some (.dat (.int m')), some (.dat (.int p')), none, none, none, none, none, none]) := by
    by_cases q : w < 2
    · obtain ⟨dp, B4, e4, hB4, hp⟩ := pick hB3 (ds := [.int 19, .int 23, .int 31]) (by simp) (by simp)
      obtain ⟨p, hpq, rfl⟩ : ∃ p : Nat, PQ p ∧ dp = .int p := by
        simp at hp
        rcases hp with rfl | rfl | rfl
        · exact ⟨19, by simp [PQ], rfl⟩
        · exact ⟨23, by simp [PQ], rfl⟩
        · exact ⟨31, by simp [PQ], rfl⟩
      have q' : (w : Int) < 2 := by omega
      by_cases q0 : w = 0
      · subst q0
        refine ⟨5, p, B4, by omega, hpq, hB4, ?_⟩
        simp [fnOf, fSeq, fNil, fSet, fRet, fDrop, fIf, fFgt, fgtO, fgt, fFor, fIfE, fT, fTru, truD, fAnd, fOr, fNot, fAndV, fOrV, fNotV, fOp2, fVar, fC, fB, fACons, fANil, fTup, fLst, fNeg, gRel, gInt2, gInt2C, gAdd, gMulX_int, gIx, gLen, gAbs, gInt, gEq, gIs, gIsNot, dv_dat, dv_lst, dv_al, dvs, own_dat, own_lst, own_bag, own_dcK, own_scr, flat_dat, flat_lst, Res.fin, frzs_nil, frzs_cons, frz_dat, intT_int, outs, als, argsOf, putArgs, fCall, eqv_int, shp_int, shp_none, shp_bool, noOwn, ownAt, sizeLine_eq, fIter, itemsOf, fRange1, fRange2, eqX_int, eqX_str, fEnumA, fFrz, fNever, permOk, perm, fCallK, fCallP, gMax2, gMin2, gMax3, gMin3, fPar2, fMulti, putM, fAsgG, fLc, Wr2, hB3.own, hB4.own, e4]
      · refine ⟨4, p, B4, by omega, hpq, hB4, ?_⟩
        simp [fnOf, fSeq, fNil, fSet, fRet, fDrop, fIf, fFgt, fgtO, fgt, fFor, fIfE, fT, fTru, truD, fAnd, fOr, fNot, fAndV, fOrV, fNotV, fOp2, fVar, fC, fB, fACons, fANil, fTup, fLst, fNeg, gRel, gInt2, gInt2C, gAdd, gMulX_int, gIx, gLen, gAbs, gInt, gEq, gIs, gIsNot, dv_dat, dv_lst, dv_al, dvs, own_dat, own_lst, own_bag, own_dcK, own_scr, flat_dat, flat_lst, Res.fin, frzs_nil, frzs_cons, frz_dat, intT_int, outs, als, argsOf, putArgs, fCall, eqv_int, shp_int, shp_none, shp_bool, noOwn, ownAt, sizeLine_eq, fIter, itemsOf, fRange1, fRange2, eqX_int, eqX_str, fEnumA, fFrz, fNever, permOk, perm, fCallK, fCallP, gMax2, gMin2, gMax3, gMin3, fPar2, fMulti, putM, fAsgG, fLc, Wr2, hB3.own, hB4.own, e4, q', q0]
    · refine ⟨m, p, B3, hm5, hpq, hB3, ?_⟩
      have q' : ¬ (w : Int) < 2 := by omega
      simp [fnOf, fSeq, fNil, fSet, fRet, fDrop, fIf, fFgt, fgtO, fgt, fFor, fIfE, fT, fTru, truD, fAnd, fOr, fNot, fAndV, fOrV, fNotV, fOp2, fVar, fC, fB, fACons, fANil, fTup, fLst, fNeg, gRel, gInt2, gInt2C, gAdd, gMulX_int, gIx, gLen, gAbs, gInt, gEq, gIs, gIsNot, dv_dat, dv_lst, dv_al, dvs, own_dat, own_lst, own_bag, own_dcK, own_scr, flat_dat, flat_lst, Res.fin, frzs_nil, frzs_cons, frz_dat, intT_int, outs, als, argsOf, putArgs, fCall, eqv_int, shp_int, shp_none, shp_bool, noOwn, ownAt, sizeLine_eq, fIter, itemsOf, fRange1, fRange2, eqX_int, eqX_str, fEnumA, fFrz, fNever, permOk, perm, fCallK, fCallP, gMax2, gMin2, gMax3, gMin3, fPar2, fMulti, putM, fAsgG, fLc, Wr2, q']
  obtain ⟨b1, B5, hB5, w3⟩ : ∃ (b1 : Bool) (B5 : MD), BagOk B5 ∧ ∃ b2 : Bool, Wr3 [some B4, some (.dat (.int w)), some (.dat (.int m)), some (.dat (.int p)), none, none, none, none, none, none] = some (.nx [some B5, some (.dat (.int w)), some (.dat (.int m)), some (.dat (.int p)), some (.dat (.bool b1)), some (.dat (.bool b2)), none, none, none, none]) := by
    obtain ⟨u, C1, f1, hC1, _, _⟩ := draw hB4 (n := 2) (by decide) (by decide)
    obtain ⟨v, C2, f2, hC2, _, _⟩ := draw hC1 (n := 2) (by decide) (by decide)
    refine ⟨decide (0 < u), C2, hC2, decide (0 < v), ?_⟩
    simp [fnOf, fSeq, fNil, fSet, fRet, fDrop, fIf, fFgt, fgtO, fgt, fFor, fIfE, fT, fTru, truD, fAnd, fOr, fNot, fAndV, fOrV, fNotV, fOp2, fVar, fC, fB, fACons, fANil, fTup, fLst, fNeg, gRel, gInt2, gInt2C, gAdd, gMulX_int, gIx, gLen, gAbs, gInt, gEq, gIs, gIsNot, dv_dat, dv_lst, dv_al, dvs, own_dat, own_lst, own_bag, own_dcK, own_scr, flat_dat, flat_lst, Res.fin, frzs_nil, frzs_cons, frz_dat, intT_int, outs, als, argsOf, putArgs, fCall, eqv_int, shp_int, shp_none, shp_bool, noOwn, ownAt, sizeLine_eq, fIter, itemsOf, fRange1, fRange2, eqX_int, eqX_str, fEnumA, fFrz, fNever, permOk, perm, fCallK, fCallP, gMax2, gMin2, gMax3, gMin3, fPar2, fMulti, putM, fAsgG, fLc, Wr3, hB4.own, hC1.own, hC2.own, f1, f2]
  obtain ⟨b2, w3⟩ := w3
  obtain ⟨b3, w4⟩ : ∃ b3 : Bool, Wr4 [some B5, some (.dat (.int w)), some (.dat (.int m)), some (.dat (.int p)), some (.dat (.bool b1)), some (.dat (.bool b2)), none, none, none, none] = some (.nx [some B5, some (.dat (.int w)), some (.dat (.int m)), some (.dat (.int p)), some (.dat (.bool b1)), some (.dat (.bool b3)), none, none, none, none]) := by
    by_cases q : (w : Int) < 2
    · exact ⟨decide ((w : Int) = 0), by simp [fnOf, fSeq, fNil, fSet, fRet, fDrop, fIf, fFgt, fgtO, fgt, fFor, fIfE, fT, fTru, truD, fAnd, fOr, fNot, fAndV, fOrV, fNotV, fOp2, fVar, fC, fB, fACons, fANil, fTup, fLst, fNeg, gRel, gInt2, gInt2C, gAdd, gMulX_int, gIx, gLen, gAbs, gInt, gEq, gIs, gIsNot, dv_dat, dv_lst, dv_al, dvs, own_dat, own_lst, own_bag, own_dcK, own_scr, flat_dat, flat_lst, Res.fin, frzs_nil, frzs_cons, frz_dat, intT_int, outs, als, argsOf, putArgs, fCall, eqv_int, shp_int, shp_none, shp_bool, noOwn, ownAt, sizeLine_eq, fIter, itemsOf, fRange1, fRange2, eqX_int, eqX_str, fEnumA, fFrz, fNever, permOk, perm, fCallK, fCallP, gMax2, gMin2, gMax3, gMin3, fPar2, fMulti, putM, fAsgG, fLc, Wr4, q]⟩
    · exact ⟨b2, by simp [fnOf, fSeq, fNil, fSet, fRet, fDrop, fIf, fFgt, fgtO, fgt, fFor, fIfE, fT, fTru, truD, fAnd, fOr, fNot, fAndV, fOrV, fNotV, fOp2, fVar, fC, fB, fACons, fANil, fTup, fLst, fNeg, gRel, gInt2, gInt2C, gAdd, gMulX_int, gIx, gLen, gAbs, gInt, gEq, gIs, gIsNot, dv_dat, dv_lst, dv_al, dvs, own_dat, own_lst, own_bag, own_dcK, own_scr, flat_dat, flat_lst, Res.fin, frzs_nil, frzs_cons, frz_dat, intT_int, outs, als, argsOf, putArgs, fCall, eqv_int, shp_int, shp_none, shp_bool, noOwn, ownAt, sizeLine_eq, fIter, itemsOf, fRange1, fRange2, eqX_int, eqX_str, fEnumA, fFrz, fNever, permOk, perm, fCallK, fCallP, gMax2, gMin2, gMax3, gMin3, fPar2, fMulti, putM, fAsgG, fLc, Wr4, q]⟩
  obtain ⟨n, D, hD, n1, n32, w5⟩ : ∃ (n : Nat) (D : M48.Tab), M48.Had n D ∧ 1 ≤ n ∧ n ≤ 32 ∧ Wr5 [some B5, some (.dat (.int w)), some (.dat (.int m)), some (.dat (.int p)), some (.dat (.bool b1)), some (.dat (.bool b3)), none, none, none, none] = some (.nx [some B5, some (.dat (.int w)), some (.dat (.int m)), some (.dat (.int p)), some (.dat (.bool b1)), some (.dat (.bool b3)), some (.dat (tabD D)), some (.dat (tabD D)), none, none]) := by
    cases b3 with
    | true =>
      have f1 := doubled_ok (k := m) (by omega)
      have f2 := ldoubled_ok (k := m) (by omega)
      refine ⟨2 ^ m, dblT m, had_dbl hm5, Nat.one_le_two_pow, Nat.pow_le_pow_right (n := 2) (by decide) hm5, ?_⟩
      cases b1 with
      | true => simp [fnOf, fSeq, fNil, fSet, fRet, fDrop, fIf, fFgt, fgtO, fgt, fFor, fIfE, fT, fTru, truD, fAnd, fOr, fNot, fAndV, fOrV, fNotV, fOp2, fVar, fC, fB, fACons, fANil, fTup, fLst, fNeg, gRel, gInt2, gInt2C, gAdd, gMulX_int, gIx, gLen, gAbs, gInt, gEq, gIs, gIsNot, dv_dat, dv_lst, dv_al, dvs, own_dat, own_lst, own_bag, own_dcK, own_scr, flat_dat, flat_lst, Res.fin, frzs_nil, frzs_cons, frz_dat, intT_int, outs, als, argsOf, putArgs, fCall, eqv_int, shp_int, shp_none, shp_bool, noOwn, ownAt, sizeLine_eq, fIter, itemsOf, fRange1, fRange2, eqX_int, eqX_str, fEnumA, fFrz, fNever, permOk, perm, fCallK, fCallP, gMax2, gMin2, gMax3, gMin3, fPar2, fMulti, putM, fAsgG, fLc, Wr5, f1, f2]
      | false => simp [fnOf, fSeq, fNil, fSet, fRet, fDrop, fIf, fFgt, fgtO, fgt, fFor, fIfE, fT, fTru, truD, fAnd, fOr, fNot, fAndV, fOrV, fNotV, fOp2, fVar, fC, fB, fACons, fANil, fTup, fLst, fNeg, gRel, gInt2, gInt2C, gAdd, gMulX_int, gIx, gLen, gAbs, gInt, gEq, gIs, gIsNot, dv_dat, dv_lst, dv_al, dvs, own_dat, own_lst, own_bag, own_dcK, own_scr, flat_dat, flat_lst, Res.fin, frzs_nil, frzs_cons, frz_dat, intT_int, outs, als, argsOf, putArgs, fCall, eqv_int, shp_int, shp_none, shp_bool, noOwn, ownAt, sizeLine_eq, fIter, itemsOf, fRange1, fRange2, eqX_int, eqX_str, fEnumA, fFrz, fNever, permOk, perm, fCallK, fCallP, gMax2, gMin2, gMax3, gMin3, fPar2, fMulti, putM, fAsgG, fLc, Wr5, f1, f2]
    | false =>
      have f1 := left_same hpq
      have f2 := left_law' hpq
      have := hpq.small
      refine ⟨p + 1, lawT p, had_left hpq, by omega, by omega, ?_⟩
      cases b1 with
      | true => simp [fnOf, fSeq, fNil, fSet, fRet, fDrop, fIf, fFgt, fgtO, fgt, fFor, fIfE, fT, fTru, truD, fAnd, fOr, fNot, fAndV, fOrV, fNotV, fOp2, fVar, fC, fB, fACons, fANil, fTup, fLst, fNeg, gRel, gInt2, gInt2C, gAdd, gMulX_int, gIx, gLen, gAbs, gInt, gEq, gIs, gIsNot, dv_dat, dv_lst, dv_al, dvs, own_dat, own_lst, own_bag, own_dcK, own_scr, flat_dat, flat_lst, Res.fin, frzs_nil, frzs_cons, frz_dat, intT_int, outs, als, argsOf, putArgs, fCall, eqv_int, shp_int, shp_none, shp_bool, noOwn, ownAt, sizeLine_eq, fIter, itemsOf, fRange1, fRange2, eqX_int, eqX_str, fEnumA, fFrz, fNever, permOk, perm, fCallK, fCallP, gMax2, gMin2, gMax3, gMin3, fPar2, fMulti, putM, fAsgG, fLc, Wr5, f1, f2]
      | false => simp [fnOf, fSeq, fNil, fSet, fRet, fDrop, fIf, fFgt, fgtO, fgt, fFor, fIfE, fT, fTru, truD, fAnd, fOr, fNot, fAndV, fOrV, fNotV, fOp2, fVar, fC, fB, fACons, fANil, fTup, fLst, fNeg, gRel, gInt2, gInt2C, gAdd, gMulX_int, gIx, gLen, gAbs, gInt, gEq, gIs, gIsNot, dv_dat, dv_lst, dv_al, dvs, own_dat, own_lst, own_bag, own_dcK, own_scr, flat_dat, flat_lst, Res.fin, frzs_nil, frzs_cons, frz_dat, intT_int, outs, als, argsOf, putArgs, fCall, eqv_int, shp_int, shp_none, shp_bool, noOwn, ownAt, sizeLine_eq, fIter, itemsOf, fRange1, fRange2, eqX_int, eqX_str, fEnumA, fFrz, fNever, permOk, perm, fCallK, fCallP, gMax2, gMin2, gMax3, gMin3, fPar2, fMulti, putM, fAsgG, fLc, Wr5, f1, f2]
  have s1 := same8 (table_plain hD.toTb (by omega)) (by decide)
  obtain ⟨T, B6, f6, hB6, hT⟩ := own_table_ok hD (by omega) hB5
  obtain ⟨B7, f7, hB7⟩ := sums_right_ok hT n1 (by omega) hB6
  obtain ⟨B8, hB8, f8⟩ := forms_ok hT.toTb n1 n32 hB7
  have hl := hT.len
  obtain ⟨ds, htt, lt⟩ : ∃ ds : List PyData, tabD T = .tuple ds ∧ ds.length = n := ⟨T.map rowD, rfl, by rw [List.length_map, hl]⟩
  have x1 := none_err hT n1 n32 b1
  have x2 := none_err hT n1 n32 false
  have x3 := none_err hD n1 n32 (!b1)
  have x4 := rows_square_ok hT (by omega)
  generalize hdd : tabD D = dd at *
  rw [htt] at f6 f7 f8 x1 x2 x4
  have w6 : Wr6 [some B5, some (.dat (.int w)), some (.dat (.int m)), some (.dat (.int p)), some (.dat (.bool b1)), some (.dat (.bool b3)), some (.dat dd), some (.dat dd), none, none] = some (.nx [some B5, some (.dat (.int w)), some (.dat (.int m)), some (.dat (.int p)), some (.dat (.bool b1)), some (.dat (.bool b3)), some (.dat dd), some (.dat dd), none, none]) := by simp [fnOf, fSeq, fNil, fSet, fRet, fDrop, fIf, fFgt, fgtO, fgt, fFor, fIfE, fT, fTru, truD, fAnd, fOr, fNot, fAndV, fOrV, fNotV, fOp2, fVar, fC, fB, fACons, fANil, fTup, fLst, fNeg, gRel, gInt2, gInt2C, gAdd, gMulX_int, gIx, gLen, gAbs, gInt, gEq, gIs, gIsNot, dv_dat, dv_lst, dv_al, dvs, own_dat, own_lst, own_bag, own_dcK, own_scr, flat_dat, flat_lst, Res.fin, frzs_nil, frzs_cons, frz_dat, intT_int, outs, als, argsOf, putArgs, fCall, eqv_int, shp_int, shp_none, shp_bool, noOwn, ownAt, sizeLine_eq, fIter, itemsOf, fRange1, fRange2, eqX_int, eqX_str, fEnumA, fFrz, fNever, permOk, perm, fCallK, fCallP, gMax2, gMin2, gMax3, gMin3, fPar2, fMulti, putM, fAsgG, fLc, Wr6, s1]
  have w7 : Wr7 [some B5, some (.dat (.int w)), some (.dat (.int m)), some (.dat (.int p)), some (.dat (.bool b1)), some (.dat (.bool b3)), some (.dat dd), some (.dat dd), none, none] = some (.nx [some B6, some (.dat (.int w)), some (.dat (.int m)), some (.dat (.int p)), some (.dat (.bool b1)), some (.dat (.bool b3)), some (.dat dd), some (.dat dd), some (.dat (.tuple ds)), none]) := by simp [fnOf, fSeq, fNil, fSet, fRet, fDrop, fIf, fFgt, fgtO, fgt, fFor, fIfE, fT, fTru, truD, fAnd, fOr, fNot, fAndV, fOrV, fNotV, fOp2, fVar, fC, fB, fACons, fANil, fTup, fLst, fNeg, gRel, gInt2, gInt2C, gAdd, gMulX_int, gIx, gLen, gAbs, gInt, gEq, gIs, gIsNot, dv_dat, dv_lst, dv_al, dvs, own_dat, own_lst, own_bag, own_dcK, own_scr, flat_dat, flat_lst, Res.fin, frzs_nil, frzs_cons, frz_dat, intT_int, outs, als, argsOf, putArgs, fCall, eqv_int, shp_int, shp_none, shp_bool, noOwn, ownAt, sizeLine_eq, fIter, itemsOf, fRange1, fRange2, eqX_int, eqX_str, fEnumA, fFrz, fNever, permOk, perm, fCallK, fCallP, gMax2, gMin2, gMax3, gMin3, fPar2, fMulti, putM, fAsgG, fLc, Wr7, f6, hB5.own, hB6.own]
  have w8 : Wr8 [some B6, some (.dat (.int w)), some (.dat (.int m)), some (.dat (.int p)), some (.dat (.bool b1)), some (.dat (.bool b3)), some (.dat dd), some (.dat dd), some (.dat (.tuple ds)), none] = some (.nx [some B7, some (.dat (.int w)), some (.dat (.int m)), some (.dat (.int p)), some (.dat (.bool b1)), some (.dat (.bool b3)), some (.dat dd), some (.dat dd), some (.dat (.tuple ds)), none]) := by simp [fnOf, fSeq, fNil, fSet, fRet, fDrop, fIf, fFgt, fgtO, fgt, fFor, fIfE, fT, fTru, truD, fAnd, fOr, fNot, fAndV, fOrV, fNotV, fOp2, fVar, fC, fB, fACons, fANil, fTup, fLst, fNeg, gRel, gInt2, gInt2C, gAdd, gMulX_int, gIx, gLen, gAbs, gInt, gEq, gIs, gIsNot, dv_dat, dv_lst, dv_al, dvs, own_dat, own_lst, own_bag, own_dcK, own_scr, flat_dat, flat_lst, Res.fin, frzs_nil, frzs_cons, frz_dat, intT_int, outs, als, argsOf, putArgs, fCall, eqv_int, shp_int, shp_none, shp_bool, noOwn, ownAt, sizeLine_eq, fIter, itemsOf, fRange1, fRange2, eqX_int, eqX_str, fEnumA, fFrz, fNever, permOk, perm, fCallK, fCallP, gMax2, gMin2, gMax3, gMin3, fPar2, fMulti, putM, fAsgG, fLc, Wr8, x1, f7, hB6.own, hB7.own]
  obtain ⟨B9, hB9, w9⟩ : ∃ B9, BagOk B9 ∧ Wr9 [some B7, some (.dat (.int w)), some (.dat (.int m)), some (.dat (.int p)), some (.dat (.bool b1)), some (.dat (.bool b3)), some (.dat dd), some (.dat dd), some (.dat (.tuple ds)), none] = some (.nx [some B9, some (.dat (.int w)), some (.dat (.int m)), some (.dat (.int p)), some (.dat (.bool b1)), some (.dat (.bool b3)), some (.dat dd), some (.dat dd), some (.dat (.tuple ds)), none]) := by
    by_cases q : 1 < n
    · obtain ⟨B9, f9, hB9⟩ := pairs_ok hT q n32 hB8
      rw [htt] at f9
      have q' : (1 : Int) < n := by omega
      exact ⟨B9, hB9, by simp [fnOf, fSeq, fNil, fSet, fRet, fDrop, fIf, fFgt, fgtO, fgt, fFor, fIfE, fT, fTru, truD, fAnd, fOr, fNot, fAndV, fOrV, fNotV, fOp2, fVar, fC, fB, fACons, fANil, fTup, fLst, fNeg, gRel, gInt2, gInt2C, gAdd, gMulX_int, gIx, gLen, gAbs, gInt, gEq, gIs, gIsNot, dv_dat, dv_lst, dv_al, dvs, own_dat, own_lst, own_bag, own_dcK, own_scr, flat_dat, flat_lst, Res.fin, frzs_nil, frzs_cons, frz_dat, intT_int, outs, als, argsOf, putArgs, fCall, eqv_int, shp_int, shp_none, shp_bool, noOwn, ownAt, sizeLine_eq, fIter, itemsOf, fRange1, fRange2, eqX_int, eqX_str, fEnumA, fFrz, fNever, permOk, perm, fCallK, fCallP, gMax2, gMin2, gMax3, gMin3, fPar2, fMulti, putM, fAsgG, fLc, Wr9, f8, f9, hB7.own, hB8.own, hB9.own, lt, q, q']⟩
    · have q' : ¬ (1 : Int) < n := by omega
      exact ⟨B8, hB8, by simp [fnOf, fSeq, fNil, fSet, fRet, fDrop, fIf, fFgt, fgtO, fgt, fFor, fIfE, fT, fTru, truD, fAnd, fOr, fNot, fAndV, fOrV, fNotV, fOp2, fVar, fC, fB, fACons, fANil, fTup, fLst, fNeg, gRel, gInt2, gInt2C, gAdd, gMulX_int, gIx, gLen, gAbs, gInt, gEq, gIs, gIsNot, dv_dat, dv_lst, dv_al, dvs, own_dat, own_lst, own_bag, own_dcK, own_scr, flat_dat, flat_lst, Res.fin, frzs_nil, frzs_cons, frz_dat, intT_int, outs, als, argsOf, putArgs, fCall, eqv_int, shp_int, shp_none, shp_bool, noOwn, ownAt, sizeLine_eq, fIter, itemsOf, fRange1, fRange2, eqX_int, eqX_str, fEnumA, fFrz, fNever, permOk, perm, fCallK, fCallP, gMax2, gMin2, gMax3, gMin3, fPar2, fMulti, putM, fAsgG, fLc, Wr9, f8, hB7.own, hB8.own, lt, q, q']⟩
  by_cases q12 : 12 < n
  · refine ⟨B9, ?_, hB9⟩
    have q12' : (12 : Int) < n := by omega
    have w10 : Wr10 [some B9, some (.dat (.int w)), some (.dat (.int m)), some (.dat (.int p)), some (.dat (.bool b1)), some (.dat (.bool b3)), some (.dat dd), some (.dat dd), some (.dat (.tuple ds)), none] = some (.rt (.dat (.bool true)) [some B9, some (.dat (.int w)), some (.dat (.int m)), some (.dat (.int p)), some (.dat (.bool b1)), some (.dat (.bool b3)), some (.dat dd), some (.dat dd), some (.dat (.tuple ds)), none]) := by simp [fnOf, fSeq, fNil, fSet, fRet, fDrop, fIf, fFgt, fgtO, fgt, fFor, fIfE, fT, fTru, truD, fAnd, fOr, fNot, fAndV, fOrV, fNotV, fOp2, fVar, fC, fB, fACons, fANil, fTup, fLst, fNeg, gRel, gInt2, gInt2C, gAdd, gMulX_int, gIx, gLen, gAbs, gInt, gEq, gIs, gIsNot, dv_dat, dv_lst, dv_al, dvs, own_dat, own_lst, own_bag, own_dcK, own_scr, flat_dat, flat_lst, Res.fin, frzs_nil, frzs_cons, frz_dat, intT_int, outs, als, argsOf, putArgs, fCall, eqv_int, shp_int, shp_none, shp_bool, noOwn, ownAt, sizeLine_eq, fIter, itemsOf, fRange1, fRange2, eqX_int, eqX_str, fEnumA, fFrz, fNever, permOk, perm, fCallK, fCallP, gMax2, gMin2, gMax3, gMin3, fPar2, fMulti, putM, fAsgG, fLc, Wr10, lt, q12, q12']
    rw [Wr_is]
    show (Option.bind (fSeq Wr0 _ [some B, none, none, none, none, none, none, none, none, none]) _) = _
    rw [seq_nx w0, seq_nx w1, seq_nx w2, seq_nx w3, seq_nx w4, seq_nx w5, seq_nx w6, seq_nx w7, seq_nx w8, seq_nx w9, fSeq, w10]
    simp [outs, hB9.own]
  · have q12' : ¬ (12 : Int) < n := by omega
    have w10 : Wr10 [some B9, some (.dat (.int w)), some (.dat (.int m)), some (.dat (.int p)), some (.dat (.bool b1)), some (.dat (.bool b3)), some (.dat dd), some (.dat dd), some (.dat (.tuple ds)), none] = some (.nx [some B9, some (.dat (.int w)), some (.dat (.int m)), some (.dat (.int p)), some (.dat (.bool b1)), some (.dat (.bool b3)), some (.dat dd), some (.dat dd), some (.dat (.tuple ds)), none]) := by simp [fnOf, fSeq, fNil, fSet, fRet, fDrop, fIf, fFgt, fgtO, fgt, fFor, fIfE, fT, fTru, truD, fAnd, fOr, fNot, fAndV, fOrV, fNotV, fOp2, fVar, fC, fB, fACons, fANil, fTup, fLst, fNeg, gRel, gInt2, gInt2C, gAdd, gMulX_int, gIx, gLen, gAbs, gInt, gEq, gIs, gIsNot, dv_dat, dv_lst, dv_al, dvs, own_dat, own_lst, own_bag, own_dcK, own_scr, flat_dat, flat_lst, Res.fin, frzs_nil, frzs_cons, frz_dat, intT_int, outs, als, argsOf, putArgs, fCall, eqv_int, shp_int, shp_none, shp_bool, noOwn, ownAt, sizeLine_eq, fIter, itemsOf, fRange1, fRange2, eqX_int, eqX_str, fEnumA, fFrz, fNever, permOk, perm, fCallK, fCallP, gMax2, gMin2, gMax3, gMin3, fPar2, fMulti, putM, fAsgG, fLc, Wr10, lt, q12, q12']
    have w11 : Wr11 [some B9, some (.dat (.int w)), some (.dat (.int m)), some (.dat (.int p)), some (.dat (.bool b1)), some (.dat (.bool b3)), some (.dat dd), some (.dat dd), some (.dat (.tuple ds)), none] = some (.nx [some B9, some (.dat (.int w)), some (.dat (.int m)), some (.dat (.int p)), some (.dat (.bool b1)), some (.dat (.bool b3)), some (.dat dd), some (.dat dd), some (.dat (.tuple ds)), none]) := by simp [fnOf, fSeq, fNil, fSet, fRet, fDrop, fIf, fFgt, fgtO, fgt, fFor, fIfE, fT, fTru, truD, fAnd, fOr, fNot, fAndV, fOrV, fNotV, fOp2, fVar, fC, fB, fACons, fANil, fTup, fLst, fNeg, gRel, gInt2, gInt2C, gAdd, gMulX_int, gIx, gLen, gAbs, gInt, gEq, gIs, gIsNot, dv_dat, dv_lst, dv_al, dvs, own_dat, own_lst, own_bag, own_dcK, own_scr, flat_dat, flat_lst, Res.fin, frzs_nil, frzs_cons, frz_dat, intT_int, outs, als, argsOf, putArgs, fCall, eqv_int, shp_int, shp_none, shp_bool, noOwn, ownAt, sizeLine_eq, fIter, itemsOf, fRange1, fRange2, eqX_int, eqX_str, fEnumA, fFrz, fNever, permOk, perm, fCallK, fCallP, gMax2, gMin2, gMax3, gMin3, fPar2, fMulti, putM, fAsgG, fLc, Wr11, x2, x3]
    obtain ⟨m2, B10, e10, hB10, hm2⟩ := drawN hB9 (n := 6) (by decide) (by decide)
    rw [show ((6 : Nat) : Int) = 6 from rfl] at e10
    obtain ⟨dp, B11, e11, hB11, hp⟩ := pick hB10 (ds := [.int 3, .int 7, .int 11, .int 19, .int 23, .int 31]) (by simp) (by simp)
    obtain ⟨p2, hpq2, rfl⟩ : ∃ p : Nat, PQ p ∧ dp = .int p := by
      simp at hp
      rcases hp with rfl | rfl | rfl | rfl | rfl | rfl
      · exact ⟨3, by simp [PQ], rfl⟩
      · exact ⟨7, by simp [PQ], rfl⟩
      · exact ⟨11, by simp [PQ], rfl⟩
      · exact ⟨19, by simp [PQ], rfl⟩
      · exact ⟨23, by simp [PQ], rfl⟩
      · exact ⟨31, by simp [PQ], rfl⟩
    have h3 : PQ 3 := by simp [PQ]
    have g1 := left_same h3
    have g2 := left_law' h3
    have s3 := same8 (table_plain (had_left h3).toTb (by omega)) (by decide)
    have x5 := none_err (had_left h3) (by omega) (by omega) true
    rw [show ((3 : Nat) : Int) = 3 from rfl] at g1 g2
    generalize tabD (lawT 3) = d3 at *
    have g3 := doubled_ok (k := m2) (by omega)
    have g4 := ldoubled_ok (k := m2) (by omega)
    have s4 := same8 (table_plain (had_dbl (k := m2) (by omega)).toTb (pow_64 (by omega))) (by decide)
    generalize tabD (dblT m2) = d4 at *
    have g5 := left_same hpq2
    have g6 := left_law' hpq2
    have s5 := same8 (table_plain (had_left hpq2).toTb (by have := hpq2.small; omega)) (by decide)
    generalize tabD (lawT p2) = d5 at *
    have w12 : Wr12 [some B9, some (.dat (.int w)), some (.dat (.int m)), some (.dat (.int p)), some (.dat (.bool b1)), some (.dat (.bool b3)), some (.dat dd), some (.dat dd), some (.dat (.tuple ds)), none] = some (.nx [some B11, some (.dat (.int w)), some (.dat (.int m2)), some (.dat (.int p2)), some (.dat (.bool b1)), some (.dat (.bool b3)), some (.dat dd), some (.dat dd), some (.dat (.tuple ds)), some (.dat d3)]) := by simp [fnOf, fSeq, fNil, fSet, fRet, fDrop, fIf, fFgt, fgtO, fgt, fFor, fIfE, fT, fTru, truD, fAnd, fOr, fNot, fAndV, fOrV, fNotV, fOp2, fVar, fC, fB, fACons, fANil, fTup, fLst, fNeg, gRel, gInt2, gInt2C, gAdd, gMulX_int, gIx, gLen, gAbs, gInt, gEq, gIs, gIsNot, dv_dat, dv_lst, dv_al, dvs, own_dat, own_lst, own_bag, own_dcK, own_scr, flat_dat, flat_lst, Res.fin, frzs_nil, frzs_cons, frz_dat, intT_int, outs, als, argsOf, putArgs, fCall, eqv_int, shp_int, shp_none, shp_bool, noOwn, ownAt, sizeLine_eq, fIter, itemsOf, fRange1, fRange2, eqX_int, eqX_str, fEnumA, fFrz, fNever, permOk, perm, fCallK, fCallP, gMax2, gMin2, gMax3, gMin3, fPar2, fMulti, putM, fAsgG, fLc, Wr12, hB9.own, hB10.own, hB11.own, e10, e11, g1]
    have w13 : Wr13 [some B11, some (.dat (.int w)), some (.dat (.int m2)), some (.dat (.int p2)), some (.dat (.bool b1)), some (.dat (.bool b3)), some (.dat dd), some (.dat dd), some (.dat (.tuple ds)), some (.dat d3)] = some (.nx [some B11, some (.dat (.int w)), some (.dat (.int m2)), some (.dat (.int p2)), some (.dat (.bool b1)), some (.dat (.bool b3)), some (.dat dd), some (.dat dd), some (.dat (.tuple ds)), some (.dat d3)]) := by simp [fnOf, fSeq, fNil, fSet, fRet, fDrop, fIf, fFgt, fgtO, fgt, fFor, fIfE, fT, fTru, truD, fAnd, fOr, fNot, fAndV, fOrV, fNotV, fOp2, fVar, fC, fB, fACons, fANil, fTup, fLst, fNeg, gRel, gInt2, gInt2C, gAdd, gMulX_int, gIx, gLen, gAbs, gInt, gEq, gIs, gIsNot, dv_dat, dv_lst, dv_al, dvs, own_dat, own_lst, own_bag, own_dcK, own_scr, flat_dat, flat_lst, Res.fin, frzs_nil, frzs_cons, frz_dat, intT_int, outs, als, argsOf, putArgs, fCall, eqv_int, shp_int, shp_none, shp_bool, noOwn, ownAt, sizeLine_eq, fIter, itemsOf, fRange1, fRange2, eqX_int, eqX_str, fEnumA, fFrz, fNever, permOk, perm, fCallK, fCallP, gMax2, gMin2, gMax3, gMin3, fPar2, fMulti, putM, fAsgG, fLc, Wr13, g3, g4, g5, g6, s4, s5]
    have w14 : Wr14 [some B11, some (.dat (.int w)), some (.dat (.int m2)), some (.dat (.int p2)), some (.dat (.bool b1)), some (.dat (.bool b3)), some (.dat dd), some (.dat dd), some (.dat (.tuple ds)), some (.dat d3)] = some (.rt (.dat (.bool true)) [some B11, some (.dat (.int w)), some (.dat (.int m2)), some (.dat (.int p2)), some (.dat (.bool b1)), some (.dat (.bool b3)), some (.dat dd), some (.dat dd), some (.dat (.tuple ds)), some (.dat d3)]) := by simp [fnOf, fSeq, fNil, fSet, fRet, fDrop, fIf, fFgt, fgtO, fgt, fFor, fIfE, fT, fTru, truD, fAnd, fOr, fNot, fAndV, fOrV, fNotV, fOp2, fVar, fC, fB, fACons, fANil, fTup, fLst, fNeg, gRel, gInt2, gInt2C, gAdd, gMulX_int, gIx, gLen, gAbs, gInt, gEq, gIs, gIsNot, dv_dat, dv_lst, dv_al, dvs, own_dat, own_lst, own_bag, own_dcK, own_scr, flat_dat, flat_lst, Res.fin, frzs_nil, frzs_cons, frz_dat, intT_int, outs, als, argsOf, putArgs, fCall, eqv_int, shp_int, shp_none, shp_bool, noOwn, ownAt, sizeLine_eq, fIter, itemsOf, fRange1, fRange2, eqX_int, eqX_str, fEnumA, fFrz, fNever, permOk, perm, fCallK, fCallP, gMax2, gMin2, gMax3, gMin3, fPar2, fMulti, putM, fAsgG, fLc, Wr14, x4, x5, g2, s3]
    refine ⟨B11, ?_, hB11⟩
    rw [Wr_is]
    show (Option.bind (fSeq Wr0 _ [some B, none, none, none, none, none, none, none, none, none]) _) = _
    rw [seq_nx w0, seq_nx w1, seq_nx w2, seq_nx w3, seq_nx w4, seq_nx w5, seq_nx w6, seq_nx w7, seq_nx w8, seq_nx w9, seq_nx w10, seq_nx w11, seq_nx w12, seq_nx w13, w14]
    simp [outs, hB11.own]
theorem law_true (ns : List Int) (hl : ns.length ≤ 63) : ∃ ms', F_law [.scr ns] = some (.dat (.bool true), ms') := by
  obtain ⟨B0, e0, hB0⟩ := own_bag_ok ns hl
  obtain ⟨B1, e1, hB1⟩ := is_right_ok hB0
  refine ⟨[none], ?_⟩
  simp [fnOf, fSeq, fNil, fSet, fRet, fDrop, fIf, fFgt, fgtO, fgt, fFor, fIfE, fT, fTru, truD, fAnd, fOr, fNot, fAndV, fOrV, fNotV, fOp2, fVar, fC, fB, fACons, fANil, fTup, fLst, fNeg, gRel, gInt2, gInt2C, gAdd, gMulX_int, gIx, gLen, gAbs, gInt, gEq, gIs, gIsNot, dv_dat, dv_lst, dv_al, dvs, own_dat, own_lst, own_bag, own_dcK, own_scr, flat_dat, flat_lst, Res.fin, frzs_nil, frzs_cons, frz_dat, intT_int, outs, als, argsOf, putArgs, fCall, eqv_int, shp_int, shp_none, shp_bool, noOwn, ownAt, sizeLine_eq, fIter, itemsOf, fRange1, fRange2, eqX_int, eqX_str, fEnumA, fFrz, fNever, permOk, perm, fCallK, fCallP, gMax2, gMin2, gMax3, gMin3, fPar2, fMulti, putM, fAsgG, fLc, F_law, fCallO, bk1, e0, e1, hB0.own, hB1.own]
end Lw

end

open PySem PySem.W PyProof.Rows in
set_option maxRecDepth 100000 in
set_option maxHeartbeats 0 in
theorem PySem.Challenge.cw_looksdrawn_k48_whole_main_sign_tables_holds : PySem.Challenge.rw_looksdrawn_k48_whole_main_sign_tables.Holds := by
  w_on; o_law; k_head; (case hw => w_witness2)
  k_fill
  refine Fx.walk_end (l := PySem.Challenge.rw_looksdrawn_k48_whole_main_sign_tables) (k := 13) (F := Lw.F_law) rfl rfl ⟨⟨rfl, by decide, by decide⟩, rfl⟩ (fun w h Y => PySem.W.kIn_of Y) Lw.law_true ?theDefs
  case theDefs =>
    intro w mg fa h KX G hmg
    refine' Lw.all_mk KX G hmg ?B ?E0 ?E1 ?E2 ?E3 ?E4 ?E5 ?E6 ?E7 ?E8 ?E9 ?E10 ?E11 ?E12 ?E13 ?E14 ?E15 ?E16 ?E17 ?E18 ?E19 ?E20 ?E21 ?E22 ?E23 ?E24 ?E25 ?E26 ?E27 ?E28
    (case B => (refine' ⟨PySem.W.mg_none_of KX G ?z0, PySem.W.mg_none_of KX G ?z1, PySem.W.mg_none_of KX G ?z2, PySem.W.mg_none_of KX G ?z3, PySem.W.mg_none_of KX G ?z4, PySem.W.mg_none_of KX G ?z5, PySem.W.mg_none_of KX G ?z6, PySem.W.mg_none_of KX G ?z7, PySem.W.mg_none_of KX G ?z8, PySem.W.mg_none_of KX G ?z9, PySem.W.mg_none_of KX G ?z10, PySem.W.mg_none_of KX G ?z11, PySem.W.mg_none_of KX G ?z12, PySem.W.mg_none_of KX G ?z13, PySem.W.mg_none_of KX G ?z14, PySem.W.mg_none_of KX G ?z15, Fx.mg_int KX G ?y0⟩; (case z0 => k_is); (case z1 => k_is); (case z2 => k_is); (case z3 => k_is); (case z4 => k_is); (case z5 => k_is); (case z6 => k_is); (case z7 => k_is); (case z8 => k_is); (case z9 => k_is); (case z10 => k_is); (case z11 => k_is); (case z12 => k_is); (case z13 => k_is); (case z14 => k_is); (case z15 => k_is); (case y0 => k_is)))
    (case E0 => (refine' Fx.at_mk KX G ?a ?l ?c ?k; (case a => k_is); (case l => k_is); (case c => k_is); (case k => k_is)))
    (case E1 => (refine' Fx.at_mk KX G ?a ?l ?c ?k; (case a => k_is); (case l => k_is); (case c => k_is); (case k => k_is)))
    (case E2 => (refine' Fx.at_mk KX G ?a ?l ?c ?k; (case a => k_is); (case l => k_is); (case c => k_is); (case k => k_is)))
    (case E3 => (refine' Fx.at_mk KX G ?a ?l ?c ?k; (case a => k_is); (case l => k_is); (case c => k_is); (case k => k_is)))
    (case E4 => (refine' Fx.at_mk KX G ?a ?l ?c ?k; (case a => k_is); (case l => k_is); (case c => k_is); (case k => k_is)))
    (case E5 => (refine' Fx.at_mk KX G ?a ?l ?c ?k; (case a => k_is); (case l => k_is); (case c => k_is); (case k => k_is)))
    (case E6 => (refine' Fx.at_mk KX G ?a ?l ?c ?k; (case a => k_is); (case l => k_is); (case c => k_is); (case k => k_is)))
    (case E7 => (refine' Fx.at_mk KX G ?a ?l ?c ?k; (case a => k_is); (case l => k_is); (case c => k_is); (case k => k_is)))
    (case E8 => (refine' Fx.at_mk KX G ?a ?l ?c ?k; (case a => k_is); (case l => k_is); (case c => k_is); (case k => k_is)))
    (case E9 => (refine' Fx.at_mk KX G ?a ?l ?c ?k; (case a => k_is); (case l => k_is); (case c => k_is); (case k => k_is)))
    (case E10 => (refine' Fx.at_mk KX G ?a ?l ?c ?k; (case a => k_is); (case l => k_is); (case c => k_is); (case k => k_is)))
    (case E11 => (refine' Fx.at_mk KX G ?a ?l ?c ?k; (case a => k_is); (case l => k_is); (case c => k_is); (case k => k_is)))
    (case E12 => (refine' Fx.at_mk KX G ?a ?l ?c ?k; (case a => k_is); (case l => k_is); (case c => k_is); (case k => k_is)))
    (case E13 => (refine' Fx.at_mk KX G ?a ?l ?c ?k; (case a => k_is); (case l => k_is); (case c => k_is); (case k => k_is)))
    (case E14 => (refine' Fx.at_mk KX G ?a ?l ?c ?k; (case a => k_is); (case l => k_is); (case c => k_is); (case k => k_is)))
    (case E15 => (refine' Fx.at_mk KX G ?a ?l ?c ?k; (case a => k_is); (case l => k_is); (case c => k_is); (case k => k_is)))
    (case E16 => (refine' Fx.at_mk KX G ?a ?l ?c ?k; (case a => k_is); (case l => k_is); (case c => k_is); (case k => k_is)))
    (case E17 => (refine' Fx.at_mk KX G ?a ?l ?c ?k; (case a => k_is); (case l => k_is); (case c => k_is); (case k => k_is)))
    (case E18 => (refine' Fx.at_mk KX G ?a ?l ?c ?k; (case a => k_is); (case l => k_is); (case c => k_is); (case k => k_is)))
    (case E19 => (refine' Fx.at_mk KX G ?a ?l ?c ?k; (case a => k_is); (case l => k_is); (case c => k_is); (case k => k_is)))
    (case E20 => (refine' Fx.at_mk KX G ?a ?l ?c ?k; (case a => k_is); (case l => k_is); (case c => k_is); (case k => k_is)))
    (case E21 => (refine' Fx.at_mk KX G ?a ?l ?c ?k; (case a => k_is); (case l => k_is); (case c => k_is); (case k => k_is)))
    (case E22 => (refine' Fx.at_mk KX G ?a ?l ?c ?k; (case a => k_is); (case l => k_is); (case c => k_is); (case k => k_is)))
    (case E23 => (refine' Fx.at_mk KX G ?a ?l ?c ?k; (case a => k_is); (case l => k_is); (case c => k_is); (case k => k_is)))
    (case E24 => (refine' Fx.at_mk KX G ?a ?l ?c ?k; (case a => k_is); (case l => k_is); (case c => k_is); (case k => k_is)))
    (case E25 => (refine' Fx.at_mk KX G ?a ?l ?c ?k; (case a => k_is); (case l => k_is); (case c => k_is); (case k => k_is)))
    (case E26 => (refine' Fx.at_mk KX G ?a ?l ?c ?k; (case a => k_is); (case l => k_is); (case c => k_is); (case k => k_is)))
    (case E27 => (refine' Fx.at_mk KX G ?a ?l ?c ?k; (case a => k_is); (case l => k_is); (case c => k_is); (case k => k_is)))
    (case E28 => (refine' Fx.at_mk KX G ?a ?l ?c ?k; (case a => k_is); (case l => k_is); (case c => k_is); (case k => k_is)))

