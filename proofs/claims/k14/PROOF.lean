import PyProof.Rows.All
import Wide.All
import OpenK.AllK
import Wide.FinOn
import HandS.ForMost
import HandS.Wide
import HandS.TupAny
import HandS.TupMul
import HandS.TupLe
import HandS.Style
import HandS.IsInst
import HandS.Conv
import HandS.SortInts
import HandS.Gcd
import HandS.Zip
import HandS.Text
import HandS.Rev
import HandS.ExcValue
import KE.KDictZip
import HandS.Strs
import HandS.More
import PyProof.Rows.SetFrom
import HandS.Words
import HandS.TupSets
import HandS.SetFor
import HandS.Exc
import KE.GoesEnum
import HandS.RaiseMore
import HandS.Flt
import KE.KTupSum
import PyProof.Rows.RuleB_pow
import HandS.TryOnly
import PySem.Challenge.RW_looksdrawn_k14_whole_degrees_and_paths
set_option Elab.async false
set_option linter.all false
set_option maxRecDepth 100000
/-! Fx1: values with what they own, the abstract state -/
noncomputable section
namespace Fx
open PySem PySem.Spec PyProof.Rows L2

/-- a value of a slot: plain data, or an object that the slot owns -/
inductive MD where
  | dat (d : PyData)
  | lst (xs : List PyData)
  | lls (xss : List (List PyData))
  | bag (c : List Int) (b m : Int)
  | dcK (kvs : List (Key × PyData))
  | dcT (kvs : List (List Key × PyData))
  | scr (ns : List Int)
def MD.own : MD → Bool
  | .dat _ => false
  | .scr _ => false
  | _ => true

inductive Tag where
  | out | slot (i : Nat) | tmp (i : Nat)
  deriving DecidableEq
abbrev Own := Addr → Option Tag

mutual
/-- data that nobody changes -/
inductive Fz (K : PySem.W.Frag) (O : Own) (H : Hp) : PyData → V → Prop
  | non : Fz K O H .none .non
  | bl (b : Bool) : Fz K O H (.bool b) (.bl b)
  | int (i : Int) : Fz K O H (.int i) (.int i)
  | str (x : Str) : Fz K O H (.str x) (.str x)
  | lst {a : Addr} {xs : List V} {ds : List PyData} : H a = some (.lst xs) → O a = none → FzA K O H ds xs → Fz K O H (.list ds) (.ref a)
  | tup {a : Addr} {xs : List V} {ds : List PyData} : Rd H a (.tup xs) → O a = none → FzA K O H ds xs → Fz K O H (.tuple ds) (.ref a)
  | tupK {a : Addr} {xs : List V} {ds : List PyData} : SqT K (fun _ => none) a xs → FzA K O H ds xs → Fz K O H (.tuple ds) (.ref a)
  | dct {a : Addr} {od : Obj} {kvs : List (Key × V)} {ds : List (PyData × PyData)} : H a = some (.frz od (.dK kvs)) → O a = none → FzD K O H ds kvs → Fz K O H (.dict ds) (.ref a)
inductive FzA (K : PySem.W.Frag) (O : Own) (H : Hp) : List PyData → List V → Prop
  | nil : FzA K O H [] []
  | cons {v : V} {vs : List V} {d : PyData} {ds : List PyData} : Fz K O H d v → FzA K O H ds vs → FzA K O H (d :: ds) (v :: vs)
inductive FzD (K : PySem.W.Frag) (O : Own) (H : Hp) : List (PyData × PyData) → List (Key × V) → Prop
  | nil : FzD K O H [] []
  | cons {k : Key} {v : V} {vs : List (Key × V)} {e d : PyData} {ds : List (PyData × PyData)} : Fz K O H e (kV k) → Fz K O H d v → FzD K O H ds vs → FzD K O H ((e, d) :: ds) ((k, v) :: vs)
end

def Kp (O : Own) (H : Hp) (O' : Own) (H' : Hp) : Prop := ∀ b o, H b = some o → O b = none → H' b = some o ∧ O' b = none
theorem Kp.refl (O : Own) (H : Hp) : Kp O H O H := fun _ _ h n => ⟨h, n⟩
theorem Kp.trans {O O' O'' : Own} {H H' H'' : Hp} (a : Kp O H O' H') (b : Kp O' H' O'' H'') : Kp O H O'' H'' := fun c o h n =>
  b c o (a c o h n).1 (a c o h n).2

section
variable {K : PySem.W.Frag} {O O' : Own} {H H' : Hp}
theorem Kp.rd (k : Kp O H O' H') {a : Addr} {u : HO} (r : Rd H a u) (n : O a = none) : Rd H' a u ∧ O' a = none := by
  rcases r with r | ⟨o, r⟩
  · exact ⟨.inl (k _ _ r n).1, (k _ _ r n).2⟩
  · exact ⟨.inr ⟨o, (k _ _ r n).1⟩, (k _ _ r n).2⟩
mutual
theorem Fz.kp (k : Kp O H O' H') : ∀ (d : PyData) (v : V), Fz K O H d v → Fz K O' H' d v
  | .none, _, h => by cases h; exact .non
  | .bool b, _, h => by cases h; exact .bl b
  | .int i, _, h => by cases h; exact .int i
  | .str x, _, h => by cases h; exact .str x
  | .list ds, _, h => by
    cases h with
    | lst hr n ha => exact .lst (k _ _ hr n).1 (k _ _ hr n).2 (FzA.kp k ds _ ha)
  | .tuple ds, _, h => by
    cases h with
    | tup hr n ha => exact .tup (k.rd hr n).1 (k.rd hr n).2 (FzA.kp k ds _ ha)
    | tupK hr ha => exact .tupK hr (FzA.kp k ds _ ha)
  | .dict ds, _, h => by
    cases h with
    | dct hr n ha => exact .dct (k _ _ hr n).1 (k _ _ hr n).2 (FzD.kp k ds _ ha)
theorem FzA.kp (k : Kp O H O' H') : ∀ (ds : List PyData) (vs : List V), FzA K O H ds vs → FzA K O' H' ds vs
  | [], _, h => by cases h; exact .nil
  | d :: ds, _, h => by
    cases h with
    | cons h1 h2 => exact .cons (Fz.kp k d _ h1) (FzA.kp k ds _ h2)
theorem FzD.kp (k : Kp O H O' H') : ∀ (ds : List (PyData × PyData)) (vs : List (Key × V)), FzD K O H ds vs → FzD K O' H' ds vs
  | [], _, h => by cases h; exact .nil
  | (e, d) :: ds, _, h => by
    cases h with
    | cons h1 h2 h3 => exact .cons (Fz.kp k e _ h1) (Fz.kp k d _ h2) (FzD.kp k ds _ h3)
end
theorem FzA.length : ∀ {ds : List PyData} {vs : List V}, FzA K O H ds vs → ds.length = vs.length
  | [], _, h => by cases h; rfl
  | d :: ds, _, h => by
    cases h with
    | cons h1 h2 => simp [FzA.length h2]
theorem FzA.get : ∀ {ds : List PyData} {vs : List V} {i : Nat} {d : PyData}, FzA K O H ds vs → ds[i]? = some d → ∃ v, vs[i]? = some v ∧ Fz K O H d v
  | [], _, i, _, _, e => by simp at e
  | _ :: _, _, 0, _, h, e => by
    cases h with
    | cons h1 h2 =>
      simp at e
      subst e
      exact ⟨_, rfl, h1⟩
  | _ :: ds, _, i + 1, _, h, e => by
    cases h with
    | cons h1 h2 =>
      obtain ⟨v, e1, e2⟩ := FzA.get (i := i) h2 (by simpa using e)
      exact ⟨v, by simpa using e1, e2⟩
theorem FzA.append : ∀ {ds es : List PyData} {vs ws : List V}, FzA K O H ds vs → FzA K O H es ws → FzA K O H (ds ++ es) (vs ++ ws)
  | [], _, _, _, h, g => by cases h; exact g
  | _ :: _, _, _, _, h, g => by
    cases h with
    | cons h1 h2 => exact .cons h1 (FzA.append h2 g)
theorem FzA.take : ∀ {ds : List PyData} {vs : List V} (n : Nat), FzA K O H ds vs → FzA K O H (ds.take n) (vs.take n)
  | _, _, 0, _ => .nil
  | [], _, n + 1, h => by cases h; exact .nil
  | _ :: _, _, n + 1, h => by
    cases h with
    | cons h1 h2 => exact .cons h1 (FzA.take n h2)
theorem FzA.drop : ∀ {ds : List PyData} {vs : List V} (n : Nat), FzA K O H ds vs → FzA K O H (ds.drop n) (vs.drop n)
  | _, _, 0, h => h
  | [], _, n + 1, h => by cases h; exact .nil
  | _ :: _, _, n + 1, h => by
    cases h with
    | cons h1 h2 => exact FzA.drop n h2
theorem FzA.set {d : PyData} {v : V} (r : Fz K O H d v) : ∀ {ds : List PyData} {vs : List V} (i : Nat), FzA K O H ds vs → FzA K O H (ds.set i d) (vs.set i v)
  | [], _, _, h => by cases h; exact .nil
  | _ :: _, _, 0, h => by
    cases h with
    | cons h1 h2 => exact .cons r h2
  | _ :: _, _, i + 1, h => by
    cases h with
    | cons h1 h2 => exact .cons h1 (FzA.set r i h2)
theorem FzA.reverse {ds : List PyData} {vs : List V} (h : FzA K O H ds vs) : FzA K O H ds.reverse vs.reverse := by
  induction ds generalizing vs with
  | nil => cases h; exact .nil
  | cons d ds ih =>
    cases h with
    | cons h1 h2 =>
      rw [List.reverse_cons, List.reverse_cons]
      exact FzA.append (ih h2) (.cons h1 .nil)
theorem FzA.of_get : ∀ {ds : List PyData} {vs : List V}, ds.length = vs.length → (∀ (i : Nat) (d : PyData) (v : V), ds[i]? = some d → vs[i]? = some v → Fz K O H d v) → FzA K O H ds vs
  | [], [], _, _ => .nil
  | [], _ :: _, e, _ => by simp at e
  | _ :: _, [], e, _ => by simp at e
  | d :: ds, v :: vs, e, h => .cons (h 0 d v rfl rfl) (FzA.of_get (by simpa using e) fun i d v e1 e2 => h (i + 1) d v (by simpa using e1) (by simpa using e2))
theorem FzA.ints : ∀ (ns : List Int), FzA K O H (ns.map .int) (ns.map .int)
  | [] => .nil
  | n :: ns => .cons (.int n) (FzA.ints ns)
/-- a frozen list, tuple as the rules read it -/
theorem Fz.sqL {ds : List PyData} {v : V} (h : Fz K O H (.list ds) v) : ∃ a xs, v = .ref a ∧ H a = some (.lst xs) ∧ FzA K O H ds xs ∧ O a = none := by
  cases h with
  | lst hr n ha => exact ⟨_, _, rfl, hr, ha, n⟩
theorem Fz.sqT {ds : List PyData} {v : V} (h : Fz K O H (.tuple ds) v) : ∃ a xs, v = .ref a ∧ SqT K H a xs ∧ FzA K O H ds xs := by
  cases h with
  | tup hr n ha => exact ⟨_, _, rfl, .inl hr, ha⟩
  | tupK hr ha =>
    refine ⟨_, _, rfl, ?_, ha⟩
    rcases hr with hr | hr
    · rcases hr with hr | ⟨o, hr⟩ <;> cases hr
    · exact .inr hr
end

def PDict (K : PySem.W.Frag) (O : Own) (H : Hp) {κ : Type} (kvs : List (κ × PyData)) (ws : List (κ × V)) : Prop := Paired (fun p q => p.1 = q.1 ∧ Fz K O H p.2 q.2) kvs ws

/-- a value as its slot (or temporary) holds it; t: the tag of what it owns -/
def MR (K : PySem.W.Frag) (O : Own) (H : Hp) (t : Tag) : MD → V → Prop
  | .dat d, v => Fz K O H d v
  | .lst xs, v => ∃ a vs, v = .ref a ∧ O a = some t ∧ H a = some (.lst vs) ∧ FzA K O H xs vs
  | .lls xss, v => ∃ a as vss, v = .ref a ∧ O a = some t ∧ a ∉ as ∧ as.Nodup ∧ H a = some (.lst (as.map .ref)) ∧
      Paired (fun b vs => O b = some t ∧ H b = some (.lst vs)) as vss ∧ Paired (fun xs vs => FzA K O H xs vs) xss vss
  | .bag c b m, v => ∃ a e, v = .ref a ∧ a ≠ e ∧ O a = some t ∧ O e = some t ∧ H a = some (.lst [.ref e, .int b, .int m]) ∧ H e = some (.lst (c.map .int))
  | .dcK kvs, v => ∃ a ws, v = .ref a ∧ O a = some t ∧ H a = some (.dK ws) ∧ PDict K O H kvs ws
  | .dcT kvs, v => ∃ a ws, v = .ref a ∧ O a = some t ∧ H a = some (.dT ws) ∧ PDict K O H kvs ws
  | .scr ns, v => ∃ a, v = .ref a ∧ (Rd H a (.lst (ns.map .int)) ∧ O a = none ∨ SqL K (fun _ => none) a (ns.map .int))

/-- a step of the state that touches what has a tag in J alone -/
structure Ev (J : Tag → Prop) (O : Own) (H : Hp) (O' : Own) (H' : Hp) : Prop where
  kp : ∀ b o, H b = some o → (∀ t, O b = some t → ¬ J t) → H' b = some o ∧ O' b = O b
  dom : ∀ b t, O' b = some t → H' b ≠ none
  out : ∀ b, O' b = some .out → O b = some .out
abbrev J0 : Tag → Prop := fun _ => False
section
variable {K : PySem.W.Frag} {J J' : Tag → Prop} {O O' O'' : Own} {H H' H'' : Hp}
theorem Ev.refl (dom : ∀ b t, O b = some t → H b ≠ none) : Ev J O H O H := ⟨fun _ _ h _ => ⟨h, rfl⟩, dom, fun _ h => h⟩
theorem Ev.trans (a : Ev J O H O' H') (b : Ev J O' H' O'' H'') : Ev J O H O'' H'' :=
  ⟨fun c o h n => by
    obtain ⟨h1, e1⟩ := a.kp c o h n
    obtain ⟨h2, e2⟩ := b.kp c o h1 (by rw [e1]; exact n)
    exact ⟨h2, e2.trans e1⟩, b.dom, fun c h => a.out c (b.out c h)⟩
theorem Ev.mono (a : Ev J O H O' H') (h : ∀ t, J t → J' t) : Ev J' O H O' H' :=
  ⟨fun b o e n => a.kp b o e fun t q z => n t q (h t z), a.dom, a.out⟩
theorem Ev.k (a : Ev J O H O' H') : Kp O H O' H' := fun b o h n => by
  obtain ⟨h1, e1⟩ := a.kp b o h fun t q => by rw [n] at q; cases q
  exact ⟨h1, e1.trans n⟩
theorem Ev.ownd (a : Ev J O H O' H') {b : Addr} {o : HO} {t : Tag} (h : H b = some o) (q : O b = some t) (n : ¬ J t) : H' b = some o ∧ O' b = some t := by
  obtain ⟨h1, e1⟩ := a.kp b o h fun t' q' => by rw [q] at q'; cases q'; exact n
  exact ⟨h1, e1.trans q⟩
theorem PDict.kp {κ : Type} (k : Kp O H O' H') {kvs : List (κ × PyData)} {ws : List (κ × V)} (h : PDict K O H kvs ws) : PDict K O' H' kvs ws :=
  Paired.mapP h fun p q z => ⟨z.1, Fz.kp k _ _ z.2⟩
theorem MR.ev (a : Ev J O H O' H') {t : Tag} (n : ¬ J t) : ∀ {m : MD} {v : V}, MR K O H t m v → MR K O' H' t m v
  | .dat d, v, h => Fz.kp a.k _ _ h
  | .lst xs, v, h => by
    obtain ⟨b, vs, e, q, h1, h2⟩ := h
    exact ⟨b, vs, e, (a.ownd h1 q n).2, (a.ownd h1 q n).1, FzA.kp a.k _ _ h2⟩
  | .lls xss, v, h => by
    obtain ⟨b, as, vss, e, q, h0, h1, h2, h3, h4⟩ := h
    exact ⟨b, as, vss, e, (a.ownd h2 q n).2, h0, h1, (a.ownd h2 q n).1, Paired.mapP h3 fun c vs z => ⟨(a.ownd z.2 z.1 n).2, (a.ownd z.2 z.1 n).1⟩, Paired.mapP h4 fun xs vs z => FzA.kp a.k _ _ z⟩
  | .bag c b m, v, h => by
    obtain ⟨x, y, e, ne, q1, q2, h1, h2⟩ := h
    exact ⟨x, y, e, ne, (a.ownd h1 q1 n).2, (a.ownd h2 q2 n).2, (a.ownd h1 q1 n).1, (a.ownd h2 q2 n).1⟩
  | .dcK kvs, v, h => by
    obtain ⟨b, ws, e, q, h1, h2⟩ := h
    exact ⟨b, ws, e, (a.ownd h1 q n).2, (a.ownd h1 q n).1, h2.kp a.k⟩
  | .dcT kvs, v, h => by
    obtain ⟨b, ws, e, q, h1, h2⟩ := h
    exact ⟨b, ws, e, (a.ownd h1 q n).2, (a.ownd h1 q n).1, h2.kp a.k⟩
  | .scr ns, v, h => by
    obtain ⟨b, e, h1 | h1⟩ := h
    · exact ⟨b, e, .inl (a.k.rd h1.1 h1.2)⟩
    · exact ⟨b, e, .inr h1⟩

/-- a new object that nobody owns -/
theorem Ev.new {p : Addr} {o : HO} (dom : ∀ b t, O b = some t → H b ≠ none) (hp : H p = none) : Ev J0 O H O (upd H p o) :=
  ⟨fun b u h _ => ⟨by rw [upd_ne (ne_of_none h hp)]; exact h, rfl⟩, fun b t q => by
    rw [upd_ne (fun z => by subst z; exact dom _ _ q hp)]
    exact dom b t q, fun _ h => h⟩
theorem own_none {p : Addr} (dom : ∀ b t, O b = some t → H b ≠ none) (hp : H p = none) : O p = none := by
  cases q : O p with
  | none => rfl
  | some t => exact absurd hp (dom _ _ q)
/-- O with p owned by t -/
def put (O : Own) (p : Addr) (t : Tag) : Own := fun b => if b = p then some t else O b
theorem put_same {O : Own} {p : Addr} {t : Tag} : put O p t p = some t := by simp [put]
theorem put_ne {O : Own} {p b : Addr} {t : Tag} (h : b ≠ p) : put O p t b = O b := by simp [put, h]
theorem Ev.newOwn {p : Addr} {o : HO} {t : Tag} (ht : t ≠ .out) (dom : ∀ b t, O b = some t → H b ≠ none) (hp : H p = none) : Ev J0 O H (put O p t) (upd H p o) :=
  ⟨fun b u h _ => ⟨by rw [upd_ne (ne_of_none h hp)]; exact h, put_ne (ne_of_none h hp)⟩, fun b t' q => by
    by_cases e : b = p
    · subst e; rw [upd_same]; exact fun z => by cases z
    · rw [put_ne e] at q; rw [upd_ne e]; exact dom b _ q, fun b q => by
    by_cases e : b = p
    · subst e; rw [put_same] at q; exact absurd (Option.some.inj q) ht
    · rwa [put_ne e] at q⟩
/-- what had the tag t has r -/
def retag (O : Own) (t : Tag) (r : Option Tag) : Own := fun b => if O b = some t then r else O b
theorem retag_of {O : Own} {t : Tag} {r : Option Tag} {b : Addr} (h : O b = some t) : retag O t r b = r := by simp [retag, h]
theorem retag_ne {O : Own} {t : Tag} {r : Option Tag} {b : Addr} (h : O b ≠ some t) : retag O t r b = O b := by simp [retag, h]
theorem Ev.retag {t : Tag} {r : Option Tag} (hr : r ≠ some .out) (dom : ∀ b t, O b = some t → H b ≠ none) : Ev (· = t) O H (retag O t r) H :=
  ⟨fun b o h n => ⟨h, retag_ne fun q => n t q rfl⟩, fun b t' q => by
    by_cases e : O b = some t
    · exact dom b _ e
    · rw [retag_ne e] at q; exact dom b _ q, fun b q => by
    by_cases e : O b = some t
    · rw [retag_of e] at q; exact absurd q hr
    · rwa [retag_ne e] at q⟩
/-- an owned object is written -/
theorem Ev.write {p : Addr} {o : HO} {t : Tag} (dom : ∀ b t, O b = some t → H b ≠ none) (hp : O p = some t) : Ev (· = t) O H O (upd H p o) :=
  ⟨fun b u h n => by
    have e : b ≠ p := fun z => by subst z; exact n t hp rfl
    exact ⟨by rw [upd_ne e]; exact h, rfl⟩, fun b t' q => by
    by_cases e : b = p
    · subst e; rw [upd_same]; exact fun z => by cases z
    · rw [upd_ne e]; exact dom b _ q, fun _ h => h⟩
/-- what is owned is moved from the tag t to r -/
theorem MR.move {t r : Tag} (dom : ∀ b t, O b = some t → H b ≠ none) (hr : r ≠ .out) {m : MD} {v : V} (h : MR K O H t m v) : MR K (Fx.retag O t (some r)) H r m v := by
  have k : Kp O H (Fx.retag O t (some r)) H := (Ev.retag (by simpa using hr) dom).k
  cases m with
  | dat d => exact Fz.kp k _ _ h
  | lst xs =>
    obtain ⟨b, vs, e, q, h1, h2⟩ := h
    exact ⟨b, vs, e, retag_of q, h1, FzA.kp k _ _ h2⟩
  | lls xss =>
    obtain ⟨b, as, vss, e, q, h0, h1, h2, h3, h4⟩ := h
    exact ⟨b, as, vss, e, retag_of q, h0, h1, h2, Paired.mapP h3 fun c vs z => ⟨retag_of z.1, z.2⟩, Paired.mapP h4 fun xs vs z => FzA.kp k _ _ z⟩
  | bag c b m =>
    obtain ⟨x, y, e, ne, q1, q2, h1, h2⟩ := h
    exact ⟨x, y, e, ne, retag_of q1, retag_of q2, h1, h2⟩
  | dcK kvs =>
    obtain ⟨b, ws, e, q, h1, h2⟩ := h
    exact ⟨b, ws, e, retag_of q, h1, h2.kp k⟩
  | dcT kvs =>
    obtain ⟨b, ws, e, q, h1, h2⟩ := h
    exact ⟨b, ws, e, retag_of q, h1, h2.kp k⟩
  | scr ns =>
    obtain ⟨b, e, h1 | h1⟩ := h
    · exact ⟨b, e, .inl (k.rd h1.1 h1.2)⟩
    · exact ⟨b, e, .inr h1⟩
/-- as plain data -/
def MD.flat : MD → Option PyData
  | .dat d => some d
  | .lst xs => some (.list xs)
  | .lls xss => some (.list (xss.map .list))
  | _ => none
theorem lls_flat {t : Tag} {as : List Addr} {vss : List (List V)} {xss : List (List PyData)} (dom : ∀ b t, O b = some t → H b ≠ none) (h3 : Paired (fun b vs => O b = some t ∧ H b = some (.lst vs)) as vss)
    (h4 : Paired (fun xs vs => FzA K O H xs vs) xss vss) : FzA K (Fx.retag O t none) H (xss.map .list) (as.map .ref) := by
  have k : Kp O H (Fx.retag O t none) H := (Ev.retag (by simp) dom).k
  induction h3 generalizing xss with
  | nil => cases h4; exact .nil
  | cons r _ ih =>
    cases h4 with
    | cons s s' => exact .cons (.lst r.2 (retag_of r.1) (FzA.kp k _ _ s)) (ih s')
theorem MR.freeze {t : Tag} (dom : ∀ b t, O b = some t → H b ≠ none) {m : MD} {v : V} {d : PyData} (h : MR K O H t m v) (e : m.flat = some d) : Fz K (Fx.retag O t none) H d v := by
  have k : Kp O H (Fx.retag O t none) H := (Ev.retag (by simp) dom).k
  cases m with
  | dat d' =>
    cases e
    exact Fz.kp k _ _ h
  | lst xs =>
    cases e
    obtain ⟨b, vs, e, q, h1, h2⟩ := h
    subst e
    exact .lst h1 (retag_of q) (FzA.kp k _ _ h2)
  | lls xss =>
    cases e
    obtain ⟨b, as, vss, e, q, h0, h1, h2, h3, h4⟩ := h
    subst e
    exact .lst h2 (retag_of q) (lls_flat dom h3 h4)
  | _ => cases e
end
end Fx

end

/-! Fx2: the state of a body: slots and temporaries -/
noncomputable section
namespace Fx
open PySem PySem.Spec PyProof.Rows L2

abbrev Gm := List (Option MD)
/-- a temporary: a value, or the very object that a slot owns -/
inductive TV where
  | md (m : MD)
  | al (i : Nat)
def dv (Γ : Gm) : TV → Option PyData
  | .md (.dat d) => some d
  | .md (.lst xs) => some (.list xs)
  | .al i => match Γ[i]? with
    | some (some (.lst xs)) => some (.list xs)
    | _ => none
  | _ => none

def TR (K : PySem.W.Frag) (O : Own) (H : Hp) (σ : L2.St) (Γ : Gm) (t : Tag) : TV → V → Prop
  | .md m, v => MR K O H t m v
  | .al i, v => σ[i]? = some (some v) ∧ ∃ m, Γ[i]? = some (some m) ∧ m.own = true
def Tm (K : PySem.W.Frag) (O : Own) (H : Hp) (σ : L2.St) (Γ : Gm) : List V → List TV → Prop
  | [], [] => True
  | v :: vs, t :: ts => TR K O H σ Γ (.tmp ts.length) t v ∧ Tm K O H σ Γ vs ts
  | _, _ => False

/-- a def's entry -/
structure Wd where
  H : Hp
  O : Own
  σ : L2.St
structure Cf (K : PySem.W.Frag) (np : Nat) (W : Wd) (O : Own) (σ : L2.St) (H : Hp) (Γ : Gm) (vs : List V) (ts : List TV) : Prop where
  dom : ∀ b t, O b = some t → H b ≠ none
  sl : ∀ (i : Nat) (m : MD), Γ[i]? = some (some m) → ∃ v, σ[i]? = some (some v) ∧ MR K O H (.slot i) m v
  tm : Tm K O H σ Γ vs ts
  keep : ∀ b o, W.H b = some o → (∀ k, W.O b ≠ some (.slot k)) → H b = some o ∧ O b = W.O b
  out : ∀ b, O b = some .out → W.O b = some .out
  wt : ∀ b k, W.O b ≠ some (.tmp k)
  arg : ∀ (i : Nat) (m : MD), i < np → Γ[i]? = some (some m) → m.own = true → σ[i]? = W.σ[i]?
  len : Γ.length = σ.length
def Cfg (K : PySem.W.Frag) (np : Nat) (W : Wd) (σ : L2.St) (H : Hp) (Γ : Gm) (vs : List V) (ts : List TV) : Prop := ∃ O, Cf K np W O σ H Γ vs ts

section
variable {K : PySem.W.Frag} {np : Nat} {W : Wd} {O O' : Own} {σ σ' : L2.St} {H H' : Hp} {Γ Γ' : Gm} {vs : List V} {ts : List TV} {J : Tag → Prop}
theorem Tm.ev (a : Ev J O H O' H') (hJ : ∀ k, J (.tmp k) → ts.length ≤ k) (hΓ : ∀ (i : Nat) (m : MD), Γ[i]? = some (some m) → m.own = true → ∃ m' : MD, Γ'[i]? = some (some m') ∧ m'.own = true) :
    ∀ {vs : List V} {us : List TV}, us.length ≤ ts.length → Tm K O H σ Γ vs us → Tm K O' H' σ Γ' vs us
  | [], [], _, _ => True.intro
  | v :: vs, t :: us, hl, h => by
    refine ⟨?_, Tm.ev a hJ hΓ (by simp at hl; omega) h.2⟩
    have h1 := h.1
    cases t with
    | md m => exact MR.ev a (fun z => by have := hJ _ z; simp at hl; omega) h1
    | al i =>
      obtain ⟨e, m, e1, e2⟩ := h1
      exact ⟨e, hΓ i m e1 e2⟩
  | [], _ :: _, _, h => h.elim
  | _ :: _, [], _, h => h.elim
/-- a step of the objects, the slots as they are -/
theorem Cf.ev (c : Cf K np W O σ H Γ vs ts) (a : Ev J O H O' H') (ho : ¬ J .out) (hs : ∀ (i : Nat) (m : MD), Γ[i]? = some (some m) → m.own = true → ¬ J (.slot i)) (ht : ∀ k, J (.tmp k) → ts.length ≤ k) : Cf K np W O' σ H' Γ vs ts where
  dom := a.dom
  sl := fun i m e => by
    obtain ⟨v, e1, r⟩ := c.sl i m e
    refine ⟨v, e1, ?_⟩
    cases h : m.own with
    | true => exact r.ev a (hs i m e h)
    | false =>
      cases m with
      | dat d => exact Fz.kp a.k _ _ r
      | scr ns =>
        obtain ⟨b, e, h1 | h1⟩ := r
        · exact ⟨b, e, .inl (a.k.rd h1.1 h1.2)⟩
        · exact ⟨b, e, .inr h1⟩
      | _ => cases h
  tm := Tm.ev (ts := ts) a ht (fun i m e h => ⟨m, e, h⟩) (Nat.le_refl _) c.tm
  keep := fun b o h n => by
    obtain ⟨h1, e1⟩ := c.keep b o h n
    obtain ⟨h2, e2⟩ := a.kp b o h1 fun t q z => by
      rw [e1] at q
      cases t with
      | out => exact ho z
      | slot k => exact n k q
      | tmp k => exact c.wt b k q
    exact ⟨h2, e2.trans e1⟩
  out := fun b h => c.out b (a.out b h)
  wt := c.wt
  arg := c.arg
  len := c.len
theorem Cf.ev0 (c : Cf K np W O σ H Γ vs ts) (a : Ev J0 O H O' H') : Cf K np W O' σ H' Γ vs ts := c.ev a (fun z => z) (fun _ _ _ _ z => z) fun _ z => z.elim
/-- one more temporary -/
theorem Cf.push (c : Cf K np W O σ H Γ vs ts) {v : V} {t : TV} (r : TR K O H σ Γ (.tmp ts.length) t v) : Cf K np W O σ H Γ (v :: vs) (t :: ts) :=
  ⟨c.dom, c.sl, ⟨r, c.tm⟩, c.keep, c.out, c.wt, c.arg, c.len⟩
theorem Cf.pop {v : V} {t : TV} (c : Cf K np W O σ H Γ (v :: vs) (t :: ts)) : Cf K np W O σ H Γ vs ts :=
  ⟨c.dom, c.sl, c.tm.2, c.keep, c.out, c.wt, c.arg, c.len⟩
theorem Cf.top {v : V} {t : TV} (c : Cf K np W O σ H Γ (v :: vs) (t :: ts)) : TR K O H σ Γ (.tmp ts.length) t v := c.tm.1
theorem Cf.lens : ∀ {vs : List V} {ts : List TV}, Tm K O H σ Γ vs ts → vs.length = ts.length
  | [], [], _ => rfl
  | _ :: _, _ :: _, h => by simp [Cf.lens h.2]
  | [], _ :: _, h => h.elim
  | _ :: _, [], h => h.elim

/-- a value as it is read -/
def Vw (K : PySem.W.Frag) (O : Own) (H : Hp) : PyData → V → Prop
  | .list ds, v => ∃ a xs, v = .ref a ∧ H a = some (.lst xs) ∧ FzA K O H ds xs
  | d, v => Fz K O H d v
theorem Vw.of {d : PyData} {v : V} (h : Fz K O H d v) : Vw K O H d v := by
  cases d with
  | list ds =>
    obtain ⟨a, xs, e, q, r, _⟩ := h.sqL
    exact ⟨a, xs, e, q, r⟩
  | _ => exact h
theorem Vw.ofLst {t : Tag} {xs : List PyData} {v : V} (h : MR K O H t (.lst xs) v) : Vw K O H (.list xs) v := by
  obtain ⟨a, vs, e, _, h1, h2⟩ := h
  exact ⟨a, vs, e, h1, h2⟩
theorem Cf.view (c : Cf K np W O σ H Γ vs ts) {v : V} {t : TV} {g : Tag} {d : PyData} (r : TR K O H σ Γ g t v) (e : dv Γ t = some d) : Vw K O H d v := by
  cases t with
  | md m =>
    cases m with
    | dat d' => cases e; exact Vw.of r
    | lst xs => cases e; exact Vw.ofLst r
    | _ => cases e
  | al i =>
    obtain ⟨e1, m, e2, _⟩ := r
    obtain ⟨v', e3, r'⟩ := c.sl i m e2
    rw [e1] at e3
    cases e3
    simp only [dv, e2] at e
    cases m with
    | lst xs => cases e; exact Vw.ofLst r'
    | _ => cases e
/-- what an operation makes: data, or a new list -/
inductive Res where
  | val (d : PyData)
  | new (ds : List PyData)
def Res.fin (ow : Bool) : Res → TV
  | .val d => .md (.dat d)
  | .new ds => .md (if ow then .lst ds else .dat (.list ds))
def ResOk (K : PySem.W.Frag) (O : Own) (H : Hp) : Res → V → Hp → Prop
  | .val d, v, H' => Ev J0 O H O H' ∧ Fz K O H' d v
  | .new ds, v, H' => ∃ p ws, v = .ref p ∧ H p = none ∧ H' = upd H p (.lst ws) ∧ FzA K O H ds ws
theorem Cf.res (c : Cf K np W O σ H Γ vs ts) {ow : Bool} {r : Res} {v : V} (h : ResOk K O H r v H') : Cfg K np W σ H' Γ (v :: vs) (r.fin ow :: ts) := by
  cases r with
  | val d => exact ⟨O, (c.ev0 h.1).push h.2⟩
  | new ds =>
    obtain ⟨p, ws, rfl, hp, rfl, hd⟩ := h
    cases ow with
    | false =>
      have a := Ev.new (o := .lst ws) c.dom hp
      exact ⟨O, (c.ev0 a).push (.lst upd_same (own_none c.dom hp) (FzA.kp a.k _ _ hd))⟩
    | true =>
      have a := Ev.newOwn (o := .lst ws) (t := .tmp ts.length) (by simp) c.dom hp
      exact ⟨_, (c.ev0 a).push ⟨p, ws, rfl, put_same, upd_same, FzA.kp a.k _ _ hd⟩⟩
end

/-! ### the judgements -/
abbrev FE := Gm → Option (TV × Gm)
def up (K : PySem.W.Frag) (np : Nat) (f : FE) : TE := fun σ H Q => ∃ W Γ vs ts t Γ', Cfg K np W σ H Γ vs ts ∧ f Γ = some (t, Γ') ∧ ∀ v H', Cfg K np W σ H' Γ' (v :: vs) (t :: ts) → Q v H'
def FX (X : Cx) (np : Nat) (e : Expr) (f : FE) : Prop := PE X e (up X.K np f)
abbrev FT := Gm → Option (Bool × Gm)
def upT (K : PySem.W.Frag) (np : Nat) (f : FT) : TT := fun σ H Q => ∃ W Γ vs ts b Γ', Cfg K np W σ H Γ vs ts ∧ f Γ = some (b, Γ') ∧ ∀ H', Cfg K np W σ H' Γ' vs ts → Q b H'
def FTX (X : Cx) (np : Nat) (e : Expr) (f : FT) : Prop := PT X e (upT X.K np f)
abbrev FA := Gm → Option (List TV × Gm)
/-- the arguments, pushed one on the other -/
def upA (K : PySem.W.Frag) (np : Nat) (f : FA) : TA := fun σ H Q => ∃ W Γ vs ts us Γ', Cfg K np W σ H Γ vs ts ∧ f Γ = some (us, Γ') ∧ ∀ xs H', Cfg K np W σ H' Γ' (xs.reverse ++ vs) (us.reverse ++ ts) → xs.length = us.length → Q xs H'
def FAX (X : Cx) (np : Nat) (es : List Expr) (f : FA) : Prop := PA X es (upA X.K np f)
inductive Out where
  | nx (Γ : Gm) | rt (m : MD) (Γ : Gm) | bk (Γ : Gm) | ct (Γ : Gm)
abbrev FS := Gm → Option Out
def tsd (ds : List PyData) : List TV := ds.map fun d => .md (.dat d)
def EndOk (K : PySem.W.Frag) (np : Nat) (W : Wd) (vs : List V) (ds : List PyData) (D : Ends) : Out → Prop
  | .nx Γ => ∀ σ H, Cfg K np W σ H Γ vs (tsd ds) → D.nx σ H
  | .bk Γ => ∀ σ H, Cfg K np W σ H Γ vs (tsd ds) → D.bk σ H
  | .ct Γ => ∀ σ H, Cfg K np W σ H Γ vs (tsd ds) → D.ct σ H
  | .rt m Γ => ∀ v σ H, Cfg K np W σ H Γ (v :: vs) (.md m :: tsd ds) → D.rt v H
def upS (K : PySem.W.Frag) (np : Nat) (g : FS) : TS := fun D σ H => ∃ W Γ vs ds o, Cfg K np W σ H Γ vs (tsd ds) ∧ g Γ = some o ∧ EndOk K np W vs ds D o
def FSX (X : Cx) (np : Nat) (s : Stmt) (g : FS) : Prop := PS X s (upS X.K np g)
def FSsX (X : Cx) (np : Nat) (ss : List Stmt) (g : FS) : Prop := PSs X ss (upS X.K np g)

theorem PE.weak {X : Cx} {e : Expr} {t t' : TE} (h : PE X e t) (w : ∀ σ H Q, t' σ H Q → t σ H Q) : PE X e t' := ⟨fun pins s σ H Q I q => h.run pins s σ H Q I (w σ H Q q)⟩
theorem PT.weak {X : Cx} {e : Expr} {t t' : TT} (h : PT X e t) (w : ∀ σ H Q, t' σ H Q → t σ H Q) : PT X e t' := ⟨fun pins s σ H Q I q => h.run pins s σ H Q I (w σ H Q q)⟩
theorem PA.weak {X : Cx} {e : List Expr} {t t' : TA} (h : PA X e t) (w : ∀ σ H Q, t' σ H Q → t σ H Q) : PA X e t' := ⟨fun pos pins s σ H Q I q => h.run pos pins s σ H Q I (w σ H Q q)⟩
theorem PS.weak {X : Cx} {e : Stmt} {t t' : TS} (h : PS X e t) (w : ∀ D σ H, t' D σ H → t D σ H) : PS X e t' := ⟨fun pins s σ H D I q => h.run pins s σ H D I (w D σ H q)⟩
theorem PSs.weak {X : Cx} {e : List Stmt} {t t' : TS} (h : PSs X e t) (w : ∀ D σ H, t' D σ H → t D σ H) : PSs X e t' := ⟨fun pins s σ H D I q => h.run pins s σ H D I (w D σ H q)⟩
end Fx

end

/-! Fx3: names, constants, operators, comparisons, tests -/
noncomputable section
namespace Fx
open PySem PySem.Spec PyProof.Rows L2

section
variable {X : Cx} {np : Nat} {e a b : Expr} {pos : Pos} {f fa fb : FE}

def fVar (i : Nat) : FE := fun Γ => match Γ[i]? with
  | some (some m) => some (if m.own then .al i else .md m, Γ)
  | _ => none
theorem fx_var (i : Nat) {x : Str} (hN : X.N[i]? = some x := by rfl) (hv : Vis X.env.scope x := by first | exact Or.inl rfl | exact Or.inr (Or.inl rfl) | exact Or.inr (Or.inr rfl)) (hd : (x == ("__debug__" : Str)) = false := by decide)
    (hcd : (x == ("__classdict__" : Str)) = false := by decide) : FX X np (.Name x pos) (fVar i) := by
  refine PE.weak (pe_var hN hv hd hcd) fun σ H Q h => ?_
  obtain ⟨W, Γ, vs, ts, t, Γ', ⟨O, c⟩, e, q⟩ := h
  unfold fVar at e
  split at e
  · rename_i m hm
    obtain ⟨v, hv, r⟩ := c.sl i m hm
    cases e
    refine ⟨v, hv, q v H ⟨O, c.push ?_⟩⟩
    cases ho : m.own with
    | true => exact ⟨hv, m, hm, ho⟩
    | false =>
      have a := Ev.refl c.dom (J := J0)
      cases m with
      | dat d => exact r
      | scr ns => exact r
      | _ => cases ho
  · cases e

def fC (d : PyData) : FE := fun Γ => some (.md (.dat d), Γ)
theorem fx_c {v : V} {d : PyData} (h : PE X e (tC v)) (r : ∀ O H, Fz X.K O H d v) : FX X np e (fC d) := by
  refine PE.weak h fun σ H Q h => ?_
  obtain ⟨W, Γ, vs, ts, t, Γ', ⟨O, c⟩, e, q⟩ := h
  cases e
  exact q v H ⟨O, c.push (r O H)⟩
theorem fx_int {i j} : FX X np (.Constant (.int i) j pos) (fC (.int i)) := fx_c pe_int fun _ _ => .int _
theorem fx_bl {b j} : FX X np (.Constant (.bool b) j pos) (fC (.bool b)) := fx_c pe_bl fun _ _ => .bl _
theorem fx_non {j} : FX X np (.Constant .none j pos) (fC .none) := fx_c pe_non fun _ _ => .non
theorem fx_str {x j} : FX X np (.Constant (.str x) j pos) (fC (.str x)) := fx_c pe_str fun _ _ => .str _
/-- a constant of the module -/
theorem fx_glob {x : Str} {v : V} {u : Value} {d : PyData} (hg : Gl X x) (hm : X.mg x = some u) (r : RelV v u) (rd : ∀ O H, Fz X.K O H d v) (hd : (x == ("__debug__" : Str)) = false := by decide) : FX X np (.Name x pos) (fC d) := fx_c (pe_glob hg hm r hd) rd

/-! ### two operands -/
def fOp2 (g : PyData → PyData → Option Res) (ow : Bool) (fa fb : FE) : FE := fun Γ =>
  (fa Γ).bind fun p => (fb p.2).bind fun q => (dv q.2 p.1).bind fun d => (dv q.2 q.1).bind fun e => (g d e).map fun r => (r.fin ow, q.2)
def Snd2 (K : PySem.W.Frag) (r : R2) (g : PyData → PyData → Option Res) : Prop :=
  ∀ (O : Own) (H : Hp) (x y : V) (d e : PyData) (s : Res) (Q : VK), (∀ b t, O b = some t → H b ≠ none) → Vw K O H d x → Vw K O H e y → g d e = some s → (∀ v H', ResOk K O H s v H' → Q v H') → r x y H Q
theorem two {r : R2} {g : PyData → PyData → Option Res} {ow : Bool} (hg : Snd2 X.K r g) {σ : L2.St} {H : Hp} {Q : VK} (h : up X.K np (fOp2 g ow fa fb) σ H Q) : tOp r (up X.K np fa) (up X.K np fb) σ H Q := by
  obtain ⟨W, Γ, vs, ts, t, Γ', c, e, q⟩ := h
  unfold fOp2 at e
  obtain ⟨⟨t1, Γ1⟩, e1, e⟩ := Option.bind_eq_some_iff.mp e
  obtain ⟨⟨t2, Γ2⟩, e2, e⟩ := Option.bind_eq_some_iff.mp e
  obtain ⟨d1, e3, e⟩ := Option.bind_eq_some_iff.mp e
  obtain ⟨d2, e4, e⟩ := Option.bind_eq_some_iff.mp e
  obtain ⟨s, e5, e⟩ := Option.map_eq_some_iff.mp e
  cases e
  refine ⟨W, Γ, vs, ts, t1, Γ1, c, e1, fun x H1 c1 => ⟨W, Γ1, x :: vs, t1 :: ts, t2, Γ2, c1, e2, fun y H2 c2 => ?_⟩⟩
  obtain ⟨O, c2⟩ := c2
  exact hg O H2 x y d1 d2 s Q c2.dom (c2.view c2.tm.2.1 e3) (c2.view c2.tm.1 e4) e5 fun v H' ok => q v H' (c2.pop.pop.res ok)
theorem fx_op {op : Operator} {r : R2} {g : PyData → PyData → Option Res} {ow : Bool} (ho : OpR X (binaryOp op) r) (hg : Snd2 X.K r g) (ha : FX X np a fa) (hb : FX X np b fb) : FX X np (.BinOp a op b pos) (fOp2 g ow fa fb) :=
  PE.weak (pe_op ho ha hb) fun _ _ _ h => two hg h
theorem fx_cmp {op : CmpOp} {r : R2} {g : PyData → PyData → Option Res} (ho : OpR X (compareOp op) r) (hg : Snd2 X.K r g) (ha : FX X np a fa) (hb : FX X np b fb) (hm : behindInMarks op b = false) : FX X np (.Compare a [op] [b] pos) (fOp2 g false fa fb) :=
  PE.weak (pe_cmpR ho ha hb hm) fun _ _ _ h => two hg h
/-- a value as a test -/
def fT (f : FE) : FT := fun Γ => (f Γ).bind fun p => match p.1 with
  | .md (.dat (.bool b)) => some (b, p.2)
  | _ => none
theorem asTest {f : FE} {σ : L2.St} {H : Hp} {Q : Bool → Hp → Prop} (h : upT X.K np (fT f) σ H Q) : up X.K np f σ H fun x H' => ∃ k, x = .bl k ∧ Q k H' := by
  obtain ⟨W, Γ, vs, ts, b, Γ', c, e, q⟩ := h
  obtain ⟨⟨t1, Γ1⟩, e1, e⟩ := Option.bind_eq_some_iff.mp e
  refine ⟨W, Γ, vs, ts, t1, Γ1, c, e1, fun v H' c' => ?_⟩
  dsimp only at e
  split at e
  · cases e
    obtain ⟨O, c'⟩ := c'
    have r : Fz X.K O H' (.bool b) v := c'.top
    cases r
    exact ⟨b, rfl, q H' ⟨O, c'.pop⟩⟩
  · cases e
theorem ft_cmp {op : CmpOp} {r : R2} {g : PyData → PyData → Option Res} (ho : OpR X (compareOp op) r) (hg : Snd2 X.K r g) (ha : FX X np a fa) (hb : FX X np b fb) (hm : behindInMarks op b = false) : FTX X np (.Compare a [op] [b] pos) (fT (fOp2 g false fa fb)) := by
  refine PT.weak (pt_cmpR ho ha hb hm) fun σ H Q h => ?_
  exact two (np := np) (ow := false) hg (asTest h)
theorem ft_val (h : FX X np e f) (he : ∀ whole, isTrue e X.env whole = (do let v ← whole; standAt e.pos; holding [v] (truthy v)) := by intro _; rfl) : FTX X np e (fT f) :=
  PT.weak (pt_val h he) fun _ _ _ h => asTest h
/-- a value's truth -/
def truD : PyData → Option Bool
  | .none => some false
  | .bool b => some b
  | .int i => some (i != 0)
  | .str x => if x.length ≤ sizeLine then some ((x.length : Int) != 0) else none
  | .list xs => some (!xs.isEmpty)
  | .tuple xs => some (!xs.isEmpty)
  | _ => none
def fTru (f : FE) : FT := fun Γ => (f Γ).bind fun p => (dv p.2 p.1).bind fun d => (truD d).map fun b => (b, p.2)
theorem FzA.isEmpty {K : PySem.W.Frag} {O : Own} {H : Hp} {ds : List PyData} {vs : List V} (h : FzA K O H ds vs) : (!ds.isEmpty) = !vs.isEmpty := by
  cases h <;> rfl
theorem truV_of {K : PySem.W.Frag} {O : Own} {H : Hp} {d : PyData} {v : V} {k : Bool} (h : Vw K O H d v) (e : truD d = some k) : TruV K v H k := by
  cases d with
  | none => cases h; cases e; rfl
  | bool b => cases h; cases e; rfl
  | int i => cases h; cases e; rfl
  | str x =>
    cases h
    simp only [truD] at e
    by_cases hl : x.length ≤ sizeLine
    · rw [if_pos hl] at e
      cases e
      exact ⟨hl, rfl⟩
    · rw [if_neg hl] at e
      cases e
  | list ds =>
    obtain ⟨p, xs, rfl, hp, r⟩ := h
    cases e
    exact .inl ⟨xs, .of hp, r.isEmpty⟩
  | tuple ds =>
    obtain ⟨p, xs, rfl, hp, r⟩ := Fz.sqT h
    cases e
    exact .inr (.inl ⟨xs, hp, r.isEmpty⟩)
  | dict _ => cases e
theorem ft_truth (h : FX X np e f) (he : ∀ whole, isTrue e X.env whole = (do let v ← whole; standAt e.pos; holding [v] (truthy v)) := by intro _; rfl) : FTX X np e (fTru f) := by
  refine PT.weak (pt_truth h he) fun σ H Q h => ?_
  obtain ⟨W, Γ, vs, ts, b, Γ', c, e, q⟩ := h
  obtain ⟨⟨t1, Γ1⟩, e1, e⟩ := Option.bind_eq_some_iff.mp e
  obtain ⟨d, e2, e⟩ := Option.bind_eq_some_iff.mp e
  obtain ⟨k, e3, e⟩ := Option.map_eq_some_iff.mp e
  cases e
  refine ⟨W, Γ, vs, ts, t1, _, c, e1, fun v H' c' => ?_⟩
  obtain ⟨O, c'⟩ := c'
  exact ⟨_, truV_of (c'.view c'.top e2) e3, q H' ⟨O, c'.pop⟩⟩

/-! ### and, or, not, if -/
variable {ta tb : FT} {rest : List Expr}
def fAnd (ta tb : FT) : FT := fun Γ => (ta Γ).bind fun p => if p.1 = true then tb p.2 else some (false, p.2)
def fOr (ta tb : FT) : FT := fun Γ => (ta Γ).bind fun p => if p.1 = true then some (true, p.2) else tb p.2
def fNot (ta : FT) : FT := fun Γ => (ta Γ).map fun p => (!p.1, p.2)
def FWX (X : Cx) (np : Nat) (e : Expr) (f : FT) : Prop := PW X e (upT X.K np f)
theorem PW.weak {X : Cx} {e : Expr} {t t' : TT} (h : PW X e t) (w : ∀ σ H Q, t' σ H Q → t σ H Q) : PW X e t' := ⟨fun wh pins s σ H Q I q => h.run wh pins s σ H Q I (w σ H Q q)⟩
theorem FWX.ft {f : FT} (h : FWX X np e f) : FTX X np e f := PW.pt h
theorem fw_and1 (h : FTX X np a ta) : FWX X np (.BoolOp .And [a] pos) ta := pw_and1 h
theorem fw_or1 (h : FTX X np a ta) : FWX X np (.BoolOp .Or [a] pos) ta := pw_or1 h
theorem fw_and (h : FTX X np a ta) (hb : FWX X np (.BoolOp .And (b :: rest) pos) tb) : FWX X np (.BoolOp .And (a :: b :: rest) pos) (fAnd ta tb) := by
  refine PW.weak (pw_and h hb) fun σ H Q h => ?_
  obtain ⟨W, Γ, vs, ts, b, Γ', c, e, q⟩ := h
  obtain ⟨⟨b1, Γ1⟩, e1, e⟩ := Option.bind_eq_some_iff.mp e
  refine ⟨W, Γ, vs, ts, b1, Γ1, c, e1, fun H1 c1 => ?_⟩
  cases b1 with
  | true => exact iteT ⟨W, Γ1, vs, ts, b, Γ', c1, by simpa using e, q⟩
  | false =>
    have e' : (false, Γ1) = (b, Γ') := by simpa using e
    cases e'
    exact iteF (q H1 c1)
theorem fw_or (h : FTX X np a ta) (hb : FWX X np (.BoolOp .Or (b :: rest) pos) tb) : FWX X np (.BoolOp .Or (a :: b :: rest) pos) (fOr ta tb) := by
  refine PW.weak (pw_or h hb) fun σ H Q h => ?_
  obtain ⟨W, Γ, vs, ts, b, Γ', c, e, q⟩ := h
  obtain ⟨⟨b1, Γ1⟩, e1, e⟩ := Option.bind_eq_some_iff.mp e
  refine ⟨W, Γ, vs, ts, b1, Γ1, c, e1, fun H1 c1 => ?_⟩
  cases b1 with
  | false => exact iteF ⟨W, Γ1, vs, ts, b, Γ', c1, by simpa using e, q⟩
  | true =>
    have e' : (true, Γ1) = (b, Γ') := by simpa using e
    cases e'
    exact iteT (q H1 c1)
theorem ft_not (h : FTX X np a ta) : FTX X np (.UnaryOp .Not a pos) (fNot ta) := by
  refine PT.weak (pt_not h) fun σ H Q h => ?_
  obtain ⟨W, Γ, vs, ts, b, Γ', c, e, q⟩ := h
  obtain ⟨⟨b1, Γ1⟩, e1, e⟩ := Option.map_eq_some_iff.mp e
  cases e
  exact ⟨W, Γ, vs, ts, b1, Γ1, c, e1, q⟩
def fIfE (tc : FT) (fa fb : FE) : FE := fun Γ => (tc Γ).bind fun p => if p.1 = true then fa p.2 else fb p.2
theorem fx_ifE {c : Expr} {tc : FT} (hc : FTX X np c tc) (ha : FX X np a fa) (hb : FX X np b fb) : FX X np (.IfExp c a b pos) (fIfE tc fa fb) := by
  refine PE.weak (pe_ifExp hc ha hb) fun σ H Q h => ?_
  obtain ⟨W, Γ, vs, ts, t, Γ', c, e, q⟩ := h
  obtain ⟨⟨b1, Γ1⟩, e1, e⟩ := Option.bind_eq_some_iff.mp e
  refine ⟨W, Γ, vs, ts, b1, Γ1, c, e1, fun H1 c1 => ?_⟩
  cases b1 with
  | true => exact iteT ⟨W, Γ1, vs, ts, t, Γ', c1, by simpa using e, q⟩
  | false => exact iteF ⟨W, Γ1, vs, ts, t, Γ', c1, by simpa using e, q⟩
/-- and, or, not of truth values, as values -/
def asB (fa : FE) : FT := fT fa
def fAndV (fa fb : FE) : FE := fun Γ => (fT fa Γ).bind fun p => if p.1 = true then fb p.2 else some (.md (.dat (.bool false)), p.2)
def fOrV (fa fb : FE) : FE := fun Γ => (fT fa Γ).bind fun p => if p.1 = true then some (.md (.dat (.bool true)), p.2) else fb p.2
def fNotV (fa : FE) : FE := fun Γ => (fT fa Γ).map fun p => (.md (.dat (.bool (!p.1))), p.2)
theorem asBool {f : FE} {σ : L2.St} {H : Hp} {W : Wd} {Γ Γ1 : Gm} {vs : List V} {ts : List TV} {k : Bool} {R : Bool → Hp → Prop} (c : Cfg X.K np W σ H Γ vs ts) (e : fT f Γ = some (k, Γ1))
    (q : ∀ H', Cfg X.K np W σ H' Γ1 vs ts → R k H') : up X.K np f σ H fun x H' => ∃ k, x = .bl k ∧ R k H' := asTest ⟨W, Γ, vs, ts, k, Γ1, c, e, q⟩
theorem fx_one {op} (h : FX X np a fa) : FX X np (.BoolOp op [a] pos) fa := pe_one h
theorem fx_and (ha : FX X np a fa) (hb : FX X np (.BoolOp .And (b :: rest) pos) fb) : FX X np (.BoolOp .And (a :: b :: rest) pos) (fAndV fa fb) := by
  refine PE.weak (pe_and ha hb) fun σ H Q h => ?_
  obtain ⟨W, Γ, vs, ts, t, Γ', c, e, q⟩ := h
  obtain ⟨⟨k, Γ1⟩, e1, e⟩ := Option.bind_eq_some_iff.mp e
  refine asBool c e1 fun H1 c1 => ?_
  cases k with
  | true => exact iteT ⟨W, Γ1, vs, ts, t, Γ', c1, by simpa using e, q⟩
  | false =>
    have e' : (TV.md (.dat (.bool false)), Γ1) = (t, Γ') := by simpa using e
    cases e'
    obtain ⟨O, c1⟩ := c1
    exact iteF (q _ H1 ⟨O, c1.push (.bl false)⟩)
theorem fx_or (ha : FX X np a fa) (hb : FX X np (.BoolOp .Or (b :: rest) pos) fb) : FX X np (.BoolOp .Or (a :: b :: rest) pos) (fOrV fa fb) := by
  refine PE.weak (pe_or ha hb) fun σ H Q h => ?_
  obtain ⟨W, Γ, vs, ts, t, Γ', c, e, q⟩ := h
  obtain ⟨⟨k, Γ1⟩, e1, e⟩ := Option.bind_eq_some_iff.mp e
  refine asBool c e1 fun H1 c1 => ?_
  cases k with
  | false => exact iteF ⟨W, Γ1, vs, ts, t, Γ', c1, by simpa using e, q⟩
  | true =>
    have e' : (TV.md (.dat (.bool true)), Γ1) = (t, Γ') := by simpa using e
    cases e'
    obtain ⟨O, c1⟩ := c1
    exact iteT (q _ H1 ⟨O, c1.push (.bl true)⟩)
theorem fx_not (ha : FX X np a fa) : FX X np (.UnaryOp .Not a pos) (fNotV fa) := by
  refine PE.weak (pe_not ha) fun σ H Q h => ?_
  obtain ⟨W, Γ, vs, ts, t, Γ', c, e, q⟩ := h
  obtain ⟨⟨k, Γ1⟩, e1, e⟩ := Option.map_eq_some_iff.mp e
  cases e
  refine asBool c e1 fun H1 c1 => ?_
  obtain ⟨O, c1⟩ := c1
  exact q _ H1 ⟨O, c1.push (.bl _)⟩
end
end Fx

end

/-! Fx4: operators by kinds, arguments, displays, subscripts, slices, built-ins -/
noncomputable section
namespace Fx
open PySem PySem.Spec PyProof.Rows L2

section
variable {K : PySem.W.Frag} {O : Own} {H : Hp} {Q : VK}
theorem okv {d : PyData} {v : V} (dom : ∀ b t, O b = some t → H b ≠ none) (q : ∀ v H', ResOk K O H (.val d) v H' → Q v H') (h : Fz K O H d v) : Q v H := q v H ⟨Ev.refl dom, h⟩
theorem okt {ds : List PyData} {p : Addr} {ws : List V} (dom : ∀ b t, O b = some t → H b ≠ none) (q : ∀ v H', ResOk K O H (.val (.tuple ds)) v H' → Q v H') (hp : H p = none) (h : FzA K O H ds ws) : Q (.ref p) (upd H p (.tup ws)) :=
  q _ _ ⟨Ev.new dom hp, .tup (.inl upd_same) (own_none dom hp) (FzA.kp (Ev.new dom hp).k _ _ h)⟩
theorem okn {ds : List PyData} {p : Addr} {ws : List V} (q : ∀ v H', ResOk K O H (.new ds) v H' → Q v H') (hp : H p = none) (h : FzA K O H ds ws) : Q (.ref p) (upd H p (.lst ws)) := q _ _ ⟨p, ws, rfl, hp, rfl, h⟩

/-! ### arithmetic -/
def gInt2 (g : Int → Int → Int) : PyData → PyData → Option Res
  | .int i, .int j => some (.val (.int (g i j)))
  | _, _ => none
def gInt2C (C : Int → Int → Bool) (g : Int → Int → Int) : PyData → PyData → Option Res
  | .int i, .int j => if C i j = true then some (.val (.int (g i j))) else none
  | _, _ => none
def gRel (g : Int → Int → Bool) : PyData → PyData → Option Res
  | .int i, .int j => some (.val (.bool (g i j)))
  | _, _ => none
theorem snd_int2 {g : Int → Int → Int} : Snd2 K (rI0 fun i j => .int (g i j)) (gInt2 g) := by
  intro O H x y d e s Q dom hx hy hg q
  unfold gInt2 at hg
  split at hg
  · cases hg
    cases hx
    cases hy
    exact ⟨_, _, rfl, rfl, okv dom q (.int _)⟩
  · cases hg
theorem snd_rel {g : Int → Int → Bool} : Snd2 K (rI0 fun i j => .bl (g i j)) (gRel g) := by
  intro O H x y d e s Q dom hx hy hg q
  unfold gRel at hg
  split at hg
  · cases hg
    cases hx
    cases hy
    exact ⟨_, _, rfl, rfl, okv dom q (.bl _)⟩
  · cases hg
theorem snd_int2C {C : Int → Int → Bool} {C' : Int → Int → Prop} {g : Int → Int → Int} (hC : ∀ i j, C i j = true → C' i j) : Snd2 K (rI C' fun i j => .int (g i j)) (gInt2C C g) := by
  intro O H x y d e s Q dom hx hy hg q
  unfold gInt2C at hg
  split at hg
  · split at hg
    · rename_i h
      cases hg
      cases hx
      cases hy
      exact ⟨_, _, rfl, rfl, hC _ _ h, okv dom q (.int _)⟩
    · cases hg
  · cases hg
theorem Snd2.or {r r' : R2} {g g' h : PyData → PyData → Option Res} (a : Snd2 K r g) (b : Snd2 K r' g') (e : ∀ d e s, h d e = some s → g d e = some s ∨ g' d e = some s) : Snd2 K (fun x y H Q => r x y H Q ∨ r' x y H Q) h := by
  intro O H x y d d' s Q dom hx hy hg q
  rcases e d d' s hg with z | z
  · exact .inl (a O H x y d d' s Q dom hx hy z q)
  · exact .inr (b O H x y d d' s Q dom hx hy z q)

def gAddS : PyData → PyData → Option Res
  | .str x, .str y => if x.length + y.length ≤ sizeLine then some (.val (.str (x ++ y))) else none
  | _, _ => none
def gCat : PyData → PyData → Option Res
  | .list xs, .list ys => if xs.length + ys.length ≤ sizeLine then some (.new (xs ++ ys)) else none
  | _, _ => none
def gCatT : PyData → PyData → Option Res
  | .tuple xs, .tuple ys => if xs.length + ys.length ≤ sizeLine then some (.val (.tuple (xs ++ ys))) else none
  | _, _ => none
theorem snd_addS : Snd2 K (fun x y H Q => ∃ i j, x = .str i ∧ y = .str j ∧ i.length + j.length ≤ sizeLine ∧ Q (.str (i ++ j)) H) gAddS := by
  intro O H x y d e s Q dom hx hy hg q
  unfold gAddS at hg
  split at hg
  · split at hg
    · rename_i h
      cases hg
      cases hx
      cases hy
      exact ⟨_, _, rfl, rfl, h, okv dom q (.str _)⟩
    · cases hg
  · cases hg
theorem snd_cat : Snd2 K rCat gCat := by
  intro O H x y d e s Q dom hx hy hg q
  unfold gCat at hg
  split at hg
  · split at hg
    · rename_i h
      cases hg
      obtain ⟨a, xs, rfl, ha, fa⟩ := hx
      obtain ⟨b, ys, rfl, hb, fb⟩ := hy
      exact ⟨a, b, xs, ys, rfl, rfl, ha, hb, by rw [← fa.length, ← fb.length]; exact h, fun p hp => okn q hp (fa.append fb)⟩
    · cases hg
  · cases hg
theorem FzA.nil_iff {ds : List PyData} {vs : List V} (h : FzA K O H ds vs) : vs = [] → ds = [] := fun e => by
  subst e; cases h; rfl
theorem snd_catT : Snd2 K (rCatA K) gCatT := by
  intro O H x y d e s Q dom hx hy hg q
  unfold gCatT at hg
  split at hg
  · split at hg
    · rename_i h
      cases hg
      have hx' := hx
      have hy' := hy
      obtain ⟨a, xs, rfl, ha, fa⟩ := Fz.sqT hx
      obtain ⟨b, ys, rfl, hb, fb⟩ := Fz.sqT hy
      refine ⟨a, b, xs, ys, rfl, rfl, ha, hb, by rw [← fa.length, ← fb.length]; exact h, fun e => ?_, fun _ e => ?_, fun _ _ p hp => okt dom q hp (fa.append fb)⟩
      · rw [fa.nil_iff e, List.nil_append] at q
        exact okv dom q hy'
      · rw [fb.nil_iff e, List.append_nil] at q
        exact okv dom q hx'
    · cases hg
  · cases hg
def gAdd : PyData → PyData → Option Res
  | .int i, .int j => some (.val (.int (i + j)))
  | .tuple xs, .tuple ys => if xs.length + ys.length ≤ sizeLine then some (.val (.tuple (xs ++ ys))) else none
  | .list xs, .list ys => if xs.length + ys.length ≤ sizeLine then some (.new (xs ++ ys)) else none
  | .str x, .str y => if x.length + y.length ≤ sizeLine then some (.val (.str (x ++ y))) else none
  | _, _ => none
def rAddA (K : PySem.W.Frag) : R2 := fun x y H Q => rI0 (fun i j => .int (i + j)) x y H Q ∨ (rCatA K x y H Q ∨ (rCat x y H Q ∨ (∃ i j, x = .str i ∧ y = .str j ∧ i.length + j.length ≤ sizeLine ∧ Q (.str (i ++ j)) H)))
theorem snd_add : Snd2 K (rAddA K) gAdd := by
  intro O H x y d e s Q dom hx hy hg q
  unfold gAdd at hg
  split at hg
  · exact .inl (snd_int2 (g := fun i j => i + j) O H x y _ _ s Q dom hx hy hg q)
  · exact .inr (.inl (snd_catT O H x y _ _ s Q dom hx hy hg q))
  · exact .inr (.inr (.inl (snd_cat O H x y _ _ s Q dom hx hy hg q)))
  · exact .inr (.inr (.inr (snd_addS O H x y _ _ s Q dom hx hy hg q)))
  · cases hg
theorem op_addA {X : Cx} : OpR X (binaryOp .Add) (rAddA X.K) := OpR.or op_add (OpR.or op_catA (OpR.or op_cat op_add_str))
abbrev gSub := gInt2 fun i j => i - j
theorem dec1 {p : Prop} [Decidable p] (h : decide p = true) : p := of_decide_eq_true h
/-- products of any size that is still one of ours -/
def mulOk (i j : Int) : Bool := decide (i.natAbs.log2 + j.natAbs.log2 < 1000000)
theorem mulOk_to {i j : Int} (h : mulOk i j = true) : CMulW i j := by
  have h' := dec1 h
  exact h'
def gMul : PyData → PyData → Option Res
  | .int i, .int j => if mulOk i j = true then some (.val (.int (i * j))) else none
  | .list xs, .int k => @ite _ (k < 2 ^ 63 ∧ -(2 ^ 63) ≤ k ∧ xs.length * k.toNat ≤ sizeLine) (Classical.propDecidable _) (some (.new (List.replicate k.toNat xs).flatten)) none
  | .tuple xs, .int k => @ite _ (xs ≠ [] ∧ 2 ≤ k ∧ k ≤ 1000 ∧ xs.length ≤ 1000) (Classical.propDecidable _) (some (.val (.tuple (List.replicate k.toNat xs).flatten))) none
  | _, _ => none
def rMulA (K : PySem.W.Frag) : R2 := fun x y H Q => rI CMulW (fun i j => .int (i * j)) x y H Q ∨ (rRep x y H Q ∨ rRepT K x y H Q)
theorem op_mulA {X : Cx} : OpR X (binaryOp .Mult) (rMulA X.K) := OpR.or op_mulW (OpR.or op_rep op_repT)
theorem FzA.rep {K : PySem.W.Frag} {O : Own} {H : Hp} {ds : List PyData} {vs : List V} (h : FzA K O H ds vs) : ∀ n : Nat, FzA K O H (List.replicate n ds).flatten (List.replicate n vs).flatten
  | 0 => .nil
  | n + 1 => by
    rw [List.replicate_succ, List.replicate_succ, List.flatten_cons, List.flatten_cons]
    exact h.append (h.rep n)
theorem snd_mul : Snd2 K (rMulA K) gMul := by
  intro O H x y d e s Q dom hx hy hg q
  unfold gMul at hg
  split at hg
  · split at hg
    · rename_i h
      cases hg
      cases hx
      cases hy
      exact .inl ⟨_, _, rfl, rfl, mulOk_to h, okv dom q (.int _)⟩
    · cases hg
  · split at hg
    · rename_i h
      cases hg
      cases hy
      obtain ⟨a, xs, rfl, ha, fa⟩ := hx
      exact .inr (.inl ⟨a, _, xs, rfl, rfl, ha, h.2.1, h.1, by rw [← fa.length]; exact h.2.2, fun p hp => okn q hp (fa.rep _)⟩)
    · cases hg
  · split at hg
    · rename_i h
      cases hg
      cases hy
      obtain ⟨a, xs, rfl, ha, fa⟩ := Fz.sqT hx
      exact .inr (.inr ⟨a, _, xs, rfl, rfl, ha, fun e => h.1 (fa.nil_iff e), h.2.1, h.2.2.1, by rw [← fa.length]; exact h.2.2.2, fun p hp => okt dom q hp (fa.rep _)⟩)
    · cases hg
  · cases hg
/-- // and % -/
def divOk (_i j : Int) : Bool := decide (0 < j ∧ j.natAbs.log2 < 9000)
abbrev gDiv := gInt2C divOk fun i j => i / j
theorem snd_div : Snd2 K (rI CDivW fun i j => .int (i / j)) gDiv := snd_int2C fun _ _ h => by
  have h' := dec1 h
  exact h'
abbrev gMod := gInt2C (fun _ j => decide (0 < j)) fun i j => i % j
theorem snd_mod : Snd2 K (rI (fun _ j => 0 < j) fun i j => .int (i % j)) gMod := snd_int2C fun _ _ h => by
  have h' := dec1 h
  exact h'
def powOk (i j : Int) : Bool := decide (0 ≤ j ∧ j ≤ 1000000 ∧ i.natAbs < 2 ^ 64)
abbrev gPow := gInt2C powOk fun i j => i ^ j.toNat
theorem snd_pow : Snd2 K (rI CPow fun i j => .int (i ^ j.toNat)) gPow := snd_int2C fun _ _ h => by
  have h' := dec1 h
  exact h'
abbrev gShl := gInt2C powOk fun i j => i * 2 ^ j.toNat
theorem snd_shl : Snd2 K (rI CPow fun i j => .int (i * 2 ^ j.toNat)) gShl := snd_int2C fun _ _ h => by
  have h' := dec1 h
  exact h'
abbrev gShr := gInt2C (fun _ j => decide (0 ≤ j)) fun i j => i / 2 ^ j.toNat
theorem snd_shr : Snd2 K (rI (fun _ j => 0 ≤ j) fun i j => .int (i / 2 ^ j.toNat)) gShr := snd_int2C fun _ _ h => by
  have h' := dec1 h
  exact h'
abbrev gAndB := gInt2 Builtin.bitAnd
abbrev gOrB := gInt2 Builtin.bitOr
abbrev gXorB := gInt2 Builtin.bitXor
abbrev gLt := gRel fun i j => decide (i < j)
abbrev gLe := gRel fun i j => decide (i ≤ j)
abbrev gGt := gRel fun i j => decide (j < i)
abbrev gGe := gRel fun i j => decide (j ≤ i)

/-! ### == and != of data -/
mutual
theorem Fz.dp : ∀ (d : PyData) (v : V), Fz K O H d v → SeqAt.shaped d = true ∨ d.canLay0 = true → Dp K H v d
  | .none, _, h, _ => by cases h; exact .non
  | .bool _, _, h, _ => by cases h; exact .bl _
  | .int _, _, h, _ => by cases h; exact .int _
  | .str _, _, h, _ => by cases h; exact .str _
  | .list ds, _, h, e => by
    have e' : PyData.canLayAll0 ds = true := by
      rcases e with e | e
      · have := SeqAt.canLay_of_shaped e
        simpa only [PyData.canLay0] using this
      · simpa only [PyData.canLay0] using e
    cases h with
    | lst hr n ha => exact .lst (.of hr) (FzA.dp ds _ ha e')
  | .tuple ds, _, h, e => by
    have e' : PyData.canLayAll0 ds = true := by
      rcases e with e | e
      · have := SeqAt.canLay_of_shaped e
        simpa only [PyData.canLay0] using this
      · simpa only [PyData.canLay0] using e
    obtain ⟨a, xs, rfl, hs, ha⟩ := h.sqT
    exact .tup hs (FzA.dp ds _ ha e')
  | .dict ds, _, h, e => by
    rcases e with e | e
    · have := SeqAt.canLay_of_shaped e
      simp [PyData.canLay0] at this
    · simp [PyData.canLay0] at e
theorem FzA.dp : ∀ (ds : List PyData) (vs : List V), FzA K O H ds vs → PyData.canLayAll0 ds = true → DpAll K H vs ds
  | [], _, h, _ => by cases h; exact .nil
  | d :: ds, _, h, e => by
    cases h with
    | cons h1 h2 =>
      have e' : d.canLay0 = true ∧ PyData.canLayAll0 ds = true := by simpa only [PyData.canLayAll0, Bool.and_eq_true] using e
      exact .cons (Fz.dp d _ h1 (.inr e'.1)) (FzA.dp ds _ h2 e'.2)
end
theorem Vw.dp {d : PyData} {v : V} (h : Vw K O H d v) (e : SeqAt.shaped d = true) : Dp K H v d := by
  cases d with
  | list ds =>
    obtain ⟨a, xs, rfl, hs, ha⟩ := h
    exact .lst (.of hs) (FzA.dp ds _ ha (by simpa only [PyData.canLay0] using SeqAt.canLay_of_shaped e))
  | _ => exact Fz.dp _ _ h (.inl e)
def shp (d : PyData) : Bool := match d with
  | .int _ => true
  | .none => true
  | .bool _ => true
  | d => SeqAt.shaped d
theorem shp_ok {d : PyData} (h : shp d = true) : SeqAt.shaped d = true := by
  cases d <;> first | exact h | rfl
def gEq (neg : Bool) (d e : PyData) : Option Res := if shp d = true ∧ shp e = true then some (.val (.bool (if neg then !PyData.eqv d e else PyData.eqv d e))) else none
theorem snd_eq : Snd2 K (rEqD K) (gEq false) := by
  intro O H x y d e s Q dom hx hy hg q
  unfold gEq at hg
  split at hg
  · rename_i h
    cases hg
    exact ⟨d, e, hx.dp (shp_ok h.1), hy.dp (shp_ok h.2), shp_ok h.1, shp_ok h.2, okv dom q (.bl _)⟩
  · cases hg
theorem snd_ne : Snd2 K (rNeD K) (gEq true) := by
  intro O H x y d e s Q dom hx hy hg q
  unfold gEq at hg
  split at hg
  · rename_i h
    cases hg
    exact ⟨d, e, hx.dp (shp_ok h.1), hy.dp (shp_ok h.2), shp_ok h.1, shp_ok h.2, okv dom q (.bl _)⟩
  · cases hg

/-! ### is -/
def isNon : PyData → Bool
  | .none => true
  | _ => false
def gIs : PyData → PyData → Option Res
  | d, .none => some (.val (.bool (isNon d)))
  | .bool a, .bool b => some (.val (.bool (decide (a = b))))
  | _, _ => none
theorem non_iff {d : PyData} {v : V} (h : Vw K O H d v) : decide (v = V.non) = isNon d := by
  cases d with
  | list ds =>
    obtain ⟨a, xs, rfl, _, _⟩ := h
    rfl
  | _ => cases h <;> rfl
def rIsA : R2 := fun x y H Q => (y = .non ∧ Q (.bl (decide (x = .non))) H) ∨ (∃ a b, x = V.bl a ∧ y = V.bl b ∧ Q (.bl (decide (a = b))) H)
def rIsNotA : R2 := fun x y H Q => (y = .non ∧ Q (.bl (!decide (x = .non))) H)
theorem snd_is : Snd2 K rIsA gIs := by
  intro O H x y d e s Q dom hx hy hg q
  unfold gIs at hg
  split at hg
  · cases hg
    cases hy
    refine .inl ⟨rfl, ?_⟩
    rw [non_iff hx]
    exact okv dom q (.bl _)
  · cases hg
    cases hx
    cases hy
    exact .inr ⟨_, _, rfl, rfl, okv dom q (.bl _)⟩
  · cases hg
def gIsNot : PyData → PyData → Option Res
  | d, .none => some (.val (.bool (!isNon d)))
  | _, _ => none
theorem snd_isnot : Snd2 K rIsNotA gIsNot := by
  intro O H x y d e s Q dom hx hy hg q
  unfold gIsNot at hg
  split at hg
  · cases hg
    cases hy
    refine ⟨rfl, ?_⟩
    rw [non_iff hx]
    exact okv dom q (.bl _)
  · cases hg
theorem op_isA {X : Cx} : OpR X (compareOp .Is) rIsA := OpR.or op_isN op_is_bl

/-! ### in -/
def eqF : PyData → PyData → Bool
  | .none, .none => true
  | .bool a, .bool b => a == b
  | .bool a, .int b => (if a then 1 else 0) == b
  | .int a, .bool b => a == (if b then 1 else 0)
  | .int a, .int b => a == b
  | .str a, .str b => a == b
  | _, _ => false
def flatD : PyData → Bool
  | .none => true
  | .bool _ => true
  | .int _ => true
  | .str _ => true
  | _ => false
def gIn (neg : Bool) (d : PyData) : PyData → Option Res
  | .list xs => if flatD d = true ∧ xs.all flatD = true then some (.val (.bool (if neg then !(xs.any fun y => eqF y d) else xs.any fun y => eqF y d))) else none
  | .tuple xs => if flatD d = true ∧ xs.all flatD = true then some (.val (.bool (if neg then !(xs.any fun y => eqF y d) else xs.any fun y => eqF y d))) else none
  | _ => none
theorem Fz.flat {d : PyData} {v : V} (h : Fz K O H d v) (e : flatD d = true) : flatV v = true := by
  cases h <;> first | rfl | cases e
theorem Vw.flat {d : PyData} {v : V} (h : Vw K O H d v) (e : flatD d = true) : flatV v = true := by
  cases d with
  | list ds => cases e
  | _ => exact Fz.flat h e
theorem FzA.flat : ∀ {ds : List PyData} {vs : List V}, FzA K O H ds vs → ds.all flatD = true → vs.all flatV = true
  | [], _, h, _ => by cases h; rfl
  | d :: ds, _, h, e => by
    cases h with
    | cons h1 h2 =>
      rw [List.all_cons, Bool.and_eq_true] at e ⊢
      exact ⟨h1.flat e.1, FzA.flat h2 e.2⟩
theorem eqF_V {d e : PyData} {v u : V} (h : Fz K O H d v) (g : Fz K O H e u) (fd : flatD d = true) (fe : flatD e = true) : eqV v u = eqF d e := by
  cases h <;> first | (cases fd; done) | (cases g <;> first | (cases fe; done) | rfl)
theorem anyF_V {e : PyData} {u : V} (g : Fz K O H e u) (fe : flatD e = true) : ∀ {ds : List PyData} {vs : List V}, FzA K O H ds vs → ds.all flatD = true → inV u vs = ds.any fun y => eqF y e
  | [], _, h, _ => by cases h; rfl
  | d :: ds, _, h, e' => by
    cases h with
    | cons h1 h2 =>
      rw [List.all_cons, Bool.and_eq_true] at e'
      show (eqV _ u || inV u _) = _
      rw [List.any_cons, eqF_V h1 g e'.1 fe, anyF_V g fe h2 e'.2]
theorem Vw.fzFlat {d : PyData} {v : V} (h : Vw K O H d v) (e : flatD d = true) : Fz K O H d v := by
  cases d with
  | list ds => cases e
  | _ => exact h
theorem snd_in {neg : Bool} : Snd2 K (rIn K neg) (gIn neg) := by
  intro O H x y d e s Q dom hx hy hg q
  unfold gIn at hg
  split at hg
  · split at hg
    · rename_i h
      cases hg
      obtain ⟨a, xs, rfl, ha, fa⟩ := hy
      refine ⟨a, xs, rfl, .inl (.of ha), hx.flat h.1, fa.flat h.2, ?_⟩
      rw [anyF_V (hx.fzFlat h.1) h.1 fa h.2]
      have := okv dom q (.bl _)
      cases neg <;> exact this
    · cases hg
  · split at hg
    · rename_i h
      cases hg
      obtain ⟨a, xs, rfl, ha, fa⟩ := Fz.sqT hy
      refine ⟨a, xs, rfl, .inr ha, hx.flat h.1, fa.flat h.2, ?_⟩
      rw [anyF_V (hx.fzFlat h.1) h.1 fa h.2]
      have := okv dom q (.bl _)
      cases neg <;> exact this
    · cases hg
  · cases hg

/-! ### subscripts -/
def gIx : PyData → PyData → Option Res
  | .list xs, .int i => (atI xs i).map .val
  | .tuple xs, .int i => (atI xs i).map .val
  | .str z, .int i => if z.length ≤ sizeLine then (atI z.cps.toList i).map fun c => .val (.str ⟨#[c]⟩) else none
  | _, _ => none
def rIxA (K : PySem.W.Frag) : R2 := fun x y H Q => rIxL K x y H Q ∨ (rIxT K x y H Q ∨ rIxS x y H Q)
theorem FzA.at {ds : List PyData} {vs : List V} {i : Int} {d : PyData} (h : FzA K O H ds vs) (e : atI ds i = some d) : ∃ v, atI vs i = some v ∧ Fz K O H d v := by
  unfold atI at e ⊢
  rw [← h.length]
  obtain ⟨j, e1, e2⟩ := Option.bind_eq_some_iff.mp e
  obtain ⟨v, e3, r⟩ := h.get e2
  exact ⟨v, by rw [e1]; exact e3, r⟩
theorem snd_ix : Snd2 K (rIxA K) gIx := by
  intro O H x y d e s Q dom hx hy hg q
  unfold gIx at hg
  split at hg
  · obtain ⟨d, e1, e2⟩ := Option.map_eq_some_iff.mp hg
    cases e2
    cases hy
    obtain ⟨a, xs, rfl, ha, fa⟩ := hx
    obtain ⟨v, e3, r⟩ := fa.at e1
    exact .inl ⟨a, xs, _, v, rfl, rfl, .of ha, e3, okv dom q r⟩
  · obtain ⟨d, e1, e2⟩ := Option.map_eq_some_iff.mp hg
    cases e2
    cases hy
    obtain ⟨a, xs, rfl, ha, fa⟩ := Fz.sqT hx
    obtain ⟨v, e3, r⟩ := fa.at e1
    exact .inr (.inl ⟨a, xs, _, v, rfl, rfl, ha, e3, okv dom q r⟩)
  · split at hg
    · rename_i h
      obtain ⟨c, e1, e2⟩ := Option.map_eq_some_iff.mp hg
      cases e2
      cases hy
      cases hx
      exact .inr (.inr ⟨_, _, c, rfl, rfl, h, e1, okv dom q (.str _)⟩)
    · cases hg
  · cases hg
end
section
variable {X : Cx} {np : Nat} {e a b : Expr} {pos : Pos} {f fa fb : FE}
theorem ix_any : IxR X (rIxA X.K) := IxR.or ix_list (IxR.or ix_tup ix_str)
theorem fx_ix (ha : FX X np a fa) (hb : FX X np b fb) (hs : PlainIx b := by intro _ _; rfl) : FX X np (.Subscript a b pos) (fOp2 gIx false fa fb) :=
  PE.weak (pe_ix ix_any ha hb hs) fun _ _ _ h => two snd_ix h
end
end Fx

end

/-! Fx5: argument lists, displays, slices, built-ins -/
noncomputable section
namespace Fx
open PySem PySem.Spec PyProof.Rows L2

section
variable {K : PySem.W.Frag} {np : Nat} {W : Wd} {O O' : Own} {σ σ' : L2.St} {H H' : Hp} {Γ Γ' : Gm}
theorem Tm.args : ∀ {xs : List V} {us : List TV} {vs : List V} {ts : List TV}, xs.length = us.length → Tm K O H σ Γ (xs.reverse ++ vs) (us.reverse ++ ts) → Paired (fun x u => ∃ g, TR K O H σ Γ g u x) xs us ∧ Tm K O H σ Γ vs ts
  | [], [], _, _, _, h => ⟨.nil, h⟩
  | x :: xs, u :: us, vs, ts, e, h => by
    rw [List.reverse_cons, List.reverse_cons, List.append_assoc, List.append_assoc] at h
    obtain ⟨h1, h2⟩ := Tm.args (xs := xs) (us := us) (by simpa using e) h
    exact ⟨.cons ⟨_, h2.1⟩ h1, h2.2⟩
  | [], _ :: _, _, _, e, _ => by simp at e
  | _ :: _, [], _, _, e, _ => by simp at e
theorem Cf.args {xs : List V} {us : List TV} {vs : List V} {ts : List TV} (c : Cf K np W O σ H Γ (xs.reverse ++ vs) (us.reverse ++ ts)) (e : xs.length = us.length) : Paired (fun x u => ∃ g, TR K O H σ Γ g u x) xs us ∧ Cf K np W O σ H Γ vs ts :=
  ⟨(Tm.args e c.tm).1, c.dom, c.sl, (Tm.args e c.tm).2, c.keep, c.out, c.wt, c.arg, c.len⟩
def dvs (Γ : Gm) : List TV → Option (List PyData)
  | [] => some []
  | t :: ts => (dv Γ t).bind fun d => (dvs Γ ts).map fun ds => d :: ds
abbrev VwA (K : PySem.W.Frag) (O : Own) (H : Hp) : List PyData → List V → Prop := Paired fun d x => Vw K O H d x
theorem Cf.views {vs : List V} {ts : List TV} (c : Cf K np W O σ H Γ vs ts) : ∀ {xs : List V} {us : List TV} {ds : List PyData}, Paired (fun x u => ∃ g, TR K O H σ Γ g u x) xs us → dvs Γ us = some ds → VwA K O H ds xs
  | _, _, ds, .nil, e => by cases e; exact .nil
  | _, _, ds, .cons r t, e => by
    obtain ⟨d, e1, e⟩ := Option.bind_eq_some_iff.mp e
    obtain ⟨ds', e2, e⟩ := Option.map_eq_some_iff.mp e
    cases e
    obtain ⟨g, r⟩ := r
    exact .cons (c.view r e1) (Cf.views c t e2)
/-- frozen ones -/
def frz : TV → Option PyData
  | .md (.dat d) => some d
  | _ => none
def frzs : List TV → Option (List PyData)
  | [] => some []
  | t :: ts => (frz t).bind fun d => (frzs ts).map fun ds => d :: ds
theorem frz_to {t : TV} {d : PyData} (e : frz t = some d) : t = .md (.dat d) := by
  unfold frz at e
  split at e
  · cases e; rfl
  · cases e
theorem frzs_to : ∀ {ts : List TV} {ds : List PyData}, frzs ts = some ds → ts = ds.map fun d => .md (.dat d)
  | [], ds, e => by cases e; rfl
  | t :: ts, ds, e => by
    obtain ⟨d, e1, e⟩ := Option.bind_eq_some_iff.mp e
    obtain ⟨ds', e2, e⟩ := Option.map_eq_some_iff.mp e
    cases e
    rw [frz_to e1, frzs_to e2]
    rfl
theorem frzA : ∀ {xs : List V} {us : List TV} {ds : List PyData}, Paired (fun x u => ∃ g, TR K O H σ Γ g u x) xs us → frzs us = some ds → FzA K O H ds xs
  | _, _, ds, .nil, e => by cases e; exact .nil
  | _, _, ds, .cons r t, e => by
    obtain ⟨d, e1, e⟩ := Option.bind_eq_some_iff.mp e
    obtain ⟨ds', e2, e⟩ := Option.map_eq_some_iff.mp e
    cases e
    obtain ⟨g, r⟩ := r
    rw [frz_to e1] at r
    exact .cons r (frzA t e2)
end
section
variable {X : Cx} {np : Nat} {e a b : Expr} {es : List Expr} {pos : Pos} {f fa fb : FE} {fs : FA}
def fANil : FA := fun Γ => some ([], Γ)
def fACons (fa : FE) (fs : FA) : FA := fun Γ => (fa Γ).bind fun p => (fs p.2).map fun q => (p.1 :: q.1, q.2)
theorem fa_nil : FAX X np [] fANil := by
  refine PA.weak pa_nil fun σ H Q h => ?_
  obtain ⟨W, Γ, vs, ts, us, Γ', c, e, q⟩ := h
  cases e
  exact q [] H c rfl
theorem fa_cons (ha : FX X np e fa) (hr : FAX X np es fs) (hs : starEach (e :: es) X.env = (false, eval e X.env) :: starEach es X.env := by rfl) : FAX X np (e :: es) (fACons fa fs) := by
  refine PA.weak (pa_cons ha hr hs) fun σ H Q h => ?_
  obtain ⟨W, Γ, vs, ts, us, Γ', c, e, q⟩ := h
  obtain ⟨⟨t1, Γ1⟩, e1, e⟩ := Option.bind_eq_some_iff.mp e
  obtain ⟨⟨us', Γ2⟩, e2, e⟩ := Option.map_eq_some_iff.mp e
  cases e
  refine ⟨W, Γ, vs, ts, t1, Γ1, c, e1, fun x H1 c1 => ⟨W, Γ1, x :: vs, t1 :: ts, us', Γ2, c1, e2, fun xs H2 c2 hl => q (x :: xs) H2 ?_ (by simp [hl])⟩⟩
  rw [List.reverse_cons, List.reverse_cons, List.append_assoc, List.append_assoc]
  exact c2

/-- (a, b, ..) and [a, b, ..] of plain data -/
def fTup (fs : FA) : FE := fun Γ => (fs Γ).bind fun p => (frzs p.1).bind fun ds => if ds.length ≤ sizeLine then some (.md (.dat (.tuple ds)), p.2) else none
def fLst (ow : Bool) (fs : FA) : FE := fun Γ => (fs Γ).bind fun p => (frzs p.1).bind fun ds => if ds.length ≤ sizeLine then some ((Res.new ds).fin ow, p.2) else none
theorem fx_tup {k : Nat} (h : FAX X np es fs) : FX X np (.Tuple es k pos) (fTup fs) := by
  refine PE.weak (pe_tup h) fun σ H Q h => ?_
  obtain ⟨W, Γ, vs, ts, t, Γ', c, e, q⟩ := h
  obtain ⟨⟨us, Γ1⟩, e1, e⟩ := Option.bind_eq_some_iff.mp e
  obtain ⟨ds, e2, e⟩ := Option.bind_eq_some_iff.mp e
  by_cases hl : ds.length ≤ sizeLine
  · rw [if_pos hl] at e
    cases e
    refine ⟨W, Γ, vs, ts, us, Γ1, c, e1, fun xs H1 c1 el => ?_⟩
    obtain ⟨O, c1⟩ := c1
    obtain ⟨pr, c2⟩ := c1.args el
    have fa := frzA pr e2
    refine ⟨by rw [← fa.length]; exact hl, fun p hp => ?_⟩
    exact okt c2.dom (fun v H' ok => q v H' (c2.res (ow := false) ok)) hp fa
  · rw [if_neg hl] at e
    cases e
theorem fx_lst {ow : Bool} (h : FAX X np es fs) : FX X np (.List es pos) (fLst ow fs) := by
  refine PE.weak (pe_lst h) fun σ H Q h => ?_
  obtain ⟨W, Γ, vs, ts, t, Γ', c, e, q⟩ := h
  obtain ⟨⟨us, Γ1⟩, e1, e⟩ := Option.bind_eq_some_iff.mp e
  obtain ⟨ds, e2, e⟩ := Option.bind_eq_some_iff.mp e
  by_cases hl : ds.length ≤ sizeLine
  · rw [if_pos hl] at e
    cases e
    refine ⟨W, Γ, vs, ts, us, Γ1, c, e1, fun xs H1 c1 el => ?_⟩
    obtain ⟨O, c1⟩ := c1
    obtain ⟨pr, c2⟩ := c1.args el
    have fa := frzA pr e2
    refine ⟨by rw [← fa.length]; exact hl, fun p hp => ?_⟩
    exact okn (fun v H' ok => q v H' (c2.res ok)) hp fa
  · rw [if_neg hl] at e
    cases e

/-! ### built-ins by values -/
def SndN (K : PySem.W.Frag) (r : List V → Hp → VK → Prop) (g : List PyData → Option Res) : Prop :=
  ∀ (O : Own) (H : Hp) (xs : List V) (ds : List PyData) (s : Res) (Q : VK), (∀ b t, O b = some t → H b ≠ none) → VwA K O H ds xs → g ds = some s → (∀ v H', ResOk K O H s v H' → Q v H') → r xs H Q
def fB (g : List PyData → Option Res) (ow : Bool) (fs : FA) : FE := fun Γ => (fs Γ).bind fun p => (dvs p.2 p.1).bind fun ds => (g ds).map fun r => (r.fin ow, p.2)
theorem byVals {r : List V → Hp → VK → Prop} {g : List PyData → Option Res} {ow : Bool} (hg : SndN X.K r g) {σ : L2.St} {H : Hp} {Q : VK} (h : up X.K np (fB g ow fs) σ H Q) : tCB r (upA X.K np fs) σ H Q := by
  obtain ⟨W, Γ, vs, ts, t, Γ', c, e, q⟩ := h
  obtain ⟨⟨us, Γ1⟩, e1, e⟩ := Option.bind_eq_some_iff.mp e
  obtain ⟨ds, e2, e⟩ := Option.bind_eq_some_iff.mp e
  obtain ⟨s, e3, e⟩ := Option.map_eq_some_iff.mp e
  cases e
  refine ⟨W, Γ, vs, ts, us, Γ1, c, e1, fun xs H1 c1 el => ?_⟩
  obtain ⟨O, c1⟩ := c1
  obtain ⟨pr, c2⟩ := c1.args el
  exact hg O H1 xs ds s Q c2.dom (c2.views pr e2) e3 fun v H' ok => q v H' (c2.res ok)
theorem fx_B {id : String} {x : Str} {p : Pos} {r : List V → Hp → VK → Prop} {g : List PyData → Option Res} {ow : Bool} (hc : CallR X (.builtin id) r) (hg : SndN X.K r g) (hm : X.mg x = none) (ha : FAX X np (e :: es) fs) (hv : bootBuiltins x = some (.builtin id) := by decide +kernel)
    (hgl : Gl X x := by rfl) (hn : x ≠ "__name__" := by decide) (hdb : (x == ("__debug__" : Str)) = false := by decide)
    (he : starEach (e :: es) X.env = (false, eval e X.env) :: starEach es X.env := by rfl) (hpl : (backTo pos (starEach es X.env)).any (·.1) = false := by rfl) : FX X np (.Call (.Name x p) (e :: es) [] pos) (fB g ow fs) :=
  PE.weak (pe_callB hc hgl hm hv ha hn hdb he hpl) fun _ _ _ h => byVals hg h
theorem fx_Ty {T : String} {x : Str} {p : Pos} {r : List V → Hp → VK → Prop} {g : List PyData → Option Res} {ow : Bool} (hc : CallR X (.type T) r) (hg : SndN X.K r g) (hm : X.mg x = none) (ha : FAX X np (e :: es) fs) (hv : bootBuiltins x = some (.type T) := by decide +kernel)
    (hgl : Gl X x := by rfl) (hn : x ≠ "__name__" := by decide) (hdb : (x == ("__debug__" : Str)) = false := by decide)
    (he : starEach (e :: es) X.env = (false, eval e X.env) :: starEach es X.env := by rfl) (hpl : (backTo pos (starEach es X.env)).any (·.1) = false := by rfl) : FX X np (.Call (.Name x p) (e :: es) [] pos) (fB g ow fs) :=
  PE.weak (pe_callTy hc hgl hm hv ha hn hdb he hpl) fun _ _ _ h => byVals hg h
/-- gcd, imported by the module -/
theorem fx_Bfun {id : String} {x : Str} {p : Pos} {r : List V → Hp → VK → Prop} {g : List PyData → Option Res} {ow : Bool} (hc : CallR X (.builtin id) r) (hg : SndN X.K r g) (hm : X.mg x = some (.builtin id)) (ha : FAX X np (e :: es) fs)
    (hgl : Gl X x := by rfl) (hdb : (x == ("__debug__" : Str)) = false := by decide)
    (he : starEach (e :: es) X.env = (false, eval e X.env) :: starEach es X.env := by rfl) (hpl : (backTo pos (starEach es X.env)).any (·.1) = false := by rfl) : FX X np (.Call (.Name x p) (e :: es) [] pos) (fB g ow fs) :=
  PE.weak (pe_callBfun hc hgl hm ha hdb he hpl) fun _ _ _ h => byVals hg h
end

section
variable {K : PySem.W.Frag} {O : Own} {H : Hp}
theorem VwA.one {d : PyData} {xs : List V} (h : VwA K O H [d] xs) : ∃ x, xs = [x] ∧ Vw K O H d x := by
  cases h with
  | cons r t => cases t; exact ⟨_, rfl, r⟩
theorem VwA.two {d e : PyData} {xs : List V} (h : VwA K O H [d, e] xs) : ∃ x y, xs = [x, y] ∧ Vw K O H d x ∧ Vw K O H e y := by
  cases h with
  | cons r t =>
    cases t with
    | cons r' t => cases t; exact ⟨_, _, rfl, r, r'⟩
def gLen : List PyData → Option Res
  | [.list xs] => some (.val (.int xs.length))
  | [.tuple xs] => some (.val (.int xs.length))
  | [.str x] => if x.length ≤ sizeLine then some (.val (.int x.length)) else none
  | _ => none
theorem snd_len : SndN K (fun xs H Q => ∃ x n, xs = [x] ∧ LenV K x H n ∧ Q (.int n) H) gLen := by
  intro O H xs ds s Q dom hx hg q
  unfold gLen at hg
  split at hg
  · cases hg
    obtain ⟨x, rfl, h⟩ := hx.one
    obtain ⟨a, ys, rfl, ha, fa⟩ := h
    exact ⟨_, ys.length, rfl, .inl ⟨ys, .of ha, rfl⟩, by rw [← fa.length]; exact okv dom q (.int _)⟩
  · cases hg
    obtain ⟨x, rfl, h⟩ := hx.one
    obtain ⟨a, ys, rfl, ha, fa⟩ := Fz.sqT h
    exact ⟨_, ys.length, rfl, .inr ⟨ys, ha, rfl⟩, by rw [← fa.length]; exact okv dom q (.int _)⟩
  · split at hg
    · rename_i h
      cases hg
      obtain ⟨x, rfl, h'⟩ := hx.one
      cases h'
      exact ⟨_, _, rfl, ⟨h, rfl⟩, okv dom q (.int _)⟩
    · cases hg
  · cases hg
def intsOf : List PyData → Option (List Int)
  | [] => some []
  | .int i :: r => (intsOf r).map fun l => i :: l
  | _ :: _ => none
theorem intsOf_to : ∀ {ds : List PyData} {ns : List Int}, intsOf ds = some ns → ds = ns.map .int
  | [], ns, e => by cases e; rfl
  | .int i :: r, ns, e => by
    obtain ⟨l, e1, e2⟩ := Option.map_eq_some_iff.mp e
    cases e2
    rw [intsOf_to e1]
    rfl
  | .none :: _, _, e => by cases e
  | .bool _ :: _, _, e => by cases e
  | .str _ :: _, _, e => by cases e
  | .list _ :: _, _, e => by cases e
  | .tuple _ :: _, _, e => by cases e
  | .dict _ :: _, _, e => by cases e
theorem intsOf_map (ns : List Int) : intsOf (ns.map .int) = some ns := by
  induction ns with
  | nil => rfl
  | cons n ns ih => simp [intsOf, ih]
theorem FzA.intsV : ∀ {ns : List Int} {vs : List V}, FzA K O H (ns.map .int) vs → vs = ns.map .int
  | [], _, h => by cases h; rfl
  | n :: ns, _, h => by
    cases h with
    | cons h1 h2 =>
      cases h1
      rw [FzA.intsV h2]
      rfl
def boolsOf : List PyData → Option (List Bool)
  | [] => some []
  | .bool i :: r => (boolsOf r).map fun l => i :: l
  | _ :: _ => none
theorem boolsOf_to : ∀ {ds : List PyData} {ns : List Bool}, boolsOf ds = some ns → ds = ns.map .bool
  | [], ns, e => by cases e; rfl
  | .bool i :: r, ns, e => by
    obtain ⟨l, e1, e2⟩ := Option.map_eq_some_iff.mp e
    cases e2
    rw [boolsOf_to e1]
    rfl
  | .none :: _, _, e => by cases e
  | .int _ :: _, _, e => by cases e
  | .str _ :: _, _, e => by cases e
  | .list _ :: _, _, e => by cases e
  | .tuple _ :: _, _, e => by cases e
  | .dict _ :: _, _, e => by cases e
theorem boolsOf_map (ns : List Bool) : boolsOf (ns.map .bool) = some ns := by
  induction ns with
  | nil => rfl
  | cons n ns ih => simp [boolsOf, ih]
theorem FzA.boolsV : ∀ {ns : List Bool} {vs : List V}, FzA K O H (ns.map .bool) vs → vs = ns.map .bl
  | [], _, h => by cases h; rfl
  | n :: ns, _, h => by
    cases h with
    | cons h1 h2 =>
      cases h1
      rw [FzA.boolsV h2]
      rfl
def gSum : List PyData → Option Res
  | [.list ds] => (intsOf ds).map fun ns => .val (.int ns.sum)
  | _ => none
theorem snd_sum : SndN K (rSum K) gSum := by
  intro O H xs ds s Q dom hx hg q
  unfold gSum at hg
  split at hg
  · obtain ⟨ns, e1, e2⟩ := Option.map_eq_some_iff.mp hg
    cases e2
    obtain ⟨x, rfl, a, ys, rfl, ha, fa⟩ := hx.one
    rw [intsOf_to e1] at fa
    rw [fa.intsV] at ha
    exact ⟨a, ns, rfl, .of ha, okv dom q (.int _)⟩
  · cases hg
def gAll : List PyData → Option Res
  | [.list ds] => (boolsOf ds).map fun bs => .val (.bool (bs.all id))
  | _ => none
theorem snd_all : SndN K (rAll K) gAll := by
  intro O H xs ds s Q dom hx hg q
  unfold gAll at hg
  split at hg
  · obtain ⟨ns, e1, e2⟩ := Option.map_eq_some_iff.mp hg
    cases e2
    obtain ⟨x, rfl, a, ys, rfl, ha, fa⟩ := hx.one
    rw [boolsOf_to e1] at fa
    rw [fa.boolsV] at ha
    exact ⟨a, ns, rfl, .of ha, okv dom q (.bl _)⟩
  · cases hg
def gAny : List PyData → Option Res
  | [.list ds] => (boolsOf ds).map fun bs => .val (.bool (bs.any id))
  | _ => none
theorem snd_any : SndN K (rAny K) gAny := by
  intro O H xs ds s Q dom hx hg q
  unfold gAny at hg
  split at hg
  · obtain ⟨ns, e1, e2⟩ := Option.map_eq_some_iff.mp hg
    cases e2
    obtain ⟨x, rfl, a, ys, rfl, ha, fa⟩ := hx.one
    rw [boolsOf_to e1] at fa
    rw [fa.boolsV] at ha
    exact ⟨a, ns, rfl, .of ha, okv dom q (.bl _)⟩
  · cases hg
def gInt : List PyData → Option Res
  | [.int i] => some (.val (.int i))
  | [.bool b] => some (.val (.int (if b then 1 else 0)))
  | _ => none
theorem snd_toInt : SndN K (fun xs H Q => (∃ i, xs = [.int i] ∧ Q (.int i) H) ∨ ∃ k, xs = [.bl k] ∧ Q (.int (if k then 1 else 0)) H) gInt := by
  intro O H xs ds s Q dom hx hg q
  unfold gInt at hg
  split at hg
  · cases hg
    obtain ⟨x, rfl, h⟩ := hx.one
    cases h
    exact .inl ⟨_, rfl, okv dom q (.int _)⟩
  · cases hg
    obtain ⟨x, rfl, h⟩ := hx.one
    cases h
    exact .inr ⟨_, rfl, okv dom q (.int _)⟩
  · cases hg
def gAbs : List PyData → Option Res
  | [.int i] => some (.val (.int (if i < 0 then -i else i)))
  | _ => none
theorem snd_abs : SndN K (fun xs H Q => ∃ i, xs = [.int i] ∧ Q (.int (if i < 0 then -i else i)) H) gAbs := by
  intro O H xs ds s Q dom hx hg q
  unfold gAbs at hg
  split at hg
  · cases hg
    obtain ⟨x, rfl, h⟩ := hx.one
    cases h
    exact ⟨_, rfl, okv dom q (.int _)⟩
  · cases hg
def gGcd : List PyData → Option Res
  | [.int i, .int j] => some (.val (.int ((Nat.gcd i.natAbs j.natAbs : Nat) : Int)))
  | _ => none
theorem snd_gcd : SndN K rGcd gGcd := by
  intro O H xs ds s Q dom hx hg q
  unfold gGcd at hg
  split at hg
  · cases hg
    obtain ⟨x, y, rfl, h, h'⟩ := hx.two
    cases h
    cases h'
    exact ⟨_, _, rfl, okv dom q (.int _)⟩
  · cases hg
/-- max and min of two ints, or of a list of them -/
def maxL : List Int → Int
  | [] => 0
  | [a] => a
  | a :: r => let m := maxL r; if a < m then m else a
def minL : List Int → Int
  | [] => 0
  | [a] => a
  | a :: r => let m := minL r; if m < a then m else a
theorem maxL_ok : ∀ {l : List Int}, l ≠ [] → maxL l ∈ l ∧ ∀ y ∈ l, y ≤ maxL l
  | [], h => absurd rfl h
  | [a], _ => by simp [maxL]
  | a :: b :: r, _ => by
    obtain ⟨h1, h2⟩ := maxL_ok (l := b :: r) (by simp)
    show (if a < maxL (b :: r) then maxL (b :: r) else a) ∈ _ ∧ ∀ y ∈ a :: b :: r, y ≤ (if a < maxL (b :: r) then maxL (b :: r) else a)
    split
    · rename_i h
      refine ⟨List.mem_cons_of_mem _ h1, fun y hy => ?_⟩
      rcases List.mem_cons.mp hy with rfl | hy
      · omega
      · exact h2 y hy
    · rename_i h
      refine ⟨List.mem_cons_self, fun y hy => ?_⟩
      rcases List.mem_cons.mp hy with rfl | hy
      · omega
      · have := h2 y hy
        omega
theorem minL_ok : ∀ {l : List Int}, l ≠ [] → minL l ∈ l ∧ ∀ y ∈ l, minL l ≤ y
  | [], h => absurd rfl h
  | [a], _ => by simp [minL]
  | a :: b :: r, _ => by
    obtain ⟨h1, h2⟩ := minL_ok (l := b :: r) (by simp)
    show (if minL (b :: r) < a then minL (b :: r) else a) ∈ _ ∧ ∀ y ∈ a :: b :: r, (if minL (b :: r) < a then minL (b :: r) else a) ≤ y
    split
    · rename_i h
      refine ⟨List.mem_cons_of_mem _ h1, fun y hy => ?_⟩
      rcases List.mem_cons.mp hy with rfl | hy
      · omega
      · exact h2 y hy
    · rename_i h
      refine ⟨List.mem_cons_self, fun y hy => ?_⟩
      rcases List.mem_cons.mp hy with rfl | hy
      · omega
      · have := h2 y hy
        omega
def gMax2 : List PyData → Option Res
  | [.int i, .int j] => some (.val (.int (if j > i then j else i)))
  | _ => none
def gMin2 : List PyData → Option Res
  | [.int i, .int j] => some (.val (.int (if j < i then j else i)))
  | _ => none
def gMaxL : List PyData → Option Res
  | [.list ds] => (intsOf ds).bind fun ns => if ns = [] then none else some (.val (.int (maxL ns)))
  | _ => none
def gMinL : List PyData → Option Res
  | [.list ds] => (intsOf ds).bind fun ns => if ns = [] then none else some (.val (.int (minL ns)))
  | _ => none
theorem snd_max2 : SndN K (fun xs H Q => ∃ i j, xs = [.int i, .int j] ∧ Q (.int (if j > i then j else i)) H) gMax2 := by
  intro O H xs ds s Q dom hx hg q
  unfold gMax2 at hg
  split at hg
  · cases hg
    obtain ⟨x, y, rfl, h, h'⟩ := hx.two
    cases h
    cases h'
    exact ⟨_, _, rfl, okv dom q (.int _)⟩
  · cases hg
theorem snd_min2 : SndN K (fun xs H Q => ∃ i j, xs = [.int i, .int j] ∧ Q (.int (if j < i then j else i)) H) gMin2 := by
  intro O H xs ds s Q dom hx hg q
  unfold gMin2 at hg
  split at hg
  · cases hg
    obtain ⟨x, y, rfl, h, h'⟩ := hx.two
    cases h
    cases h'
    exact ⟨_, _, rfl, okv dom q (.int _)⟩
  · cases hg
theorem snd_maxL : SndN K (rMax K) gMaxL := by
  intro O H xs ds s Q dom hx hg q
  unfold gMaxL at hg
  split at hg
  · obtain ⟨ns, e1, e2⟩ := Option.bind_eq_some_iff.mp hg
    split at e2
    · cases e2
    · rename_i hn
      cases e2
      obtain ⟨x, rfl, a, ys, rfl, ha, fa⟩ := hx.one
      rw [intsOf_to e1] at fa
      rw [fa.intsV] at ha
      refine ⟨a, ns, rfl, .of ha, List.length_pos_iff.mpr hn, fun m hm hle => ?_⟩
      obtain ⟨k1, k2⟩ := maxL_ok hn
      have : m = maxL ns := Int.le_antisymm (k2 m hm) (hle _ k1)
      rw [this]
      exact okv dom q (.int _)
  · cases hg
theorem snd_minL : SndN K (rMin K) gMinL := by
  intro O H xs ds s Q dom hx hg q
  unfold gMinL at hg
  split at hg
  · obtain ⟨ns, e1, e2⟩ := Option.bind_eq_some_iff.mp hg
    split at e2
    · cases e2
    · rename_i hn
      cases e2
      obtain ⟨x, rfl, a, ys, rfl, ha, fa⟩ := hx.one
      rw [intsOf_to e1] at fa
      rw [fa.intsV] at ha
      refine ⟨a, ns, rfl, .of ha, List.length_pos_iff.mpr hn, fun m hm hle => ?_⟩
      obtain ⟨k1, k2⟩ := minL_ok hn
      have : m = minL ns := Int.le_antisymm (hle _ k1) (k2 m hm)
      rw [this]
      exact okv dom q (.int _)
  · cases hg
/-- list(x), tuple(x) -/
def gToL : List PyData → Option Res
  | [.list ds] => some (.new ds)
  | [.tuple ds] => some (.new ds)
  | _ => none
def gToT : List PyData → Option Res
  | [.list ds] => some (.val (.tuple ds))
  | [.tuple ds] => some (.val (.tuple ds))
  | _ => none
theorem snd_toL : SndN K (fun xs H Q => ∃ p ys, xs = [.ref p] ∧ (SqL K H p ys ∨ SqT K H p ys) ∧ ∀ l, H l = none → Q (.ref l) (upd H l (.lst ys))) gToL := by
  intro O H xs ds s Q dom hx hg q
  unfold gToL at hg
  split at hg
  · cases hg
    obtain ⟨x, rfl, a, ys, rfl, ha, fa⟩ := hx.one
    exact ⟨a, ys, rfl, .inl (.of ha), fun l hl => okn q hl fa⟩
  · cases hg
    obtain ⟨x, rfl, h⟩ := hx.one
    obtain ⟨a, ys, rfl, ha, fa⟩ := Fz.sqT h
    exact ⟨a, ys, rfl, .inr ha, fun l hl => okn q hl fa⟩
  · cases hg
theorem snd_toT : SndN K (fun xs H Q => ∃ p ys, xs = [.ref p] ∧ ((SqL K H p ys ∧ ∀ l, H l = none → Q (.ref l) (upd H l (.tup ys))) ∨ (SqT K H p ys ∧ Q (.ref p) H))) gToT := by
  intro O H xs ds s Q dom hx hg q
  unfold gToT at hg
  split at hg
  · cases hg
    obtain ⟨x, rfl, a, ys, rfl, ha, fa⟩ := hx.one
    exact ⟨a, ys, rfl, .inl ⟨.of ha, fun l hl => okt dom q hl fa⟩⟩
  · cases hg
    obtain ⟨x, rfl, h⟩ := hx.one
    have h' := h
    obtain ⟨a, ys, rfl, ha, fa⟩ := Fz.sqT h
    exact ⟨a, ys, rfl, .inr ⟨ha, okv dom q h'⟩⟩
  · cases hg
/-- sorted of ints -/
def srtI (ns : List Int) : List Int := ns.mergeSort fun a b => decide (a ≤ b)
theorem srtI_perm (ns : List Int) : (srtI ns).Perm ns := List.mergeSort_perm ..
theorem srtI_up (ns : List Int) : (srtI ns).Pairwise (· ≤ ·) := by
  have h := List.pairwise_mergeSort (le := fun a b : Int => decide (a ≤ b)) (by intro a b c h1 h2; simp at *; omega) (by intro a b; simp; omega) ns
  exact h.imp fun h => by simpa using h
theorem up_unique {as bs : List Int} (h : as.Perm bs) (ha : as.Pairwise (· ≤ ·)) (hb : bs.Pairwise (· ≤ ·)) : as = bs :=
  List.Perm.eq_of_pairwise (fun a b _ _ h1 h2 => Int.le_antisymm h1 h2) ha hb h
def gSortI : List PyData → Option Res
  | [.list ds] => (intsOf ds).map fun ns => .new ((srtI ns).map .int)
  | _ => none
theorem snd_sortI : SndN K (rSortedI K) gSortI := by
  intro O H xs ds s Q dom hx hg q
  unfold gSortI at hg
  split at hg
  · obtain ⟨ns, e1, e2⟩ := Option.map_eq_some_iff.mp hg
    cases e2
    obtain ⟨x, rfl, a, ys, rfl, ha, fa⟩ := hx.one
    rw [intsOf_to e1] at fa
    rw [fa.intsV] at ha
    refine ⟨a, ns, rfl, .of ha, fun ns' p hp hu hn => ?_⟩
    have : ns' = srtI ns := up_unique (hp.trans (srtI_perm ns).symm) hu (srtI_up ns)
    rw [this]
    exact okn q hn (FzA.ints _)
  · cases hg
end
end Fx

end

/-! Fx6: statements, targets, loops, comprehensions -/
noncomputable section
namespace Fx
open PySem PySem.Spec PyProof.Rows L2

section
variable {K : PySem.W.Frag} {np : Nat} {W : Wd} {O O' : Own} {σ σ' : L2.St} {H H' : Hp} {Γ Γ' : Gm}
theorem Tm.evD (k : Kp O H O' H') : ∀ {vs : List V} {ds : List PyData}, Tm K O H σ Γ vs (tsd ds) → Tm K O' H' σ' Γ' vs (tsd ds)
  | [], [], _ => True.intro
  | v :: vs, d :: ds, h => ⟨Fz.kp k _ _ h.1, Tm.evD k (vs := vs) (ds := ds) h.2⟩
  | [], _ :: _, h => h.elim
  | _ :: _, [], h => h.elim
/-- the top temporary is stored in a slot -/
theorem Cf.store {vs : List V} {ds : List PyData} {v : V} {m : MD} {i : Nat} (c : Cf K np W O σ H Γ (v :: vs) (.md m :: tsd ds)) (h : ¬ (m.own = true ∧ i < np)) : Cfg K np W (σ.set i (some v)) H (Γ.set i (some m)) vs (tsd ds) := by
  have a : Ev (· = .tmp (tsd ds).length) O H (retag O (.tmp (tsd ds).length) (some (.slot i))) H := Ev.retag (by simp) c.dom
  have r : MR K (retag O (.tmp (tsd ds).length) (some (.slot i))) H (.slot i) m v := MR.move c.dom (by simp) c.top
  refine ⟨_, a.dom, fun j m' e => ?_, Tm.evD a.k c.pop.tm, (c.pop.ev a (by simp) (by simp) (fun k z => by injection z with z; omega)).keep, fun b hb => c.out b (a.out b hb), c.wt, fun j m' hj e ho => ?_, by rw [List.length_set, List.length_set]; exact c.len⟩
  · by_cases ji : i = j
    · subst ji
      by_cases hl : i < Γ.length
      · rw [List.getElem?_set_self hl] at e
        cases e
        exact ⟨v, List.getElem?_set_self (by rw [← c.len]; exact hl), r⟩
      · rw [List.getElem?_eq_none (by rw [List.length_set]; omega)] at e
        cases e
    · rw [List.getElem?_set_ne ji] at e
      obtain ⟨w, e1, r1⟩ := c.sl j m' e
      exact ⟨w, by rw [List.getElem?_set_ne ji]; exact e1, r1.ev a (by simp)⟩
  · by_cases ji : i = j
    · subst ji
      by_cases hl : i < Γ.length
      · rw [List.getElem?_set_self hl] at e
        cases e
        exact absurd ⟨ho, hj⟩ h
      · rw [List.getElem?_eq_none (by rw [List.length_set]; omega)] at e
        cases e
    · rw [List.getElem?_set_ne ji] at e
      rw [List.getElem?_set_ne ji]
      exact c.arg j m' hj e ho
/-- the same of plain data, whatever the temporaries are: the slot owns nothing -/
def ownAt (Γ : Gm) (i : Nat) : Bool := match Γ[i]? with
  | some (some m) => m.own
  | _ => false
theorem Tm.setD {vs : List V} {ts : List TV} {i : Nat} {d : PyData} {v : V} (n : ownAt Γ i = false) : ∀ {vs : List V} {ts : List TV}, Tm K O H σ Γ vs ts → Tm K O H (σ.set i (some v)) (Γ.set i (some (.dat d))) vs ts
  | [], [], _ => True.intro
  | w :: vs, t :: ts, h => by
    refine ⟨?_, Tm.setD (vs := vs) (ts := ts) n h.2⟩
    have h1 := h.1
    cases t with
    | md m => exact h1
    | al j =>
      obtain ⟨e, m, e1, e2⟩ := h1
      have ne : i ≠ j := fun z => by
        subst z
        simp only [ownAt, e1] at n
        rw [n] at e2
        cases e2
      exact ⟨by rw [List.getElem?_set_ne ne]; exact e, m, by rw [List.getElem?_set_ne ne]; exact e1, e2⟩
  | [], _ :: _, h => h.elim
  | _ :: _, [], h => h.elim
theorem Cf.storeD {vs : List V} {ts : List TV} {v : V} {d : PyData} {i : Nat} (c : Cf K np W O σ H Γ (v :: vs) (.md (.dat d) :: ts)) (n : ownAt Γ i = false) : Cf K np W O (σ.set i (some v)) H (Γ.set i (some (.dat d))) vs ts := by
  refine ⟨c.dom, fun j m' e => ?_, Tm.setD (vs := vs) (ts := ts) n c.pop.tm, c.keep, c.out, c.wt, fun j m' hj e ho => ?_, by rw [List.length_set, List.length_set]; exact c.len⟩
  · by_cases ji : i = j
    · subst ji
      by_cases hl : i < Γ.length
      · rw [List.getElem?_set_self hl] at e
        cases e
        exact ⟨v, List.getElem?_set_self (by rw [← c.len]; exact hl), c.top⟩
      · rw [List.getElem?_eq_none (by rw [List.length_set]; omega)] at e
        cases e
    · rw [List.getElem?_set_ne ji] at e
      obtain ⟨w, e1, r1⟩ := c.sl j m' e
      exact ⟨w, by rw [List.getElem?_set_ne ji]; exact e1, r1⟩
  · by_cases ji : i = j
    · subst ji
      by_cases hl : i < Γ.length
      · rw [List.getElem?_set_self hl] at e
        cases e
        cases ho
      · rw [List.getElem?_eq_none (by rw [List.length_set]; omega)] at e
        cases e
    · rw [List.getElem?_set_ne ji] at e
      rw [List.getElem?_set_ne ji]
      exact c.arg j m' hj e ho
/-- slots are forgotten -/
def fgt (Γ : Gm) : List Nat → Gm
  | [] => Γ
  | i :: is => (fgt Γ is).set i none
theorem fgt_len (Γ : Gm) : ∀ is, (fgt Γ is).length = Γ.length
  | [] => rfl
  | i :: is => by rw [fgt, List.length_set, fgt_len Γ is]
theorem fgt_some {Γ : Gm} {j : Nat} {m : MD} : ∀ {is : List Nat}, (fgt Γ is)[j]? = some (some m) → Γ[j]? = some (some m) ∧ j ∉ is
  | [], h => ⟨h, by simp⟩
  | i :: is, h => by
    unfold fgt at h
    by_cases e : i = j
    · subst e
      by_cases hl : i < (fgt Γ is).length
      · rw [List.getElem?_set_self hl] at h; cases h
      · rw [List.getElem?_eq_none (by rw [List.length_set]; omega)] at h; cases h
    · rw [List.getElem?_set_ne e] at h
      obtain ⟨h1, h2⟩ := fgt_some h
      exact ⟨h1, by simp only [List.mem_cons, not_or]; exact ⟨fun z => e z.symm, h2⟩⟩
theorem Cf.forget {vs : List V} {ds : List PyData} (is : List Nat) (c : Cf K np W O σ H Γ vs (tsd ds)) : Cf K np W O σ H (fgt Γ is) vs (tsd ds) :=
  ⟨c.dom, fun j m e => c.sl j m (fgt_some e).1, Tm.evD (Kp.refl _ _) c.tm, c.keep, c.out, c.wt, fun j m hj e => c.arg j m hj (fgt_some e).1, by rw [fgt_len]; exact c.len⟩
/-- what a slot owns is frozen -/
theorem Cf.freeze {vs : List V} {ds : List PyData} {i : Nat} {m : MD} {d : PyData} (c : Cf K np W O σ H Γ vs (tsd ds)) (e : Γ[i]? = some (some m)) (f : m.flat = some d) : Cfg K np W σ H (Γ.set i (some (.dat d))) vs (tsd ds) := by
  have a : Ev (· = .slot i) O H (retag O (.slot i) none) H := Ev.retag (by simp) c.dom
  obtain ⟨v, hv, r⟩ := c.sl i m e
  have hl : i < Γ.length := (List.getElem?_eq_some_iff.mp e).1
  refine ⟨_, a.dom, fun j m' e' => ?_, Tm.evD a.k c.tm, fun b o h n => ?_, fun b hb => c.out b (a.out b hb), c.wt, fun j m' hj e' ho => ?_, by rw [List.length_set]; exact c.len⟩
  · by_cases ji : i = j
    · subst ji
      rw [List.getElem?_set_self hl] at e'
      cases e'
      exact ⟨v, hv, MR.freeze c.dom r f⟩
    · rw [List.getElem?_set_ne ji] at e'
      obtain ⟨w, e1, r1⟩ := c.sl j m' e'
      exact ⟨w, e1, r1.ev a (by simpa using fun z => ji z.symm)⟩
  · obtain ⟨h1, e1⟩ := c.keep b o h n
    obtain ⟨h2, e2⟩ := a.kp b o h1 fun t q z => by
      subst z
      rw [e1] at q
      exact n i q
    exact ⟨h2, e2.trans e1⟩
  · by_cases ji : i = j
    · subst ji
      rw [List.getElem?_set_self hl] at e'
      cases e'
      cases ho
    · rw [List.getElem?_set_ne ji] at e'
      exact c.arg j m' hj e' ho
/-- what a slot holds goes over to a temporary -/
theorem Cf.take {vs : List V} {ds : List PyData} {i : Nat} {m : MD} {v : V} (c : Cf K np W O σ H Γ vs (tsd ds)) (e : Γ[i]? = some (some m)) (ev : σ[i]? = some (some v)) : Cfg K np W σ H (Γ.set i none) (v :: vs) (.md m :: tsd ds) := by
  have a : Ev (· = .slot i) O H (retag O (.slot i) (some (.tmp (tsd ds).length))) H := Ev.retag (by simp) c.dom
  obtain ⟨v', hv, r⟩ := c.sl i m e
  rw [ev] at hv
  cases hv
  have hl : i < Γ.length := (List.getElem?_eq_some_iff.mp e).1
  refine ⟨_, a.dom, fun j m' e' => ?_, ⟨MR.move c.dom (by simp) r, Tm.evD a.k c.tm⟩, fun b o h n => ?_, fun b hb => c.out b (a.out b hb), c.wt, fun j m' hj e' ho => ?_, by rw [List.length_set]; exact c.len⟩
  · by_cases ji : i = j
    · subst ji
      rw [List.getElem?_set_self hl] at e'
      cases e'
    · rw [List.getElem?_set_ne ji] at e'
      obtain ⟨w, e1, r1⟩ := c.sl j m' e'
      exact ⟨w, e1, r1.ev a (by simpa using fun z => ji z.symm)⟩
  · obtain ⟨h1, e1⟩ := c.keep b o h n
    obtain ⟨h2, e2⟩ := a.kp b o h1 fun t q z => by
      subst z
      rw [e1] at q
      exact n i q
    exact ⟨h2, e2.trans e1⟩
  · by_cases ji : i = j
    · subst ji
      rw [List.getElem?_set_self hl] at e'
      cases e'
    · rw [List.getElem?_set_ne ji] at e'
      exact c.arg j m' hj e' ho
/-- the second temporary is dropped -/
theorem Cf.under {vs : List V} {ds : List PyData} {m : MD} {v w : V} {d : PyData} (c : Cf K np W O σ H Γ (v :: w :: vs) (.md m :: tsd (d :: ds))) : Cfg K np W σ H Γ (v :: vs) (.md m :: tsd ds) := by
  have a : Ev (· = .tmp (tsd (d :: ds)).length) O H (retag O (.tmp (tsd (d :: ds)).length) (some (.tmp (tsd ds).length))) H := Ev.retag (by simp) c.dom
  have c2 := c.pop.pop.ev a (by simp) (by simp) (fun k z => by injection z with z; simp [tsd] at z ⊢; omega)
  exact ⟨_, c2.push (MR.move c.dom (by simp) c.top)⟩
/-- what is owned by the top temporary is frozen -/
theorem Cf.frzTop {vs : List V} {ts : List TV} {m : MD} {v : V} {d : PyData} (c : Cf K np W O σ H Γ (v :: vs) (.md m :: ts)) (f : m.flat = some d) : Cfg K np W σ H Γ (v :: vs) (.md (.dat d) :: ts) := by
  have a : Ev (· = .tmp ts.length) O H (retag O (.tmp ts.length) none) H := Ev.retag (by simp) c.dom
  have c2 := c.pop.ev a (by simp) (by simp) (fun k z => by injection z with z; omega)
  exact ⟨_, c2.push (MR.freeze c.dom c.top f)⟩
end

/-! ### statements -/
section
variable {X : Cx} {np : Nat} {e : Expr} {pos : Pos} {f : FE} {g h : FS} {st : Stmt} {rest : List Stmt}
def fSet (np i : Nat) (f : FE) : FS := fun Γ => (f Γ).bind fun p => match p.1 with
  | .md m => if m.own = true ∧ i < np then none else some (.nx (p.2.set i (some m)))
  | .al _ => none
theorem fs_set {i : Nat} {x : Str} {pos' : Pos} (hN : X.N.Nodup) (he : FX X np e f) (hi : X.N[i]? = some x := by rfl) (hx : Loc X.env.scope x := by first | exact Or.inl rfl | exact Or.inr rfl) (hs : swapsWith e (some (.Name x pos')) pos.line X.env = pure false := by rfl)
    (hf : X.fn x = true ∨ X.env.scope.names.lookup x = some .local := by first | exact .inl rfl | exact .inr rfl | assumption) : FSX X np (.Assign [.Name x pos'] e pos) (fSet np i f) := by
  refine PS.weak (ps_set hN hi hx he hs hf) fun D σ H h => ?_
  obtain ⟨W, Γ, vs, ds, o, c, e, q⟩ := h
  obtain ⟨⟨t, Γ1⟩, e1, e⟩ := Option.bind_eq_some_iff.mp e
  refine ⟨W, Γ, vs, tsd ds, t, Γ1, c, e1, fun v H1 c1 => ?_⟩
  obtain ⟨O, c1⟩ := c1
  cases t with
  | md m =>
    dsimp only at e
    split at e
    · cases e
    · rename_i hm
      cases e
      exact q _ _ (c1.store hm)
  | al j => cases e
def fDrop (f : FE) : FS := fun Γ => (f Γ).map fun p => .nx p.2
theorem fs_expr (he : FX X np e f) (hs : swapsWith e none pos.line X.env = pure false := by rfl) : FSX X np (.Expr e pos) (fDrop f) := by
  refine PS.weak (ps_expr he hs) fun D σ H h => ?_
  obtain ⟨W, Γ, vs, ds, o, c, e, q⟩ := h
  obtain ⟨⟨t, Γ1⟩, e1, e⟩ := Option.map_eq_some_iff.mp e
  cases e
  refine ⟨W, Γ, vs, tsd ds, t, Γ1, c, e1, fun v H1 c1 => ?_⟩
  obtain ⟨O, c1⟩ := c1
  exact q σ H1 ⟨O, c1.pop⟩
theorem fs_doc {x j} {pos pos' : Pos} : FSX X np (.Expr (.Constant (.str x) j pos) pos') (fun Γ => some (.nx Γ)) := by
  refine PS.weak ps_doc fun D σ H h => ?_
  obtain ⟨W, Γ, vs, ds, o, c, e, q⟩ := h
  cases e
  exact q σ H c
/-- return: fz, whether what is owned becomes plain data -/
def fRet (np : Nat) (fz : Bool) (f : FE) : FS := fun Γ => (f Γ).bind fun p => match p.1 with
  | .md m => if fz then m.flat.map fun d => .rt (.dat d) p.2 else some (.rt m p.2)
  | .al i => match p.2[i]? with
    | some (some m) => if fz then m.flat.map fun d => .rt (.dat d) (p.2.set i none) else some (.rt m (p.2.set i none))
    | _ => none
theorem fs_ret {fz : Bool} (he : FX X np e f) : FSX X np (.Return (some e) pos) (fRet np fz f) := by
  refine PS.weak (ps_ret he) fun D σ H h => ?_
  obtain ⟨W, Γ, vs, ds, o, c, e, q⟩ := h
  obtain ⟨⟨t, Γ1⟩, e1, e⟩ := Option.bind_eq_some_iff.mp e
  refine ⟨W, Γ, vs, tsd ds, t, Γ1, c, e1, fun v H1 c1 => ?_⟩
  obtain ⟨O, c1⟩ := c1
  cases t with
  | md m =>
    dsimp only at e
    cases fz with
    | true =>
      rw [if_pos rfl] at e
      obtain ⟨d, e2, e3⟩ := Option.map_eq_some_iff.mp e
      cases e3
      exact q v σ H1 (c1.frzTop e2)
    | false =>
      rw [if_neg (by simp)] at e
      cases e
      exact q v σ H1 ⟨O, c1⟩
  | al i =>
    dsimp only at e
    split at e
    · rename_i m hm
      obtain ⟨ev, _⟩ := c1.top
      obtain ⟨O2, c2⟩ := c1.pop.take hm ev
      cases fz with
      | true =>
        rw [if_pos rfl] at e
        obtain ⟨d, e2, e3⟩ := Option.map_eq_some_iff.mp e
        cases e3
        exact q v σ H1 (c2.frzTop e2)
      | false =>
        rw [if_neg (by simp)] at e
        cases e
        exact q v σ H1 ⟨O2, c2⟩
    · cases e
theorem fs_retN : FSX X np (.Return none pos) (fun Γ => some (.rt (.dat .none) Γ)) := by
  refine PS.weak ps_retN fun D σ H h => ?_
  obtain ⟨W, Γ, vs, ds, o, ⟨O, c⟩, e, q⟩ := h
  cases e
  exact q _ σ H ⟨O, c.push .non⟩
theorem fs_pass : FSX X np (.Pass pos) (fun Γ => some (.nx Γ)) := by
  refine PS.weak ps_pass fun D σ H h => ?_
  obtain ⟨W, Γ, vs, ds, o, c, e, q⟩ := h
  cases e
  exact q σ H c
theorem fs_break : FSX X np (.Break pos) (fun Γ => some (.bk Γ)) := by
  refine PS.weak ps_break fun D σ H h => ?_
  obtain ⟨W, Γ, vs, ds, o, c, e, q⟩ := h
  cases e
  exact q σ H c
theorem fs_continue : FSX X np (.Continue pos) (fun Γ => some (.ct Γ)) := by
  refine PS.weak ps_continue fun D σ H h => ?_
  obtain ⟨W, Γ, vs, ds, o, c, e, q⟩ := h
  cases e
  exact q σ H c
def fNil : FS := fun Γ => some (.nx Γ)
def fSeq (g h : FS) : FS := fun Γ => (g Γ).bind fun o => match o with
  | .nx Γ1 => h Γ1
  | o => some o
theorem fss_nil : FSsX X np [] fNil := by
  refine PSs.weak pss_nil fun D σ H h => ?_
  obtain ⟨W, Γ, vs, ds, o, c, e, q⟩ := h
  cases e
  exact q σ H c
theorem fss_one (h1 : FSX X np st g) : FSsX X np [st] g := pss_one h1
theorem fss_cons (h1 : FSX X np st g) (h2 : FSsX X np rest h) : FSsX X np (st :: rest) (fSeq g h) := by
  refine PSs.weak (pss_cons h1 h2) fun D σ H hh => ?_
  obtain ⟨W, Γ, vs, ds, o, c, e, q⟩ := hh
  obtain ⟨o1, e1, e⟩ := Option.bind_eq_some_iff.mp e
  refine ⟨W, Γ, vs, ds, o1, c, e1, ?_⟩
  cases o1 with
  | nx Γ1 => exact fun σ' H' c' => ⟨W, Γ1, vs, ds, o, c', e, q⟩
  | rt m Γ1 => cases e; exact q
  | bk Γ1 => cases e; exact q
  | ct Γ1 => cases e; exact q
/-- a block behind which slots are forgotten; ahead of which a slot is frozen -/
def fgtO (is : List Nat) : Out → Out
  | .nx Γ => .nx (fgt Γ is)
  | .bk Γ => .bk (fgt Γ is)
  | .ct Γ => .ct (fgt Γ is)
  | .rt m Γ => .rt m Γ
def fFgt (is : List Nat) (g : FS) : FS := fun Γ => (g Γ).map (fgtO is)
theorem fss_fgt (is : List Nat) {ss : List Stmt} (h1 : FSsX X np ss g) : FSsX X np ss (fFgt is g) := by
  refine PSs.weak h1 fun D σ H h => ?_
  obtain ⟨W, Γ, vs, ds, o, c, e, q⟩ := h
  obtain ⟨o1, e1, e⟩ := Option.map_eq_some_iff.mp e
  subst e
  refine ⟨W, Γ, vs, ds, o1, c, e1, ?_⟩
  cases o1 with
  | nx Γ1 => exact fun σ' H' ⟨O, c'⟩ => q σ' H' ⟨O, c'.forget is⟩
  | rt m Γ1 => exact q
  | bk Γ1 => exact fun σ' H' ⟨O, c'⟩ => q σ' H' ⟨O, c'.forget is⟩
  | ct Γ1 => exact fun σ' H' ⟨O, c'⟩ => q σ' H' ⟨O, c'.forget is⟩
def fFrz (i : Nat) (g : FS) : FS := fun Γ => match Γ[i]? with
  | some (some m) => m.flat.bind fun d => g (Γ.set i (some (.dat d)))
  | _ => none
theorem fss_frz (i : Nat) {ss : List Stmt} (h1 : FSsX X np ss g) : FSsX X np ss (fFrz i g) := by
  refine PSs.weak h1 fun D σ H h => ?_
  obtain ⟨W, Γ, vs, ds, o, ⟨O, c⟩, e, q⟩ := h
  unfold fFrz at e
  split at e
  · rename_i m hm
    obtain ⟨d, e1, e⟩ := Option.bind_eq_some_iff.mp e
    exact ⟨W, _, vs, ds, o, c.freeze hm e1, e, q⟩
  · cases e
def fIf (tc : FT) (g h : FS) : FS := fun Γ => (tc Γ).bind fun p => if p.1 = true then g p.2 else h p.2
theorem fs_if {c : Expr} {a b : List Stmt} {tc : FT} (hc : FTX X np c tc) (ha : FSsX X np a g) (hb : FSsX X np b h) : FSX X np (.If c a b pos) (fIf tc g h) := by
  refine PS.weak (ps_if hc ha hb) fun D σ H hh => ?_
  obtain ⟨W, Γ, vs, ds, o, c, e, q⟩ := hh
  obtain ⟨⟨b1, Γ1⟩, e1, e⟩ := Option.bind_eq_some_iff.mp e
  refine ⟨W, Γ, vs, tsd ds, b1, Γ1, c, e1, fun H1 c1 => ?_⟩
  cases b1 with
  | true => exact iteT ⟨W, Γ1, vs, ds, o, c1, by simpa using e, q⟩
  | false => exact iteF ⟨W, Γ1, vs, ds, o, c1, by simpa using e, q⟩
/-! ### while -/
def fWhile (c : FT) (b : FS) : Nat → FS
  | 0 => fun _ => none
  | n + 1 => fun Γ => (c Γ).bind fun p => if p.1 = true then (b p.2).bind fun o => match o with
      | .nx Γ1 => fWhile c b n Γ1
      | .ct Γ1 => fWhile c b n Γ1
      | .bk Γ1 => some (.nx Γ1)
      | .rt m Γ1 => some (.rt m Γ1)
    else some (.nx p.2)
theorem fs_while {c : Expr} {body : List Stmt} {tc : FT} (n : Nat) (hp : PassesOwn (model X.prog X.w) X.A X.env X.xe) (hc : FTX X np c tc) (hb : FSsX X np body g) : FSX X np (.While c body [] pos) (fWhile tc g n) := by
  refine PS.weak (ps_while hp hc hb) fun D σ H h => ?_
  obtain ⟨W, Γ, vs, ds, o, c, e, q⟩ := h
  refine ⟨fun m σ H => ∃ Γ, Cfg X.K np W σ H Γ vs (tsd ds) ∧ fWhile tc g m Γ = some o, ⟨n, Γ, c, e⟩, ?_⟩
  rintro m σ H ⟨Γ, c, e⟩
  cases m with
  | zero => cases e
  | succ m =>
    obtain ⟨⟨b1, Γ1⟩, e1, e⟩ := Option.bind_eq_some_iff.mp e
    refine ⟨W, Γ, vs, tsd ds, b1, Γ1, c, e1, fun H1 c1 => ?_⟩
    cases b1 with
    | false =>
      refine iteF ?_
      have e' : Out.nx Γ1 = o := by simpa using e
      subst e'
      exact q σ H1 c1
    | true =>
      refine iteT ⟨fun σ H => ∃ Γ, Cfg X.K np W σ H Γ vs (tsd ds) ∧ fWhile tc g m Γ = some o, fun σ' H' w => ⟨m, Nat.lt_succ_self _, w⟩, ?_⟩
      rw [if_pos rfl] at e
      obtain ⟨o1, e2, e⟩ := Option.bind_eq_some_iff.mp e
      refine ⟨W, Γ1, vs, ds, o1, c1, e2, ?_⟩
      cases o1 with
      | nx Γ2 => exact fun σ' H' c' => ⟨Γ2, c', e⟩
      | ct Γ2 => exact fun σ' H' c' => ⟨Γ2, c', e⟩
      | bk Γ2 => cases e; exact q
      | rt r Γ2 => cases e; exact q
end
end Fx

end

/-! Fx7: targets, what is walked, for, list comprehensions -/
noncomputable section
namespace Fx
open PySem PySem.Spec PyProof.Rows L2

/-- an iterator as a list of data, in every state behind (O1, H1) that has what nobody owns as it was -/
def ItF (K : PySem.W.Frag) (J : It) (O1 : Own) (H1 : Hp) (items : List PyData) : Prop :=
  ∀ (O : Own) (H : Hp) (i : Nat), (∀ b t, O b = some t → H b ≠ none) → Kp O1 H1 O H →
    (∀ d, items[i]? = some d → J.go i H ∧ ∀ x H', J.yld i H x H' → Ev J0 O H O H' ∧ Fz K O H' d x) ∧ (items.length ≤ i → J.stop i H)
abbrev FI := Gm → Option (List PyData × Gm)
def upI (K : PySem.W.Frag) (np : Nat) (f : FI) : TI := fun σ H R => ∃ W Γ vs ts items Γ', Cfg K np W σ H Γ vs ts ∧ f Γ = some (items, Γ') ∧
  ∀ J O' H', Cf K np W O' σ H' Γ' vs ts → ItF K J O' H' items → R J H'
def FIX (X : Cx) (np : Nat) (tg iter : Expr) (f : FI) : Prop := PI X tg iter (upI X.K np f)
theorem PI.weak {X : Cx} {tg e : Expr} {t t' : TI} (h : PI X tg e t) (w : ∀ σ H R, t' σ H R → t σ H R) : PI X tg e t' := ⟨fun pins s σ H R I q => h.run pins s σ H R I (w σ H R q)⟩
theorem PI.or {X : Cx} {tg e : Expr} {t t' : TI} (h : PI X tg e t) (h' : PI X tg e t') : PI X tg e (fun σ H R => t σ H R ∨ t' σ H R) := ⟨fun pins s σ H R I q => q.elim (h.run pins s σ H R I) (h'.run pins s σ H R I)⟩

/-- a new entry: what is held now by nobody stays -/
def Wd.at (W : Wd) (O : Own) (H : Hp) : Wd := ⟨H, fun b => match O b with
  | some (.tmp _) => some (.slot 0)
  | x => x, W.σ⟩
section
variable {K : PySem.W.Frag} {np : Nat} {W : Wd} {O O' : Own} {σ σ' : L2.St} {H H' : Hp} {Γ Γ' : Gm} {vs vs' : List V} {ts ts' : List TV}
theorem Cf.rebase (c : Cf K np W O σ H Γ vs ts) : Cf K np (W.at O H) O σ H Γ vs ts where
  dom := c.dom
  sl := c.sl
  tm := c.tm
  keep := fun b o h n => by
    refine ⟨h, ?_⟩
    show O b = _
    unfold Wd.at at n ⊢
    dsimp only at n ⊢
    split
    · rename_i k e
      rw [e] at n
      exact absurd rfl (n 0)
    · rfl
  out := fun b h => by
    show (Wd.at W O H).O b = _
    unfold Wd.at
    simp only [h]
  wt := fun b k h => by
    unfold Wd.at at h
    dsimp only at h
    split at h
    · cases h
    · rename_i x hx
      exact hx k h
  arg := c.arg
  len := c.len
theorem Cf.unbase (c : Cf K np W O σ H Γ vs ts) (c' : Cf K np (W.at O H) O' σ' H' Γ' vs' ts') : Cf K np W O' σ' H' Γ' vs' ts' where
  dom := c'.dom
  sl := c'.sl
  tm := c'.tm
  keep := fun b o h n => by
    obtain ⟨h1, e1⟩ := c.keep b o h n
    have e2 : (Wd.at W O H).O b = O b := by
      unfold Wd.at
      dsimp only
      split
      · rename_i k e
        exact absurd (e1.symm.trans e) (c.wt b k)
      · rfl
    obtain ⟨h2, e3⟩ := c'.keep b o h1 fun k => by rw [e2, e1]; exact n k
    exact ⟨h2, by rw [e3, e2, e1]⟩
  out := fun b h => by
    have h1 := c'.out b h
    unfold Wd.at at h1
    dsimp only at h1
    split at h1
    · cases h1
    · exact c.out b h1
  wt := c.wt
  arg := c'.arg
  len := c'.len
theorem Cf.kpAt (c : Cf K np (W.at O H) O' σ' H' Γ' vs' ts') : Kp O H O' H' := fun b o h n => by
  have e2 : (Wd.at W O H).O b = none := by
    unfold Wd.at
    simp only [n]
  obtain ⟨h2, e3⟩ := c.keep b o h fun k => by rw [e2]; exact fun z => by cases z
  exact ⟨h2, e3.trans e2⟩
end
section
variable {K : PySem.W.Frag} {O : Own} {H : Hp}
theorem SqL.inj {a : Addr} {xs ys : List V} (h : H a = some (.lst xs)) (nk : K.lookup a = none ∨ True) (h' : H a = some (.lst ys)) : xs = ys := by
  rw [h] at h'
  cases h'
  rfl
/-- data that walks: a list, a tuple -/
def itemsOf : PyData → Option (List PyData)
  | .list ds => some ds
  | .tuple ds => some ds
  | _ => none
theorem itf_list {ds : List PyData} {a : Addr} (h : Fz K O H (.list ds) (.ref a)) : ItF K (Itl K a) O H ds := by
  intro O' H' i dom k
  obtain ⟨b, xs, e, hb, fa, _⟩ := (Fz.kp k _ _ h).sqL
  cases e
  refine ⟨fun d e => ?_, fun hl => ⟨xs, .of hb, by rw [← fa.length]; exact hl⟩⟩
  obtain ⟨v, ev, r⟩ := fa.get e
  refine ⟨⟨xs, v, .of hb, ev⟩, fun x H' y => ?_⟩
  obtain ⟨rfl, y⟩ := y
  have := y xs (.of hb)
  rw [ev] at this
  cases this
  exact ⟨Ev.refl dom, r⟩
theorem itf_tup {ds : List PyData} {a : Addr} (h : Fz K O H (.tuple ds) (.ref a)) : ItF K (Itt K a) O H ds := by
  intro O' H' i dom k
  obtain ⟨b, xs, e, hb, fa⟩ := (Fz.kp k _ _ h).sqT
  cases e
  refine ⟨fun d e => ?_, fun hl => ⟨xs, hb, by rw [← fa.length]; exact hl⟩⟩
  obtain ⟨v, ev, r⟩ := fa.get e
  refine ⟨⟨xs, v, hb, ev⟩, fun x H' y => ?_⟩
  obtain ⟨rfl, y⟩ := y
  have := y xs hb
  rw [ev] at this
  cases this
  exact ⟨Ev.refl dom, r⟩
def rangeD (lo : Int) (n : Nat) : List PyData := (List.range n).map fun (i : Nat) => PyData.int (lo + i)
theorem itf_range {lo : Int} {n : Nat} : ItF K (Itr lo n) O H (rangeD lo n) := by
  intro O' H' i dom k
  refine ⟨fun d e => ?_, fun hl => by
    have : n ≤ i := by simpa [rangeD] using hl
    exact this⟩
  obtain ⟨j, e1, e2⟩ : ∃ j : Nat, (List.range n)[i]? = some j ∧ PyData.int (lo + j) = d := by
    unfold rangeD at e
    rw [List.getElem?_map] at e
    cases q : (List.range n)[i]? with
    | none => rw [q] at e; cases e
    | some j => rw [q] at e; exact ⟨j, rfl, Option.some.inj e⟩
  have hi : i < n := by
    have := (List.getElem?_eq_some_iff.mp e1).1
    simpa using this
  rw [List.getElem?_range hi] at e1
  cases e1
  subst e2
  refine ⟨hi, fun x H' y => ?_⟩
  obtain ⟨rfl, rfl⟩ := y
  exact ⟨Ev.refl dom, .int _⟩
/-- a new tuple of two -/
theorem ev_pair {x y : V} {d e : PyData} {T : Addr} (dom : ∀ b t, O b = some t → H b ≠ none) (hT : H T = none) (hx : Fz K O H d x) (hy : Fz K O H e y) : Ev J0 O H O (upd H T (.tup [x, y])) ∧ Fz K O (upd H T (.tup [x, y])) (.tuple [d, e]) (.ref T) := by
  have a := Ev.new (o := .tup [x, y]) dom hT
  exact ⟨a, .tup (.inl upd_same) (own_none dom hT) (.cons (Fz.kp a.k _ _ hx) (.cons (Fz.kp a.k _ _ hy) .nil))⟩
def enumD (ds : List PyData) : List PyData := ds.zipIdx.map fun p => .tuple [.int (p.2 : Nat), p.1]
theorem enumD_get {ds : List PyData} {i : Nat} {d : PyData} (h : (enumD ds)[i]? = some d) : ∃ e, ds[i]? = some e ∧ d = .tuple [.int (i : Nat), e] := by
  unfold enumD at h
  rw [List.getElem?_map, List.getElem?_zipIdx] at h
  cases q : ds[i]? with
  | none => rw [q] at h; cases h
  | some e =>
    rw [q] at h
    have h' := Option.some.inj h
    exact ⟨e, rfl, by rw [← h']; simp⟩
theorem itf_enum {ds : List PyData} {a : Addr} (h : Fz K O H (.list ds) (.ref a)) : ItF K (Ite K a) O H (enumD ds) := by
  intro O' H' i dom k
  obtain ⟨b, xs, e, hb, fa, _⟩ := (Fz.kp k _ _ h).sqL
  cases e
  refine ⟨fun d e => ?_, fun hl => ⟨xs, .of hb, by rw [← fa.length]; simpa [enumD] using hl⟩⟩
  obtain ⟨d', e1, rfl⟩ := enumD_get e
  obtain ⟨v, ev, r⟩ := fa.get e1
  refine ⟨⟨xs, v, .of hb, ev⟩, fun x H' y => ?_⟩
  obtain ⟨T, w, rfl, hT, rfl, y⟩ := y
  have := y xs (.of hb)
  rw [ev] at this
  cases this
  exact ev_pair dom hT (.int _) r
def zipD (as bs : List PyData) : List PyData := (as.zip bs).map fun p => .tuple [p.1, p.2]
theorem zipD_get {as bs : List PyData} {i : Nat} {d : PyData} (h : (zipD as bs)[i]? = some d) : ∃ x y, as[i]? = some x ∧ bs[i]? = some y ∧ d = .tuple [x, y] := by
  unfold zipD at h
  rw [List.getElem?_map] at h
  cases q : (as.zip bs)[i]? with
  | none => rw [q] at h; cases h
  | some p =>
    rw [q] at h
    obtain ⟨h1, h2⟩ := List.getElem?_zip_eq_some.mp q
    exact ⟨p.1, p.2, h1, h2, (Option.some.inj h).symm⟩
theorem itf_zip {as bs : List PyData} {a b : Addr} (h1 : Fz K O H (.list as) (.ref a)) (h2 : Fz K O H (.list bs) (.ref b)) : ItF K (Itz K a b) O H (zipD as bs) := by
  intro O' H' i dom k
  obtain ⟨_, xs, e, ga, fa, _⟩ := (Fz.kp k _ _ h1).sqL
  cases e
  obtain ⟨_, ys, e, gb, fb, _⟩ := (Fz.kp k _ _ h2).sqL
  cases e
  refine ⟨fun d e => ?_, fun hl => ⟨xs, ys, .of ga, .of gb, ?_⟩⟩
  · obtain ⟨x, y, e1, e2, rfl⟩ := zipD_get e
    obtain ⟨v, ev, r⟩ := fa.get e1
    obtain ⟨u, eu, r'⟩ := fb.get e2
    refine ⟨⟨xs, ys, v, u, .of ga, .of gb, ev, eu⟩, fun z H' q => ?_⟩
    obtain ⟨T, v', u', rfl, hT, rfl, q1, q2⟩ := q
    have e3 := q1 xs (.of ga)
    have e4 := q2 ys (.of gb)
    rw [ev] at e3
    rw [eu] at e4
    cases e3
    cases e4
    exact ev_pair dom hT r r'
  · unfold zipD at hl
    rw [List.length_map, List.length_zip] at hl
    rw [← fa.length, ← fb.length]
    omega
theorem itf_zipT {as bs : List PyData} {a b : Addr} (h1 : Fz K O H (.tuple as) (.ref a)) (h2 : Fz K O H (.tuple bs) (.ref b)) : ItF K (RZ.ItzT K a b) O H (zipD as bs) := by
  intro O' H' i dom k
  obtain ⟨_, xs, e, ga, fa⟩ := (Fz.kp k _ _ h1).sqT
  cases e
  obtain ⟨_, ys, e, gb, fb⟩ := (Fz.kp k _ _ h2).sqT
  cases e
  refine ⟨fun d e => ?_, fun hl => ⟨xs, ys, ga, gb, ?_⟩⟩
  · obtain ⟨x, y, e1, e2, rfl⟩ := zipD_get e
    obtain ⟨v, ev, r⟩ := fa.get e1
    obtain ⟨u, eu, r'⟩ := fb.get e2
    refine ⟨⟨xs, ys, v, u, ga, gb, ev, eu⟩, fun z H' q => ?_⟩
    obtain ⟨T, v', u', rfl, hT, rfl, q1, q2⟩ := q
    have e3 := q1 xs ga
    have e4 := q2 ys gb
    rw [ev] at e3
    rw [eu] at e4
    cases e3
    cases e4
    exact ev_pair dom hT r r'
  · unfold zipD at hl
    rw [List.length_map, List.length_zip] at hl
    rw [← fa.length, ← fb.length]
    omega
/-- the keys of a dict that is not changed -/
theorem FzD.get : ∀ {ds : List (PyData × PyData)} {kvs : List (Key × V)} {i : Nat} {e d : PyData}, FzD K O H ds kvs → ds[i]? = some (e, d) → ∃ k v, kvs[i]? = some (k, v) ∧ Fz K O H e (kV k) ∧ Fz K O H d v
  | [], _, i, _, _, _, e => by simp at e
  | _ :: _, _, 0, _, _, h, e => by
    cases h with
    | cons h1 h2 h3 =>
      simp at e
      obtain ⟨rfl, rfl⟩ := e
      exact ⟨_, _, rfl, h1, h2⟩
  | _ :: ds, _, i + 1, _, _, h, e => by
    cases h with
    | cons h1 h2 h3 =>
      obtain ⟨k, v, e1, e2⟩ := FzD.get (i := i) h3 (by simpa using e)
      exact ⟨k, v, by simpa using e1, e2⟩
theorem FzD.length : ∀ {ds : List (PyData × PyData)} {kvs : List (Key × V)}, FzD K O H ds kvs → ds.length = kvs.length
  | [], _, h => by cases h; rfl
  | d :: ds, _, h => by
    cases h with
    | cons h1 h2 h3 => simp [FzD.length h3]
/-- the keys of a frozen dict -/
theorem itf_keys {ds : List (PyData × PyData)} {a : Addr} {od : Obj} {kvs : List (Key × V)} (hr : H a = some (.frz od (.dK kvs))) (n : O a = none) (fd : FzD K O H ds kvs) : ItF K (Itk a od kvs) O H (ds.map (·.1)) := by
  intro O' H' i dom k
  have h1 := (k _ _ hr n).1
  have fd' := FzD.kp k _ _ fd
  refine ⟨fun d e => ?_, fun hl => ⟨h1, by rw [← fd.length]; simpa using hl⟩⟩
  rw [List.getElem?_map] at e
  obtain ⟨⟨e', d'⟩, q1, q2⟩ := Option.map_eq_some_iff.mp e
  cases q2
  obtain ⟨k', v, q3, r1, r2⟩ := fd'.get q1
  refine ⟨⟨h1, (List.getElem?_eq_some_iff.mp q3).1⟩, fun x H' y => ?_⟩
  obtain ⟨rfl, k2, v2, q4, rfl⟩ := y
  rw [q3] at q4
  cases q4
  exact ⟨Ev.refl dom, r1⟩
end

/-! ### targets -/
def SetsOff (is : List Nat) (σ σ' : L2.St) : Prop := σ'.length = σ.length ∧ ∀ j, j ∉ is → σ'[j]? = σ[j]?
theorem SetsOff.refl (is : List Nat) (σ : L2.St) : SetsOff is σ σ := ⟨rfl, fun _ _ => rfl⟩
theorem SetsOff.trans {is js : List Nat} {σ σ1 σ2 : L2.St} (a : SetsOff is σ σ1) (b : SetsOff js σ1 σ2) : SetsOff (is ++ js) σ σ2 :=
  ⟨b.1.trans a.1, fun j h => (b.2 j fun z => h (List.mem_append_right _ z)).trans (a.2 j fun z => h (List.mem_append_left _ z))⟩
abbrev FG := PyData → Gm → Option Gm
abbrev FGs := List PyData → Gm → Option Gm
def mds (ds : List PyData) : List TV := ds.map fun d => .md (.dat d)
def upG (K : PySem.W.Frag) (np : Nat) (is : List Nat) (g : FG) : TG := fun v σ H Q => ∃ W Γ vs ts d Γ', Cfg K np W σ H Γ (v :: vs) (.md (.dat d) :: ts) ∧ g d Γ = some Γ' ∧ ∀ σ' H', Cfg K np W σ' H' Γ' vs ts → SetsOff is σ σ' → Q σ' H'
def upGs (K : PySem.W.Frag) (np : Nat) (is : List Nat) (g : FGs) : TGs := fun xs σ H Q => ∃ W Γ vs ts ds Γ', Cfg K np W σ H Γ (xs ++ vs) (mds ds ++ ts) ∧ xs.length = ds.length ∧ g ds Γ = some Γ' ∧ ∀ σ' H', Cfg K np W σ' H' Γ' vs ts → SetsOff is σ σ' → Q σ' H'
def FGX (X : Cx) (np : Nat) (is : List Nat) (e : Expr) (g : FG) : Prop := PG X e (upG X.K np is g)
def FGsX (X : Cx) (np : Nat) (is : List Nat) (e : List Expr) (g : FGs) : Prop := PGs X e (upGs X.K np is g)
theorem PG.weak {X : Cx} {e : Expr} {t t' : TG} (h : PG X e t) (w : ∀ v σ H Q, t' v σ H Q → t v σ H Q) : PG X e t' := ⟨fun pins s σ H v u Q I r q => h.run pins s σ H v u Q I r (w v σ H Q q)⟩
theorem PGs.weak {X : Cx} {e : List Expr} {t t' : TGs} (h : PGs X e t) (w : ∀ v σ H Q, t' v σ H Q → t v σ H Q) : PGs X e t' := ⟨fun pins s σ H v u Q I r q => h.run pins s σ H v u Q I r (w v σ H Q q)⟩
section
variable {X : Cx} {np : Nat} {pos : Pos} {is js : List Nat}
def gN (i : Nat) : FG := fun d Γ => if ownAt Γ i = true then none else some (Γ.set i (some (.dat d)))
theorem fg_name {i : Nat} {x : Str} (hN : X.N.Nodup) (hi : X.N[i]? = some x := by rfl) (hx : Loc X.env.scope x := by first | exact Or.inl rfl | exact Or.inr rfl) (hf : X.fn x = true ∨ X.env.scope.names.lookup x = some .local := by first | exact .inl rfl | exact .inr rfl | assumption) :
    FGX X np [i] (.Name x pos) (gN i) := by
  refine PG.weak (pg_name hN hi hx hf) fun v σ H Q h => ?_
  obtain ⟨W, Γ, vs, ts, d, Γ', ⟨O, c⟩, e, q⟩ := h
  unfold gN at e
  split at e
  · cases e
  · rename_i n
    cases e
    refine q _ _ ⟨O, c.storeD (by simpa using n)⟩ ⟨List.length_set, fun j hj => ?_⟩
    rw [List.getElem?_set_ne (by intro z; exact hj (by simp [z]))]
def gsNil : FGs := fun ds Γ => match ds with
  | [] => some Γ
  | _ => none
def gsCons (g : FG) (h : FGs) : FGs := fun ds Γ => match ds with
  | d :: r => (g d Γ).bind (h r)
  | _ => none
theorem fgs_nil : FGsX X np [] [] gsNil := by
  refine PGs.weak pgs_nil fun xs σ H Q h => ?_
  obtain ⟨W, Γ, vs, ts, ds, Γ', c, el, e, q⟩ := h
  unfold gsNil at e
  split at e
  · cases e
    have ex : xs = [] := List.length_eq_zero_iff.mp (by simpa using el)
    subst ex
    exact ⟨rfl, q σ H c (.refl _ _)⟩
  · cases e
theorem fgs_cons {e : Expr} {es : List Expr} {g : FG} {h : FGs} (h1 : FGX X np is e g) (h2 : FGsX X np js es h) (hs : (assignEach (e :: es) X.env).map (·.2) = assign e X.env :: (assignEach es X.env).map (·.2) := by rfl) : FGsX X np (is ++ js) (e :: es) (gsCons g h) := by
  refine PGs.weak (pgs_cons h1 h2 hs) fun xs σ H Q hh => ?_
  obtain ⟨W, Γ, vs, ts, ds, Γ', c, el, e, q⟩ := hh
  unfold gsCons at e
  split at e
  · rename_i d r
    obtain ⟨Γ1, e1, e⟩ := Option.bind_eq_some_iff.mp e
    cases xs with
    | nil => simp at el
    | cons v xs =>
      refine ⟨v, xs, rfl, W, Γ, xs ++ vs, mds r ++ ts, d, Γ1, c, e1, fun σ1 H1 c1 s1 => ?_⟩
      exact ⟨W, Γ1, vs, ts, r, Γ', c1, by simpa using el, e, fun σ2 H2 c2 s2 => q σ2 H2 c2 (s1.trans s2)⟩
  · cases e
def gT (n : Nat) (g : FGs) : FG := fun d Γ => match d with
  | .tuple ds => if ds.length = n then g ds Γ else none
  | _ => none
theorem Cf.pushA {K : PySem.W.Frag} {W : Wd} {O : Own} {σ : L2.St} {H : Hp} {Γ : Gm} {vs : List V} {ts : List TV} (c : Cf K np W O σ H Γ vs ts) : ∀ {ds : List PyData} {xs : List V}, FzA K O H ds xs → Cf K np W O σ H Γ (xs ++ vs) (mds ds ++ ts)
  | [], _, h => by cases h; exact c
  | d :: ds, _, h => by
    cases h with
    | cons h1 h2 => exact (Cf.pushA c h2).push h1
theorem fg_tup {es : List Expr} {k : Nat} {g : FGs} {n : Nat} (hc : X.calm = true) (h : FGsX X np is es g) (hn : (assignEach es X.env).length = n := by rfl) (hst : (assignEach es X.env).findIdx? (·.1) = none := by rfl) : FGX X np is (.Tuple es k pos) (gT n g) := by
  refine PG.weak (pg_tup hc h hn hst) fun v σ H Q hh => ?_
  obtain ⟨W, Γ, vs, ts, d, Γ', ⟨O, c⟩, e, q⟩ := hh
  unfold gT at e
  split at e
  · rename_i ds
    split at e
    · rename_i hl
      obtain ⟨a, xs, rfl, ha, fa⟩ := Fz.sqT c.top
      exact ⟨a, xs, rfl, ha, by rw [← fa.length]; exact hl, W, Γ, vs, ts, ds, Γ', ⟨O, c.pop.pushA fa⟩, fa.length.symm, e, q⟩
    · cases e
  · cases e

/-! ### what is walked -/
variable {f : FE} {e tg : Expr} {fs : FA}
def fIter (f : FE) : FI := fun Γ => (f Γ).bind fun p => match p.1 with
  | .md (.dat d) => (itemsOf d).map fun ds => (ds, p.2)
  | _ => none
theorem fi_seq (he : FX X np e f) : FIX X np tg e (fIter f) := by
  refine PI.weak (PI.or (pi_list he) (pi_tup he)) fun σ H R h => ?_
  obtain ⟨W, Γ, vs, ts, items, Γ', c, e, q⟩ := h
  obtain ⟨⟨t, Γ1⟩, e1, e⟩ := Option.bind_eq_some_iff.mp e
  dsimp only at e
  split at e
  · obtain ⟨ds, e2, e⟩ := Option.map_eq_some_iff.mp e
    cases e
    unfold itemsOf at e2
    split at e2
    · cases e2
      refine .inl ⟨W, Γ, vs, ts, _, _, c, e1, fun v H1 c1 => ?_⟩
      obtain ⟨O, c1⟩ := c1
      have r := c1.top
      obtain ⟨a, xs, rfl, ha, fa, _⟩ := Fz.sqL r
      exact ⟨a, rfl, ⟨xs, .of ha⟩, q _ _ _ c1.pop (itf_list r)⟩
    · cases e2
      refine .inr ⟨W, Γ, vs, ts, _, _, c, e1, fun v H1 c1 => ?_⟩
      obtain ⟨O, c1⟩ := c1
      have r := c1.top
      obtain ⟨a, xs, rfl, ha, fa⟩ := Fz.sqT r
      exact ⟨a, rfl, ⟨xs, ha⟩, q _ _ _ c1.pop (itf_tup r)⟩
    · cases e2
  · cases e
def rgOk (j : Int) : Bool := decide (-(2 ^ 62) ≤ j ∧ j < 2 ^ 62)
theorem rgOk_to {j : Int} (h : rgOk j = true) : -(2 ^ 62) ≤ j ∧ j < 2 ^ 62 := dec1 h
def intT : TV → Option Int
  | .md (.dat (.int j)) => some j
  | _ => none
theorem intT_to {t : TV} {j : Int} (e : intT t = some j) : t = .md (.dat (.int j)) := by
  unfold intT at e
  split at e
  · cases e; rfl
  · cases e
def rg1 (j : Int) : Option (List PyData) := @ite _ (rgOk j = true) (Classical.propDecidable _) (some (rangeD 0 j.toNat)) none
def rg2 (i j : Int) : Option (List PyData) := @ite _ (rgOk i = true ∧ rgOk j = true) (Classical.propDecidable _) (some (rangeD i (j - i).toNat)) none
theorem rg1_to {j : Int} {l : List PyData} (h : rg1 j = some l) : rgOk j = true ∧ l = rangeD 0 j.toNat := by
  unfold rg1 at h
  split at h
  · rename_i h1
    exact ⟨h1, (Option.some.inj h).symm⟩
  · cases h
theorem rg2_to {i j : Int} {l : List PyData} (h : rg2 i j = some l) : (rgOk i = true ∧ rgOk j = true) ∧ l = rangeD i (j - i).toNat := by
  unfold rg2 at h
  split at h
  · rename_i h1
    exact ⟨h1, (Option.some.inj h).symm⟩
  · cases h
def fRange1 (f : FE) : FI := fun Γ => (f Γ).bind fun p => (intT p.1).bind fun j => (rg1 j).map fun l => (l, p.2)
theorem fi_range1 {a : Expr} {p : Pos} (hm : X.mg "range" = none) (ha : FX X np a f) (hg : Gl X "range" := by rfl) (hs : starEach [a] X.env = (false, eval a X.env) :: starEach [] X.env := by rfl) (hs' : starEach [a] X.env = [(false, eval a X.env)] := by rfl) :
    FIX X np tg (.Call (.Name "range" p) [a] [] pos) (fRange1 f) := by
  refine PI.weak (pi_range1 hg hm (pa_cons ha pa_nil hs) hs') fun σ H R h => ?_
  obtain ⟨W, Γ, vs, ts, items, Γ', c, e, q⟩ := h
  obtain ⟨⟨t, Γ1⟩, e1, e⟩ := Option.bind_eq_some_iff.mp e
  obtain ⟨j, e2, e⟩ := Option.bind_eq_some_iff.mp e
  obtain ⟨l, e3, e⟩ := Option.map_eq_some_iff.mp e
  cases e
  have tj : t = .md (.dat (.int j)) := intT_to e2
  subst tj
  refine ⟨W, Γ, vs, ts, _, Γ1, c, e1, fun v H1 c1 => ?_⟩
  obtain ⟨O, c1⟩ := c1
  have r : Fz X.K O H1 (.int j) v := c1.top
  cases r
  obtain ⟨hj, el⟩ := rg1_to e3
  obtain ⟨k1, k2⟩ := rgOk_to hj
  exact ⟨j, rfl, k1, k2, q _ _ _ c1.pop (by rw [el]; exact itf_range)⟩
def fRange2 (fa fb : FE) : FI := fun Γ => (fa Γ).bind fun p => (fb p.2).bind fun p2 => (intT p.1).bind fun i => (intT p2.1).bind fun j => (rg2 i j).map fun l => (l, p2.2)
theorem fi_range2 {a b : Expr} {fa fb : FE} {p : Pos} (hm : X.mg "range" = none) (ha : FX X np a fa) (hb : FX X np b fb) (hg : Gl X "range" := by rfl) (hs : starEach [a, b] X.env = (false, eval a X.env) :: starEach [b] X.env := by rfl)
    (hs1 : starEach [b] X.env = (false, eval b X.env) :: starEach [] X.env := by rfl) (hs' : starEach [a, b] X.env = [(false, eval a X.env), (false, eval b X.env)] := by rfl) (hs2 : starEach [b] X.env = [(false, eval b X.env)] := by rfl) :
    FIX X np tg (.Call (.Name "range" p) [a, b] [] pos) (fRange2 fa fb) := by
  refine PI.weak (pi_range2 hg hm (pa_cons ha (pa_cons hb pa_nil hs1) hs) hs' hs2) fun σ H R h => ?_
  obtain ⟨W, Γ, vs, ts, items, Γ', c, e, q⟩ := h
  obtain ⟨⟨t, Γ1⟩, e1, e⟩ := Option.bind_eq_some_iff.mp e
  obtain ⟨⟨t2, Γ2⟩, e2, e⟩ := Option.bind_eq_some_iff.mp e
  obtain ⟨i, ei, e4⟩ := Option.bind_eq_some_iff.mp e
  obtain ⟨j, ej, e5⟩ := Option.bind_eq_some_iff.mp e4
  obtain ⟨l, e6, e7⟩ := Option.map_eq_some_iff.mp e5
  cases e7
  refine ⟨W, Γ, vs, ts, t, Γ1, c, e1, fun v H1 c1 => ⟨W, Γ1, v :: vs, t :: ts, t2, Γ2, c1, e2, fun w H2 c2 => ?_⟩⟩
  have ti := intT_to ei
  have tj := intT_to ej
  dsimp only at ti tj
  subst ti
  subst tj
  obtain ⟨hj, el⟩ := rg2_to e6
  obtain ⟨O, c2⟩ := c2
  have r : Fz X.K O H2 (.int j) w := c2.top
  have r' : Fz X.K O H2 (.int i) v := c2.pop.top
  cases r
  cases r'
  obtain ⟨k1, k2⟩ := rgOk_to hj.1
  obtain ⟨k3, k4⟩ := rgOk_to hj.2
  exact ⟨i, j, rfl, ⟨k1, k2, k3, k4⟩, q _ _ _ c2.pop.pop (by rw [el]; exact itf_range)⟩
/-- enumerate of a list -/
def fEnumL (f : FE) : FI := fun Γ => (f Γ).bind fun p => match p.1 with
  | .md (.dat (.list ds)) => some (enumD ds, p.2)
  | _ => none
theorem fi_enumL {a : Expr} {p tpos : Pos} {elts : List Expr} {kk : Nat} (hm : X.mg "enumerate" = none) (ha : FX X np a f) (hg : Gl X "enumerate" := by rfl) (hs : starEach [a] X.env = (false, eval a X.env) :: starEach [] X.env := by rfl) (hs' : starEach [a] X.env = [(false, eval a X.env)] := by rfl) :
    FIX X np (.Tuple elts kk tpos) (.Call (.Name "enumerate" p) [a] [] pos) (fEnumL f) := by
  refine PI.weak (pi_enum hg hm (pa_cons ha pa_nil hs) hs') fun σ H R h => ?_
  obtain ⟨W, Γ, vs, ts, items, Γ', c, e, q⟩ := h
  obtain ⟨⟨t, Γ1⟩, e1, e⟩ := Option.bind_eq_some_iff.mp e
  refine ⟨W, Γ, vs, ts, t, Γ1, c, e1, fun v H1 c1 => ?_⟩
  dsimp only at e
  split at e
  · cases e
    obtain ⟨O, c1⟩ := c1
    have r := c1.top
    obtain ⟨a, xs, rfl, ha, fa, _⟩ := Fz.sqL r
    exact ⟨a, xs, rfl, .of ha, q _ _ _ c1.pop (itf_enum r)⟩
  · cases e

/-! ### for -/
def loopS (tg : FG) (b : FS) : List PyData → Gm → Option Out
  | [], Γ => some (.nx Γ)
  | d :: r, Γ => (tg d Γ).bind fun Γ1 => (b Γ1).bind fun o => match o with
    | .nx Γ2 => loopS tg b r Γ2
    | .ct Γ2 => loopS tg b r Γ2
    | .bk Γ2 => some (.nx Γ2)
    | .rt m Γ2 => some (.rt m Γ2)
def fFor (fi : FI) (tg : FG) (b : FS) : FS := fun Γ => (fi Γ).bind fun p => loopS tg b p.1 p.2
theorem ItF.step {K : PySem.W.Frag} {np : Nat} {J : It} {O1 : Own} {H1 : Hp} {items : List PyData} (h : ItF K J O1 H1 items) {W : Wd} {O : Own} {σ : L2.St} {H : Hp} {Γ : Gm} {vs : List V} {ts : List TV} (i : Nat) (c : Cf K np (W.at O1 H1) O σ H Γ vs ts) :
    (∀ d, items[i]? = some d → J.go i H ∧ ∀ x H', J.yld i H x H' → Cfg K np (W.at O1 H1) σ H' Γ (x :: vs) (.md (.dat d) :: ts)) ∧ (items.length ≤ i → J.stop i H) := by
  obtain ⟨h1, h2⟩ := h O H i c.dom c.kpAt
  refine ⟨fun d e => ?_, h2⟩
  obtain ⟨g, y⟩ := h1 d e
  refine ⟨g, fun x H' q => ?_⟩
  obtain ⟨a, r⟩ := y x H' q
  exact ⟨O, (c.ev0 a).push r⟩
theorem fs_for {iter target : Expr} {body : List Stmt} {fi : FI} {g : FG} {b : FS} (hp : PassesOwn (model X.prog X.w) X.A X.env X.xe) (hc : X.calm = true) (hi : FIX X np target iter fi) (hg : FGX X np is target g) (hb : FSsX X np body b)
    (hs : ∀ x, foldedSetIterable iter X.env x = pure x := by intro _; rfl) : FSX X np (.For target iter body [] pos) (fFor fi g b) := by
  refine PS.weak (ps_for hp hc hi hg hb hs) fun D σ H h => ?_
  obtain ⟨W, Γ, vs, ds, o, c, e, q⟩ := h
  obtain ⟨⟨items, Γ1⟩, e1, e⟩ := Option.bind_eq_some_iff.mp e
  refine ⟨W, Γ, vs, tsd ds, items, Γ1, c, e1, fun J O1 H1 c1 itf => ?_⟩
  refine ⟨fun i m σ H => i + m = items.length ∧ ∃ Γi, Cfg X.K np (W.at O1 H1) σ H Γi vs (tsd ds) ∧ loopS g b (items.drop i) Γi = some o, ⟨items.length, by simp, Γ1, ⟨O1, c1.rebase⟩, e⟩, ?_⟩
  rintro i m σ H ⟨hl, Γi, ⟨O, ci⟩, ei⟩
  obtain ⟨s1, s2⟩ := itf.step i ci
  cases m with
  | zero =>
    have hi' : items.length ≤ i := by omega
    rw [List.drop_eq_nil_of_le hi'] at ei
    cases ei
    exact .inl ⟨s2 hi', q σ H ⟨O, c1.unbase ci⟩⟩
  | succ m =>
    have hi' : i < items.length := by omega
    have ed : items[i]? = some items[i] := List.getElem?_eq_getElem hi'
    obtain ⟨go, y⟩ := s1 _ ed
    rw [List.drop_eq_getElem_cons hi'] at ei
    obtain ⟨Γ2, e2, ei⟩ := Option.bind_eq_some_iff.mp ei
    obtain ⟨o1, e3, ei⟩ := Option.bind_eq_some_iff.mp ei
    refine .inr ⟨go, fun σ H => ∃ Γi, Cfg X.K np (W.at O1 H1) σ H Γi vs (tsd ds) ∧ loopS g b (items.drop (i + 1)) Γi = some o, fun σ' H' w => ⟨m, Nat.lt_succ_self _, by omega, w⟩, fun x H2 hy => ?_⟩
    refine ⟨W.at O1 H1, Γi, vs, tsd ds, _, Γ2, y x H2 hy, e2, fun σ3 H3 c3 _ => ?_⟩
    refine ⟨W.at O1 H1, Γ2, vs, ds, o1, c3, e3, ?_⟩
    cases o1 with
    | nx Γ3 => exact fun σ' H' c' => ⟨Γ3, c', ei⟩
    | ct Γ3 => exact fun σ' H' c' => ⟨Γ3, c', ei⟩
    | bk Γ3 =>
      cases ei
      exact fun σ' H' ⟨O', c'⟩ => q σ' H' ⟨O', c1.unbase c'⟩
    | rt r Γ3 =>
      cases ei
      exact fun v σ' H' ⟨O', c'⟩ => q v σ' H' ⟨O', c1.unbase c'⟩

/-! ### list comprehensions -/
def loopC (tg : FG) (tt : FT) (fe : FE) (own : List Nat) : List PyData → List PyData → Gm → Option (List PyData × Gm)
  | [], acc, Γ => some (acc, Γ)
  | d :: r, acc, Γ => (tg d Γ).bind fun Γ1 => (tt Γ1).bind fun p => if p.1 = true then (fe p.2).bind fun q => (frz q.1).bind fun y => if acc.length < sizeLine then loopC tg tt fe own r (acc ++ [y]) (fgt q.2 own) else none
    else loopC tg tt fe own r acc (fgt p.2 own)
def fComp (ow : Bool) (fi : FI) (tg : FG) (tt : FT) (fe : FE) (own : List Nat) : FE := fun Γ => (fi Γ).bind fun p => (loopC tg tt fe own p.1 [] (fgt p.2 own)).map fun q => ((Res.new q.1).fin ow, q.2)
def FTsX (X : Cx) (np : Nat) (es : List Expr) (f : FT) : Prop := PTs X es (upT X.K np f)
def tYesF : FT := fun Γ => some (true, Γ)
theorem fts_nil : FTsX X np [] tYesF := by
  have h := pts_nil (X := X)
  refine ⟨fun pins s σ H Q I hw => h.run pins s σ H Q I ?_⟩
  obtain ⟨W, Γ, vs, ts, b, Γ', c, e, q⟩ := hw
  cases e
  exact q H c
theorem fts_one {c : Expr} {t : FT} (h : FTX X np c t) : FTsX X np [c] t := pts_one h
theorem wipe_at {σ : L2.St} {j : Nat} : ∀ {is : List Nat}, j ∉ is → (L2.wipe σ is)[j]? = σ[j]?
  | [], _ => rfl
  | i :: is, h => by
    unfold L2.wipe
    rw [List.getElem?_set_ne (by rintro rfl; exact h List.mem_cons_self)]
    exact wipe_at fun z => h (List.mem_cons_of_mem _ z)
theorem wipe_in {σ : L2.St} {j : Nat} (hj : j < σ.length) : ∀ {is : List Nat}, j ∈ is → (L2.wipe σ is)[j]? = some none
  | i :: is, h => by
    unfold L2.wipe
    by_cases e : i = j
    · subst e
      rw [List.getElem?_set_self (by rw [L2.wipe_length]; exact hj)]
    · rw [List.getElem?_set_ne e]
      exact wipe_in hj ((List.mem_cons.mp h).resolve_left fun z => e z.symm)
theorem wipe_ext {σ σ' : L2.St} {is : List Nat} (hl : σ'.length = σ.length) (h : ∀ j, j ∉ is → σ'[j]? = σ[j]?) : L2.wipe σ' is = L2.wipe σ is := by
  apply List.ext_getElem?
  intro j
  by_cases hj : j ∈ is
  · by_cases hl' : j < σ.length
    · rw [wipe_in hl' hj, wipe_in (by omega) hj]
    · rw [List.getElem?_eq_none (by rw [L2.wipe_length]; omega), List.getElem?_eq_none (by rw [L2.wipe_length]; omega)]
  · rw [wipe_at hj, wipe_at hj, h j hj]
theorem wipe_wipe (σ : L2.St) (is : List Nat) : L2.wipe (L2.wipe σ is) is = L2.wipe σ is := wipe_ext (L2.wipe_length _ _) fun j h => wipe_at h
/-- temporaries that name no slot of is -/
theorem Tm.wipe {K : PySem.W.Frag} {O : Own} {σ σ' : L2.St} {H : Hp} {Γ : Gm} (is : List Nat) (h : ∀ j, j ∉ is → σ'[j]? = σ[j]?) (n : ∀ j, j ∈ is → ownAt Γ j = false) : ∀ {vs : List V} {ts : List TV}, Tm K O H σ Γ vs ts → Tm K O H σ' (fgt Γ is) vs ts
  | [], [], _ => True.intro
  | w :: vs, t :: ts, hh => by
    refine ⟨?_, Tm.wipe is h n (vs := vs) (ts := ts) hh.2⟩
    have h1 := hh.1
    cases t with
    | md m => exact h1
    | al j =>
      obtain ⟨e, m, e1, e2⟩ := h1
      have hj : j ∉ is := fun z => by
        have := n j z
        simp only [ownAt, e1] at this
        rw [this] at e2
        cases e2
      refine ⟨(h j hj).trans e, m, ?_, e2⟩
      have go : ∀ {is : List Nat}, j ∉ is → (fgt Γ is)[j]? = Γ[j]? := by
        intro is
        induction is with
        | nil => intro _; rfl
        | cons i is ih =>
          intro hn
          unfold fgt
          rw [List.getElem?_set_ne (by rintro rfl; exact hn List.mem_cons_self)]
          exact ih fun z => hn (List.mem_cons_of_mem _ z)
      rw [go hj]
      exact e1
  | [], _ :: _, h => h.elim
  | _ :: _, [], h => h.elim
/-- into a block: the block's own slots forgotten -/
theorem Cf.inBlk {K : PySem.W.Frag} {W : Wd} {O : Own} {σ σ' : L2.St} {H : Hp} {Γ : Gm} {vs : List V} {ts : List TV} (is : List Nat) (c : Cf K np W O σ H Γ vs ts) (hl : σ'.length = σ.length) (h : ∀ j, j ∉ is → σ'[j]? = σ[j]?) (n : ∀ j, j ∈ is → ownAt Γ j = false) : Cf K np W O σ' H (fgt Γ is) vs ts :=
  ⟨c.dom, fun j m e => by
    obtain ⟨e1, e2⟩ := fgt_some e
    obtain ⟨v, e3, r⟩ := c.sl j m e1
    exact ⟨v, (h j e2).trans e3, r⟩, Tm.wipe is h n c.tm, c.keep, c.out, c.wt, fun j m hj e ho => by
    obtain ⟨e1, e2⟩ := fgt_some e
    exact (h j e2).trans (c.arg j m hj e1 ho), by rw [fgt_len, hl]; exact c.len⟩
def noOwn (Γ : Gm) (is : List Nat) : Bool := is.all fun j => !ownAt Γ j
theorem noOwn_to {Γ : Gm} {is : List Nat} (h : noOwn Γ is = true) : ∀ j, j ∈ is → ownAt Γ j = false := fun j hj => by
  have := List.all_eq_true.mp h j hj
  simpa using this
end
end Fx

end

/-! Fx8: list comprehensions -/
noncomputable section
namespace Fx
open PySem PySem.Spec PyProof.Rows L2

section
variable {K : PySem.W.Frag} {np : Nat} {W : Wd} {O O' : Own} {σ σ' : L2.St} {H H' : Hp} {Γ Γ' : Gm}
theorem ownAt_fgt {Γ : Gm} {is : List Nat} : ∀ j, j ∈ is → ownAt (fgt Γ is) j = false := fun j hj => by
  unfold ownAt
  split
  · rename_i m hm
    exact absurd hj (fgt_some hm).2
  · rfl
theorem Cf.underT {vs : List V} {ts : List TV} {m : MD} {v w : V} {t : TV} (c : Cf K np W O σ H Γ (v :: w :: vs) (.md m :: t :: ts)) : Cfg K np W σ H Γ (v :: vs) (.md m :: ts) := by
  have a : Ev (· = .tmp (t :: ts).length) O H (retag O (.tmp (t :: ts).length) (some (.tmp ts.length))) H := Ev.retag (by simp) c.dom
  have c2 := c.pop.pop.ev a (by simp) (by simp) (fun k z => by injection z with z; simp at z ⊢; omega)
  exact ⟨_, c2.push (MR.move c.dom (by simp) c.top)⟩
end
def loopL (tg : FG) (tt : FT) (fe : FE) (own : List Nat) : List PyData → List PyData → Gm → Option (List PyData × Gm)
  | [], acc, Γ => some (acc, Γ)
  | d :: r, acc, Γ => (tg d Γ).bind fun Γ1 => (tt Γ1).bind fun p => if p.1 = true then (fe p.2).bind fun q => (frz q.1).bind fun y => if acc.length < sizeLine ∧ noOwn q.2 own = true then loopL tg tt fe own r (acc ++ [y]) (fgt q.2 own) else none
    else if noOwn p.2 own = true then loopL tg tt fe own r acc (fgt p.2 own) else none
def fLc (ow : Bool) (fi : FI) (tg : FG) (tt : FT) (fe : FE) (own : List Nat) : FE := fun Γ => (fi Γ).bind fun p => if noOwn p.2 own = true then (loopL tg tt fe own p.1 [] (fgt p.2 own)).map fun q => ((Res.new q.1).fin ow, fgt q.2 own) else none
section
variable {X : Cx} {np : Nat} {pos : Pos} {is : List Nat}
theorem lc_read {ow : Bool} {fi : FI} {g : FG} {tt : FT} {fe : FE} {own : List Nat} (hsub : ∀ i ∈ is, i ∈ own) {σ : L2.St} {H : Hp} {Q : VK} (h : up X.K np (fLc ow fi g tt fe own) σ H Q) :
    tLc (upI X.K np fi) (upG X.K np is g) (upT X.K np tt) (up X.K np fe) own σ H Q := by
  obtain ⟨W, Γ, vs, ts, t, Γ', c, e, q⟩ := h
  obtain ⟨⟨items, Γ1⟩, e1, e⟩ := Option.bind_eq_some_iff.mp e
  dsimp only at e
  split at e
  · rename_i hno
    obtain ⟨⟨out, Γ9⟩, e9, ex⟩ := Option.map_eq_some_iff.mp e
    cases ex
    have hw : ∀ j, j ∉ own → (L2.wipe σ own)[j]? = σ[j]? := fun j hj => wipe_at hj
    refine ⟨W, Γ, vs, ts, items, Γ1, c, e1, fun J O1 H1 c1 itf D hD => ?_⟩
    refine ⟨fun i m H => i + m = items.length ∧ ∃ acc Γi, Cfg X.K np (W.at O1 H1) (L2.wipe σ own) H Γi (.ref D :: vs) (.md (.lst acc) :: ts) ∧ (∀ j, j ∈ own → ownAt Γi j = false) ∧ loopL g tt fe own (items.drop i) acc Γi = some (out, Γ9), ⟨items.length, by simp, [], fgt Γ1 own, ?_, ownAt_fgt, e9⟩, ?_⟩
    · have a := Ev.newOwn (o := .lst []) (t := .tmp ts.length) (by simp) c1.dom hD
      have c2 := (c1.rebase.ev0 a).push (v := .ref D) (t := .md (.lst [])) ⟨D, [], rfl, put_same, upd_same, .nil⟩
      exact ⟨_, c2.inBlk own (L2.wipe_length _ _) hw (noOwn_to hno)⟩
    · rintro i m H ⟨hl, acc, Γi, ⟨O, ci⟩, hoi, ei⟩
      obtain ⟨s1, s2⟩ := itf.step i ci
      cases m with
      | zero =>
        have hi' : items.length ≤ i := by omega
        rw [List.drop_eq_nil_of_le hi'] at ei
        cases ei
        refine .inl ⟨s2 hi', ?_⟩
        have c3 := ci.inBlk (σ' := σ) own (L2.wipe_length _ _).symm (fun j hj => (hw j hj).symm) hoi
        have c4 := c1.unbase c3
        cases ow with
        | true => exact q _ H ⟨_, c4⟩
        | false => exact q _ H (c4.frzTop rfl)
      | succ m =>
        have hi' : i < items.length := by omega
        have ed : items[i]? = some items[i] := List.getElem?_eq_getElem hi'
        obtain ⟨go, y⟩ := s1 _ ed
        rw [List.drop_eq_getElem_cons hi'] at ei
        obtain ⟨Γ2, e2, ei⟩ := Option.bind_eq_some_iff.mp ei
        obtain ⟨⟨b, Γ3⟩, e3, ei⟩ := Option.bind_eq_some_iff.mp ei
        refine .inr ⟨go, fun H => ∃ acc Γi, Cfg X.K np (W.at O1 H1) (L2.wipe σ own) H Γi (.ref D :: vs) (.md (.lst acc) :: ts) ∧ (∀ j, j ∈ own → ownAt Γi j = false) ∧ loopL g tt fe own (items.drop (i + 1)) acc Γi = some (out, Γ9), fun H' w => ⟨m, Nat.lt_succ_self _, by omega, w⟩, fun x H2 hy => ?_⟩
        refine ⟨W.at O1 H1, Γi, _, _, _, Γ2, y x H2 hy, e2, fun σ3 H3 c3 off => ?_⟩
        have hoff : ∀ j, j ∉ own → (L2.wipe σ own)[j]? = σ3[j]? := fun j hj => (off.2 j fun z => hj (hsub j z)).symm
        have hlen : (L2.wipe σ own).length = σ3.length := off.1.symm
        refine ⟨by rw [wipe_ext (σ := L2.wipe σ own) hlen.symm fun j hj => (hoff j hj).symm, wipe_wipe], ?_⟩
        refine ⟨W.at O1 H1, Γ2, _, _, b, Γ3, c3, e3, fun H4 c4 => ?_⟩
        cases b with
        | false =>
          refine iteF ?_
          dsimp only at ei
          rw [if_neg (by simp)] at ei
          split at ei
          · rename_i hno3
            obtain ⟨O4, c4⟩ := c4
            exact ⟨acc, fgt Γ3 own, ⟨O4, c4.inBlk own hlen hoff (noOwn_to hno3)⟩, ownAt_fgt, ei⟩
          · cases ei
        | true =>
          dsimp only at ei
          rw [if_pos rfl] at ei
          obtain ⟨⟨t5, Γ5⟩, e5, ei⟩ := Option.bind_eq_some_iff.mp ei
          obtain ⟨yd, e6, ei⟩ := Option.bind_eq_some_iff.mp ei
          dsimp only at ei
          split at ei
          · rename_i hno5
            refine iteT ⟨W.at O1 H1, Γ3, _, _, t5, Γ5, c4, e5, fun y H5 c5 => ?_⟩
            obtain ⟨O5, c5⟩ := c5
            obtain ⟨a, ws, ea, oa, ha, fa⟩ := c5.pop.top
            cases ea
            have ry : Fz X.K O5 H5 yd y := by
              have := c5.top
              have e6' : t5 = .md (.dat yd) := frz_to e6
              rw [e6'] at this
              exact this
            refine ⟨ws, ha, by rw [← fa.length]; exact hno5.1, acc ++ [yd], fgt Γ5 own, ?_, ownAt_fgt, ei⟩
            have w := Ev.write (o := .lst (ws ++ [y])) c5.dom oa
            have c6 := c5.pop.pop.ev w (by simp) (by simp) (fun k z => by injection z with z; omega)
            have c7 := c6.push (v := .ref D) (t := .md (.lst (acc ++ [yd]))) ⟨D, ws ++ [y], rfl, oa, upd_same, (FzA.kp w.k _ _ fa).append (.cons (Fz.kp w.k _ _ ry) .nil)⟩
            exact ⟨_, c7.inBlk own hlen hoff (noOwn_to hno5.2)⟩
          · cases ei
  · cases e
theorem fx_lc {ow : Bool} {elt tg iter : Expr} {ifs : List Expr} {scope : Scope} {own : List (Str × Nat)} {fi : FI} {g : FG} {tt : FT} {fe : FE} (hc : X.calm = true) (hN : X.N.Nodup) (hi : FIX X np tg iter fi) (ok : BlkOk X.N X.env.scope scope own)
    (hg : ∀ (s : Shared) (H : Hp) (C : Addr) (cl : List (Str × Addr)) (fp : List Addr), FGX (X.blk s H scope (compEnvC scope cl C X.env) fp) np is tg g) (ht : ∀ (s : Shared) (H : Hp) (C : Addr) (cl : List (Str × Addr)) (fp : List Addr), FTsX (X.blk s H scope (compEnvC scope cl C X.env) fp) np ifs tt)
    (he : ∀ (s : Shared) (H : Hp) (C : Addr) (cl : List (Str × Addr)) (fp : List Addr), FX (X.blk s H scope (compEnvC scope cl C X.env) fp) np elt fe) (hsub : ∀ i ∈ is, i ∈ own.map (·.2) := by decide) (hs : ∀ x, foldedSetIterable iter X.env x = pure x := by intro _; rfl) :
    FX X np (.ListComp elt [⟨tg, iter, ifs, 0⟩] scope pos) (fLc ow fi g tt fe (own.map (·.2))) :=
  PE.weak (pe_lc (g := upG X.K np is g) (tt := upT X.K np tt) (te := up X.K np fe) hc hN hi ok hg ht he hs) fun _ _ _ h => lc_read hsub h
/-- y = [..] on one line -/
theorem fs_setLc {ow : Bool} {i : Nat} {y : Str} {py : Pos} {elt tg iter : Expr} {ifs : List Expr} {scope : Scope} {own : List (Str × Nat)} {spos : Pos} {fi : FI} {g : FG} {tt : FT} {fe : FE} (hc : X.calm = true) (hN : X.N.Nodup) (hyl : X.env.scope.names.lookup y = some .local)
    (hsw : swapsWith (.ListComp elt [⟨tg, iter, ifs, 0⟩] scope pos) (some (.Name y py)) spos.line X.env = pure true) (hi : FIX X np tg iter fi) (ok : BlkOk X.N X.env.scope scope own)
    (hg : ∀ (s : Shared) (H : Hp) (C : Addr) (cl : List (Str × Addr)) (fp : List Addr), FGX (X.blk s H scope (compEnvC scope cl C X.env) fp) np is tg g) (ht : ∀ (s : Shared) (H : Hp) (C : Addr) (cl : List (Str × Addr)) (fp : List Addr), FTsX (X.blk s H scope (compEnvC scope cl C X.env) fp) np ifs tt)
    (he : ∀ (s : Shared) (H : Hp) (C : Addr) (cl : List (Str × Addr)) (fp : List Addr), FX (X.blk s H scope (compEnvC scope cl C X.env) fp) np elt fe) (hy : X.N[i]? = some y := by rfl) (hsub : ∀ i ∈ is, i ∈ own.map (·.2) := by decide) (hs : ∀ x, foldedSetIterable iter X.env x = pure x := by intro _; rfl) :
    FSX X np (.Assign [.Name y py] (.ListComp elt [⟨tg, iter, ifs, 0⟩] scope pos) spos) (fSet np i (fLc ow fi g tt fe (own.map (·.2)))) := by
  refine PS.weak (ps_setLc (g := upG X.K np is g) (tt := upT X.K np tt) (te := up X.K np fe) hc hN hy hyl hsw hi ok hg ht he hs) fun D σ H h => ?_
  obtain ⟨W, Γ, vs, ds, o, c, e, q⟩ := h
  obtain ⟨⟨t, Γ1⟩, e1, e⟩ := Option.bind_eq_some_iff.mp e
  refine lc_read (np := np) (ow := ow) hsub ⟨W, Γ, vs, tsd ds, t, Γ1, c, e1, fun v H1 c1 => ?_⟩
  obtain ⟨O, c1⟩ := c1
  cases t with
  | md m =>
    dsimp only at e
    split at e
    · cases e
    · rename_i hm
      cases e
      exact q _ _ (c1.store hm)
  | al j => cases e
end
end Fx

end

/-! Fx0: a def's contract where no repr is under way (so that repr of what a def is handed can be told) -/
noncomputable section
namespace Fx
open PySem PySem.Spec PyProof.Rows L2

/-- room, and no repr under way -/
structure RoomG (k : Nat) (A : Around) : Prop where
  r : Room k A
  g : A.guards = some []
theorem RoomG.mono {j k : Nat} {A : Around} (h : RoomG k A) (le : j ≤ k) : RoomG j A := ⟨h.r.mono le, h.g⟩
theorem RoomG.deeper {k : Nat} {A : Around} (h : RoomG (k + 1) A) (env : Env) : RoomG k (A.deeper env) := ⟨h.r.deeper env, h.g⟩
theorem RoomG.units {k : Nat} {A : Around} (h : RoomG k A) : A.units + 64 < cLine := h.r.units
/-- a def that keeps sp wherever there is room and no repr is under way; it raises nothing -/
structure FnG (P : Program) (w : World) (K : PySem.W.Frag) (mg : Str → Option Value) (base : Heap) (k : Nat) (f : Addr) (fd : FuncData) (ps : List Str) (sp : Sp) : Prop where
  many : ∀ (vs : List V) (H : Hp) (Q : VK) (E : XK), sp vs H Q E → vs.length = ps.length
  go : ∀ {A : Around} {fr : List Env} {s : Shared} {H : Hp} {as : Args} {us : List Value} {vs : List V} {Q : VK} {E : XK}, RoomG k A → Env0 P w K mg base A fr s H → BindsTo s fd as (ps.zip us) → Vals vs us →
    sp vs H Q E → codeAny (model P w) A (.call (.ref f) as) (CR CX0 fr P w H s Q E) s
section
variable {P : Program} {w : World} {K : PySem.W.Frag} {mg : Str → Option Value} {base : Heap}
theorem FnG.mono {j k : Nat} {f : Addr} {fd : FuncData} {ps : List Str} {sp : Sp} (G : FnG P w K mg base j f fd ps sp) (le : j ≤ k) : FnG P w K mg base k f fd ps sp :=
  ⟨G.many, fun hr => G.go (hr.mono le)⟩
theorem FnG.imp {k : Nat} {f : Addr} {fd : FuncData} {ps : List Str} {sp tp : Sp} (G : FnG P w K mg base k f fd ps sp) (h : ∀ vs H Q E, tp vs H Q E → sp vs H Q E) : FnG P w K mg base k f fd ps tp :=
  ⟨fun vs H Q E q => G.many vs H Q E (h _ _ _ _ q), fun hr e b r q => G.go hr e b r (h _ _ _ _ q)⟩
/-- from what a body does -/
theorem fnG_of {x qual : Str} {st : Stmt} {f : Addr} {fd : FuncData} {N ps : List Str} {k : Nat} {sp : Sp} (F : Fun K x qual st f fd) (S : FnScope N ps (defScope st)) (many : ∀ vs H Q E, sp vs H Q E → vs.length = ps.length)
    (body : ∀ (cdv : Value) (A : Around) (fr : List Env) (s : Shared) (H : Hp) (vs : List V) (Q : VK) (E : XK), RoomG k (A.deeper (envOfC qual (defScope st) s.heap.objs.size f cdv)) → sp vs H Q E →
      ∃ t, PSs (cxOf CX0 P w K mg base N qual (defScope st) f cdv A fr s H E).nox (defBody st) t ∧ t { nx := fun _ H' => Q .non H', rt := Q } (L2.start N vs) H) : FnG P w K mg base (k + 1) f fd ps sp := by
  obtain ⟨oc, od, kV, doc, pm, an, cdv, ct, osl, rfl, lk, hcd⟩ := F.ex
  refine ⟨many, ?_⟩
  intro A fr s H as us vs Q E hr e0 hb r hsp
  have same := fun b o (e : base.get? b = some o) => (e0.bs b o e).1
  have inK : K.In s.heap := e0.mod.kin.keeps same
  have noL : s.heap.NoLimit := e0.mod.nolimit.keeps same
  have kinds : ∀ y ∈ ps.zip us, (defScope st).names.lookup y.1 = some .local ∨ ((defScope st).names.lookup y.1 = some .cell ∧ ((cellsFrom (s.heap.objs.size + 1) (defScope st).names []).lookup y.1).isSome = true) := by
    rintro ⟨n, v⟩ hy
    rcases S.par n (List.of_mem_zip hy).1 with q | q
    · exact Or.inl q
    · exact Or.inr ⟨q, PySem.W.cellsFrom_some _ _ _ (Or.inl q)⟩
  refine codeAny_call_function hr.r.depth (inK _ _ lk) rfl S.co S.gen rfl (PySem.W.codeRec_of inK hcd) (hb _ _ _ _ ?_)
  refine wpAny_newFunctionEnv_cells S.kind kinds ?_
  rintro env rfl s1 x
  refine ⟨noL.keeps x.toInCall.keep, codeAny_func ?_⟩
  obtain ⟨t, ht, hq⟩ := body cdv A fr s H vs Q E (hr.deeper _) hsp
  have I := inv_start (CX := CX0) (E := E) S hr.r.hd e0 (many _ _ _ _ hsp) r x
  refine wpAny_mono (ht.nox.run [] s1 (L2.start N vs) H _ I hq) ?_ fun e s' hs => hs
  intro fl s' hs
  cases fl with
  | next =>
    obtain ⟨σ2, H2, J, q⟩ := hs
    exact ⟨V.non, H2, J.os, J.bare, J.base, J.hok, rfl, q⟩
  | ret u =>
    obtain ⟨v, σ2, H2, J, rv, q⟩ := hs
    exact ⟨v, H2, J.os, J.bare, J.base, J.hok, rv, q⟩
  | brk => exact (let ⟨_, _, _, q⟩ := hs; False.elim q)
  | cont => exact (let ⟨_, _, _, q⟩ := hs; False.elim q)
end
/-! ### calls -/
section
variable {X : Cx} {k : Nat} {f : Addr} {fd : FuncData} {ps : List Str} {sp : Sp} {x : Str} {p pos : Pos} {e : Expr} {es : List Expr} {t : TA}
theorem runG {pins : List (Addr × Obj)} {σ : L2.St} {H : Hp} {s : Shared} {Q : VK} {as : Args} {us : List Value} {vs : List V} (G : FnG X.prog X.w X.K X.mg X.base k f fd ps sp) (hr : RoomG k X.A) (I : Inv X pins σ H s) (b : BindsTo s fd as (ps.zip us)) (r : Vals vs us)
    (h : sp vs H Q E0) : codeAny (model X.prog X.w) X.A (.call (.ref f) as) (fun r s' => match r with
      | .ok (.ret u) => EP X pins σ Q u s'
      | _ => False) s := by
  refine codeAny_mono (G.go hr I.env0 b r h) ?_
  intro r s' hq
  cases r with
  | error e => exact False.elim hq
  | ok fl =>
    cases fl with
    | ret u => exact I.after hq
    | next => exact False.elim hq
    | brk => exact False.elim hq
    | cont => exact False.elim hq
theorem callG {pins : List (Addr × Obj)} {σ : L2.St} {H : Hp} {s : Shared} {Q : VK} {us : List Value} {vs : List V} (G : FnG X.prog X.w X.K X.mg X.base k f fd ps sp) (hr : RoomG k X.A) (hb : Binds X.K fd ps []) (I : Inv X pins σ H s) (r : Vals vs us) (h : sp vs H Q E0) :
    wpAny (model X.prog X.w) X.A (call (.ref f) us) (EP X pins σ Q) X.xe s := by
  have hl : (us ++ []).length = ps.length := by
    rw [List.append_nil, ← r.length]
    exact G.many _ _ _ _ h
  have b := hb s us I.kIn hl
  rw [List.append_nil] at b
  refine wpAny_call (codeAny_mono (runG G hr I b r h) ?_)
  intro r s' hq
  cases r with
  | error e => exact False.elim hq
  | ok fl =>
    cases fl with
    | ret u => exact hq
    | next => exact False.elim hq
    | brk => exact False.elim hq
    | cont => exact False.elim hq
theorem pe_callG (G : FnG X.prog X.w X.K X.mg X.base k f fd ps sp) (hr : RoomG k X.A) (hg : Gl X x) (hm : X.mg x = some (.ref f)) (hk : PySem.W.keepIn X.K (.ref f) = true) (hb : Binds X.K fd ps []) (ha : PA X (e :: es) t)
    (hdb : (x == ("__debug__" : Str)) = false) (he : starEach (e :: es) X.env = (false, eval e X.env) :: starEach es X.env) (hpl : (backTo pos (starEach es X.env)).any (·.1) = false) : PE X (.Call (.Name x p) (e :: es) [] pos) (fun σ H Q => t σ H fun vs H1 => sp vs H1 Q E0) := by
  constructor
  intro pins s σ H Q I h
  apply wpAny_Call_Name_kw
  apply ld_glob I hg hm _ hdb
  refine PySem.W.callWith_K (h₀ := X.base) I.ok.mod.kin hk (thn (ha.run pos pins s σ H _ I h) ?_) he hpl
  rintro us s1 ⟨vs, H1, I1, r, q⟩
  exact ⟨I1.kIn, callG G hr hb I1 r q⟩
theorem callGk {pins : List (Addr × Obj)} {σ : L2.St} {H : Hp} {s : Shared} {Q : VK} {us ws : List Value} {vs zs : List V} {ks : List Str} {g : List Value → List Value → List Value} {gV : List V → List V → List V} (G : FnG X.prog X.w X.K X.mg X.base k f fd ps sp) (hr : RoomG k X.A) (hb : KBinds X.K fd ps ks g gV)
    (I : Inv X pins σ H s) (r : Vals vs us) (rz : Vals zs ws) (h : sp (gV vs zs) H Q E0) : wpAny (model X.prog X.w) X.A (call (.ref f) us (ks.zip ws)) (EP X pins σ Q) X.xe s := by
  have r2 := hb.rel r rz
  have hl : (g us ws).length = ps.length := by
    rw [← r2.length]
    exact G.many _ _ _ _ h
  refine wpAny_call (codeAny_mono (runG G hr I (hb.to s us ws I.kIn hl) r2 h) ?_)
  intro r s' hq
  cases r with
  | error e => exact False.elim hq
  | ok fl =>
    cases fl with
    | ret u => exact hq
    | next => exact False.elim hq
    | brk => exact False.elim hq
    | cont => exact False.elim hq
end
end Fx

end

/-! Fx9: defs and their calls -/
noncomputable section
namespace Fx
open PySem PySem.Spec PyProof.Rows L2

def isSlot : Tag → Prop
  | .slot _ => True
  | _ => False
/-- a def by values: the result, and what its parameters own behind it -/
abbrev FF := List MD → Option (MD × List (Option MD))
def spF (K : PySem.W.Frag) (F : FF) : Sp := fun vs H Q _ => ∃ O ms r ms', (∀ b t, O b = some t → H b ≠ none) ∧ (∀ b k, O b ≠ some (.tmp k)) ∧ vs.length = ms.length ∧
  (∀ (k : Nat) (m : MD), ms[k]? = some m → ∃ v, vs[k]? = some v ∧ MR K O H (.slot k) m v) ∧ F ms = some (r, ms') ∧
  ∀ v H' O' n, Ev isSlot O H O' H' → MR K O' H' (.tmp n) r v → (∀ (k : Nat) (m : MD), ms'[k]? = some (some m) → ∃ v, vs[k]? = some v ∧ MR K O' H' (.slot k) m v) → Q v H'
def outs (np : Nat) (Γ : Gm) : List (Option MD) := (Γ.take np).map fun o => o.bind fun m => if m.own then some m else none
def fnOf (np len : Nat) (g : FS) : FF := fun ms => if ms.length = np then (g (ms.map some ++ List.replicate (len - np) none)).bind fun o => match o with
    | .rt r Γ => some (r, outs np Γ)
    | .nx Γ => some (.dat .none, outs np Γ)
    | _ => none
  else none
theorem outs_get {np : Nat} {Γ : Gm} {k : Nat} {m : MD} (h : (outs np Γ)[k]? = some (some m)) : k < np ∧ Γ[k]? = some (some m) ∧ m.own = true := by
  unfold outs at h
  rw [List.getElem?_map] at h
  cases q : (Γ.take np)[k]? with
  | none => rw [q] at h; cases h
  | some o =>
    rw [q] at h
    have hk : k < np := by
      have := (List.getElem?_eq_some_iff.mp q).1
      simp at this
      omega
    rw [List.getElem?_take_of_lt hk] at q
    have h' := Option.some.inj h
    obtain ⟨m', e1, e2⟩ := Option.bind_eq_some_iff.mp h'
    split at e2
    · rename_i ho
      cases e2
      exact ⟨hk, by rw [q, e1], ho⟩
    · cases e2
section
variable {P : Program} {w : World} {K : PySem.W.Frag} {mg : Str → Option Value} {base : Heap}
theorem start_get {N : List Str} {vs : List V} {k : Nat} {v : V} (h : vs[k]? = some v) : (L2.start N vs)[k]? = some (some v) := by
  unfold L2.start
  have hk := (List.getElem?_eq_some_iff.mp h).1
  rw [List.getElem?_append_left (by simpa using hk), List.getElem?_map, h]
  rfl
theorem fn_ok {x qual : Str} {st : Stmt} {f : Addr} {fd : FuncData} {N ps : List Str} {k : Nat} {g : FS} (F : Fun K x qual st f fd) (S : FnScope N ps (defScope st))
    (hbody : ∀ (cdv : Value) (A : Around) (outer : List Env) (s : Shared) (H : Hp) (Q : VK) (E : XK), RoomG k (A.deeper (envOfC qual (defScope st) s.heap.objs.size f cdv)) →
      FSsX (cxOf CX0 P w K mg base N qual (defScope st) f cdv A outer s H E).nox ps.length (defBody st) g) : FnG P w K mg base (k + 1) f fd ps (spF K (fnOf ps.length N.length g)) := by
  refine fnG_of F S (fun vs H Q E h => ?_) (fun cdv A outer s H vs Q E hr h => ⟨_, hbody cdv A outer s H Q E hr, ?_⟩)
  · obtain ⟨O, ms, r, ms', _, _, hl, _, e, _⟩ := h
    unfold fnOf at e
    split at e
    · rename_i h1
      rw [hl, h1]
    · cases e
  · obtain ⟨O, ms, r, ms', dom, wt, hl, ha, e, q⟩ := h
    unfold fnOf at e
    split at e
    · rename_i h1
      obtain ⟨o, e1, e⟩ := Option.bind_eq_some_iff.mp e
      have hΓ : ∀ (i : Nat) (m : MD), (ms.map some ++ List.replicate (N.length - ps.length) none)[i]? = some (some m) → ms[i]? = some m := fun i m hi => by
        by_cases hlt : i < ms.length
        · rw [List.getElem?_append_left (by simpa using hlt), List.getElem?_map] at hi
          cases qq : ms[i]? with
          | none => rw [qq] at hi; cases hi
          | some m' => rw [qq] at hi; exact Option.some.inj hi
        · rw [List.getElem?_append_right (by simpa using hlt), List.getElem?_replicate] at hi
          split at hi <;> cases hi
      have c0 : Cf K ps.length ⟨H, O, L2.start N vs⟩ O (L2.start N vs) H (ms.map some ++ List.replicate (N.length - ps.length) none) [] [] := by
        refine ⟨dom, fun i m hi => ?_, True.intro, fun b o h _ => ⟨h, rfl⟩, fun b h => h, wt, fun _ _ _ _ _ => rfl, ?_⟩
        · obtain ⟨v, e2, r2⟩ := ha i m (hΓ i m hi)
          exact ⟨v, start_get e2, r2⟩
        · unfold L2.start
          simp only [List.length_append, List.length_map, List.length_replicate]
          omega
      have fin : ∀ (σ : L2.St) (H' : Hp) (Γ : Gm) (v : V) (ts : List TV) (r : MD), Cfg K ps.length ⟨H, O, L2.start N vs⟩ σ H' Γ [v] [.md r] → (∀ v H' O' n, Ev isSlot O H O' H' → MR K O' H' (.tmp n) r v →
          (∀ (k : Nat) (m : MD), (outs ps.length Γ)[k]? = some (some m) → ∃ v, vs[k]? = some v ∧ MR K O' H' (.slot k) m v) → Q v H') → Q v H' := fun σ H' Γ v ts r ⟨O', c⟩ q => by
        refine q v H' O' 0 ⟨fun b o h n => c.keep b o h fun k z => n _ z True.intro, c.dom, c.out⟩ c.top fun k m hk => ?_
        obtain ⟨h3, h4, h5⟩ := outs_get hk
        obtain ⟨v', e3, r3⟩ := c.sl k m h4
        have e4 := c.arg k m h3 h4 h5
        have hv : k < vs.length := by omega
        have e5 : vs[k]? = some vs[k] := List.getElem?_eq_getElem hv
        have e6 := start_get (N := N) e5
        have e7 : (L2.start N vs)[k]? = some (some v') := e4.symm.trans e3
        rw [e6] at e7
        have e8 : vs[k] = v' := Option.some.inj (Option.some.inj e7)
        exact ⟨v', by rw [e5, e8], r3⟩
      refine ⟨⟨H, O, L2.start N vs⟩, _, [], [], o, ⟨O, c0⟩, e1, ?_⟩
      cases o with
      | rt m Γ =>
        cases e
        exact fun v σ H' c => fin σ H' Γ v [] _ c q
      | nx Γ =>
        cases e
        exact fun σ H' ⟨O', c⟩ => fin σ H' Γ .non [] _ ⟨O', c.push (t := .md (.dat .none)) (v := .non) (show Fz _ _ _ .none .non from .non)⟩ q
      | bk Γ => cases e
      | ct Γ => cases e
    · cases e
end

/-! ### calls -/
section
variable {K : PySem.W.Frag} {O O' O2 : Own} {H H' : Hp}
theorem MR.map {t t' : Tag} (h0 : ∀ b, O b = none → O2 b = none) (h1 : ∀ b, O b = some t → O2 b = some t') {m : MD} {v : V} (h : MR K O H t m v) : MR K O2 H t' m v := by
  have k : Kp O H O2 H := fun b o e n => ⟨e, h0 b n⟩
  cases m with
  | dat d => exact Fz.kp k _ _ h
  | lst xs =>
    obtain ⟨b, vs, e, q, h1', h2⟩ := h
    exact ⟨b, vs, e, h1 _ q, h1', FzA.kp k _ _ h2⟩
  | lls xss =>
    obtain ⟨b, as, vss, e, q, g0, g1, h2, h3, h4⟩ := h
    exact ⟨b, as, vss, e, h1 _ q, g0, g1, h2, Paired.mapP h3 fun c vs z => ⟨h1 _ z.1, z.2⟩, Paired.mapP h4 fun xs vs z => FzA.kp k _ _ z⟩
  | bag c b m =>
    obtain ⟨x, y, e, ne, q1, q2, h3, h4⟩ := h
    exact ⟨x, y, e, ne, h1 _ q1, h1 _ q2, h3, h4⟩
  | dcK kvs =>
    obtain ⟨b, ws, e, q, h3, h4⟩ := h
    exact ⟨b, ws, e, h1 _ q, h3, h4.kp k⟩
  | dcT kvs =>
    obtain ⟨b, ws, e, q, h3, h4⟩ := h
    exact ⟨b, ws, e, h1 _ q, h3, h4.kp k⟩
  | scr ns =>
    obtain ⟨b, e, h3 | h3⟩ := h
    · exact ⟨b, e, .inl ⟨h3.1, h0 _ h3.2⟩⟩
    · exact ⟨b, e, .inr h3⟩
end
def als : List TV → List Nat
  | [] => []
  | .al i :: us => i :: als us
  | .md _ :: us => als us
def alIx : List TV → Nat → Option Nat
  | [], _ => none
  | .al j :: us, i => if j = i then some 0 else (alIx us i).map (· + 1)
  | .md _ :: us, i => (alIx us i).map (· + 1)
def argsOf (Γ : Gm) : List TV → Option (List MD)
  | [] => some []
  | .md m :: us => if m.own = true then none else (argsOf Γ us).map fun l => m :: l
  | .al i :: us => match Γ[i]? with
    | some (some m) => (argsOf Γ us).map fun l => m :: l
    | _ => none
def putArgs : List TV → List (Option MD) → Gm → Option Gm
  | [], _, Γ => some Γ
  | .md _ :: us, _ :: ms, Γ => putArgs us ms Γ
  | .al i :: us, some m :: ms, Γ => if m.own = true then putArgs us ms (Γ.set i (some m)) else none
  | _, _, _ => none
theorem mem_als : ∀ {us : List TV} {k j : Nat}, us[k]? = some (.al j) → j ∈ als us
  | [], _, _, h => by simp at h
  | .al i :: us, 0, j, h => by
    simp at h
    subst h
    exact List.mem_cons_self
  | .al i :: us, k + 1, j, h => List.mem_cons_of_mem _ (mem_als (k := k) (by simpa using h))
  | .md m :: us, 0, j, h => by simp at h
  | .md m :: us, k + 1, j, h => mem_als (us := us) (k := k) (by simpa using h)
theorem alIx_of : ∀ {us : List TV} {k j : Nat}, (als us).Nodup → us[k]? = some (.al j) → alIx us j = some k
  | [], _, _, _, h => by simp at h
  | .al i :: us, 0, j, _, h => by
    simp at h
    subst h
    simp [alIx]
  | .al i :: us, k + 1, j, n, h => by
    have n' := List.nodup_cons.mp n
    have h' : us[k]? = some (.al j) := by simpa using h
    have ne : i ≠ j := fun z => n'.1 (z ▸ mem_als h')
    simp [alIx, ne, alIx_of n'.2 h']
  | .md m :: us, 0, j, _, h => by simp at h
  | .md m :: us, k + 1, j, n, h => by
    have h' : us[k]? = some (.al j) := by simpa using h
    simp [alIx, alIx_of (us := us) n h']
theorem alIx_to : ∀ {us : List TV} {k j : Nat}, alIx us j = some k → us[k]? = some (.al j)
  | [], _, _, h => by cases h
  | .al i :: us, k, j, h => by
    unfold alIx at h
    split at h
    · rename_i e
      cases h
      rw [e]
      rfl
    · obtain ⟨l, e1, e2⟩ := Option.map_eq_some_iff.mp h
      subst e2
      simpa using alIx_to e1
  | .md m :: us, k, j, h => by
    obtain ⟨l, e1, e2⟩ := Option.map_eq_some_iff.mp h
    subst e2
    simpa using alIx_to e1
theorem putArgs_to : ∀ {us : List TV} {ms : List (Option MD)} {Γ Γ' : Gm}, putArgs us ms Γ = some Γ' → Γ'.length = Γ.length ∧ (∀ j : Nat, j ∉ als us → Γ'[j]? = Γ[j]?) ∧
    ((als us).Nodup → ∀ (k j : Nat), us[k]? = some (TV.al j) → ∃ m, ms[k]? = some (some m) ∧ m.own = true ∧ (j < Γ.length → Γ'[j]? = some (some m)))
  | [], _, Γ, Γ', h => by
    cases h
    exact ⟨rfl, fun _ _ => rfl, fun _ k j h => by simp at h⟩
  | .md m0 :: us, [], _, _, h => by cases h
  | .md m0 :: us, mo :: ms, Γ, Γ', h => by
    obtain ⟨h1, h2, h3⟩ := putArgs_to (us := us) (ms := ms) h
    refine ⟨h1, h2, fun n k j hk => ?_⟩
    cases k with
    | zero => simp at hk
    | succ k => exact h3 n k j (by simpa using hk)
  | .al i :: us, [], _, _, h => by cases h
  | .al i :: us, none :: ms, _, _, h => by cases h
  | .al i :: us, some m :: ms, Γ, Γ', h => by
    unfold putArgs at h
    split at h
    · rename_i ho
      obtain ⟨h1, h2, h3⟩ := putArgs_to (us := us) (ms := ms) h
      refine ⟨by rw [h1, List.length_set], fun j hj => ?_, fun n k j hk => ?_⟩
      · have hj' : j ≠ i ∧ j ∉ als us := by simpa [als] using hj
        rw [h2 j hj'.2, List.getElem?_set_ne (Ne.symm hj'.1)]
      · have n' := List.nodup_cons.mp n
        cases k with
        | zero =>
          have e : i = j := by simpa using hk
          subst e
          exact ⟨m, rfl, ho, fun hl => by rw [h2 i n'.1, List.getElem?_set_self hl]⟩
        | succ k =>
          obtain ⟨m', e1, e2, e3⟩ := h3 n'.2 k j (by simpa using hk)
          exact ⟨m', e1, e2, fun hl => e3 (by rw [List.length_set]; exact hl)⟩
    · cases h
theorem argsOf_get {Γ : Gm} : ∀ {us : List TV} {ms : List MD}, argsOf Γ us = some ms → us.length = ms.length ∧ ∀ (k : Nat) (m : MD), ms[k]? = some m → (us[k]? = some (.md m) ∧ m.own = false) ∨ ∃ i, us[k]? = some (.al i) ∧ Γ[i]? = some (some m)
  | [], ms, e => by
    cases e
    exact ⟨rfl, fun k m h => by simp at h⟩
  | .md m0 :: us, ms, e => by
    unfold argsOf at e
    split at e
    · cases e
    · rename_i ho
      obtain ⟨l, e1, e2⟩ := Option.map_eq_some_iff.mp e
      subst e2
      obtain ⟨h1, h2⟩ := argsOf_get e1
      refine ⟨by simp [h1], fun k m hk => ?_⟩
      cases k with
      | zero =>
        simp at hk
        subst hk
        exact .inl ⟨rfl, by simpa using ho⟩
      | succ k => simpa using h2 k m (by simpa using hk)
  | .al i :: us, ms, e => by
    unfold argsOf at e
    split at e
    · rename_i m0 hm
      obtain ⟨l, e1, e2⟩ := Option.map_eq_some_iff.mp e
      subst e2
      obtain ⟨h1, h2⟩ := argsOf_get e1
      refine ⟨by simp [h1], fun k m hk => ?_⟩
      cases k with
      | zero =>
        simp at hk
        subst hk
        exact .inr ⟨i, rfl, hm⟩
      | succ k => simpa using h2 k m (by simpa using hk)
    · cases e
/-- the arguments in the parameters' order: js tells which -/
def pick (js : List Nat) (us : List TV) : Option (List TV) := js.foldr (fun j r => match us[j]?, r with
  | some u, some r => some (u :: r)
  | _, _ => none) (some [])
def fCall (F : FF) (fs : FA) : FE := fun Γ => (fs Γ).bind fun p => if (als p.1).Nodup then (argsOf p.2 p.1).bind fun ms => (F ms).bind fun r => (putArgs p.1 r.2 p.2).map fun Γ' => (.md r.1, Γ') else none
theorem Paired.get2 {α β : Type} {R : α → β → Prop} : ∀ {l : List α} {m : List β} {k : Nat} {b : β}, Paired R l m → m[k]? = some b → ∃ a, l[k]? = some a ∧ R a b
  | _, _, _, _, .nil, e => by simp at e
  | _, _, 0, _, .cons r _, e => by
    simp at e
    subst e
    exact ⟨_, rfl, r⟩
  | _, _, k + 1, b, .cons _ t, e => by
    obtain ⟨a, h1, h2⟩ := Paired.get2 (k := k) t (by simpa using e)
    exact ⟨a, by simpa using h1, h2⟩
theorem Paired.len2 {α β : Type} {R : α → β → Prop} : ∀ {l : List α} {m : List β}, Paired R l m → l.length = m.length
  | _, _, .nil => rfl
  | _, _, .cons _ t => by simp [Paired.len2 t]
/-- THE call: what the promise asks, from the state with the arguments -/
theorem callF {K : PySem.W.Frag} {np : Nat} {W : Wd} {σ : L2.St} {H : Hp} {Γ Γ' : Gm} {vs xs : List V} {ts us : List TV} {F : FF} {ms : List MD} {r : MD} {ms' : List (Option MD)} {O : Own} {Q : VK} {E : XK}
    (c : Cf K np W O σ H Γ vs ts) (pr : Paired (fun x u => ∃ g, TR K O H σ Γ g u x) xs us) (nd : (als us).Nodup) (ha : argsOf Γ us = some ms) (hF : F ms = some (r, ms')) (hp : putArgs us ms' Γ = some Γ')
    (q : ∀ v H', Cfg K np W σ H' Γ' (v :: vs) (.md r :: ts) → Q v H') : spF K F xs H Q E := by
  obtain ⟨hl, hg⟩ := argsOf_get ha
  obtain ⟨p1, p2, p3⟩ := putArgs_to hp
  -- ownership as the callee sees it
  let Oc : Own := fun b => match O b with
    | none => none
    | some (.slot i) => match alIx us i with
      | some k => some (.slot k)
      | none => some .out
    | some _ => some .out
  have oc0 : ∀ b, O b = none → Oc b = none := fun b h => by simp only [Oc, h]
  have ocn : ∀ b, Oc b = none → O b = none := fun b h => by
    simp only [Oc] at h
    split at h
    · assumption
    · split at h <;> cases h
    · cases h
  refine ⟨Oc, ms, r, ms', fun b t h => ?_, fun b k h => ?_, by rw [← hl]; exact Paired.len2 pr, fun k m hk => ?_, hF, fun v H' O' n ev mr margs => ?_⟩
  · cases z : O b with
    | none => rw [oc0 b z] at h; cases h
    | some t' => exact c.dom b t' z
  · simp only [Oc] at h
    split at h
    · cases h
    · split at h <;> cases h
    · cases h
  · rcases hg k m hk with ⟨hu, ho⟩ | ⟨i, hu, hm⟩
    · obtain ⟨x, hx, g, tr⟩ := Paired.get2 pr hu
      refine ⟨x, hx, ?_⟩
      have tr' : MR K O H g m x := tr
      cases m with
      | dat d => exact Fz.kp (fun b o e n => ⟨e, oc0 b n⟩) _ _ tr'
      | scr ns =>
        obtain ⟨b, e, h3 | h3⟩ := tr'
        · exact ⟨b, e, .inl ⟨h3.1, oc0 _ h3.2⟩⟩
        · exact ⟨b, e, .inr h3⟩
      | _ => cases ho
    · obtain ⟨x, hx, g, tr⟩ := Paired.get2 pr hu
      refine ⟨x, hx, ?_⟩
      obtain ⟨e1, _⟩ := tr
      obtain ⟨v', e2, r2⟩ := c.sl i m hm
      rw [e1] at e2
      cases e2
      exact MR.map oc0 (fun b hb => by simp only [Oc, hb, alIx_of nd hu]) r2
  · -- back
    let O2 : Own := fun b => match O' b with
      | none => none
      | some .out => O b
      | some (.slot k) => match us[k]? with
        | some (.al i) => some (.slot i)
        | _ => some (.tmp ts.length)
      | some (.tmp _) => some (.tmp ts.length)
    have o20 : ∀ b, O' b = none → O2 b = none := fun b h => by simp only [O2, h]
    have ev2 : Ev (fun t => ∃ (i k : Nat), us[k]? = some (TV.al i) ∧ t = Tag.slot i) O H O2 H' := by
      refine ⟨fun b o h nj => ?_, fun b t h => ?_, fun b h => ?_⟩
      · have hoc : ∀ t, Oc b = some t → t = .out := fun t ht => by
          simp only [Oc] at ht
          split at ht
          · cases ht
          · rename_i i hi
            split at ht
            · rename_i k hk
              exact absurd ⟨i, k, alIx_to hk, rfl⟩ (nj _ hi)
            · exact (Option.some.inj ht).symm
          · exact (Option.some.inj ht).symm
        obtain ⟨h1, h2⟩ := ev.kp b o h fun t ht z => by rw [hoc t ht] at z; exact z
        refine ⟨h1, ?_⟩
        cases z : Oc b with
        | none =>
          rw [z] at h2
          rw [o20 b h2, ocn b z]
        | some t =>
          have := hoc t z
          subst this
          rw [z] at h2
          simp only [O2, h2]
      · cases z : O' b with
        | none => rw [o20 b z] at h; cases h
        | some t' => exact ev.dom b t' z
      · simp only [O2] at h
        split at h
        · cases h
        · exact h
        · split at h <;> cases h
        · cases h
    have own2 : ∀ (i : Nat) (m : MD), Γ[i]? = some (some m) → m.own = true → ∃ m' : MD, Γ'[i]? = some (some m') ∧ m'.own = true := fun i m hi ho => by
      by_cases hal : ∃ k : Nat, us[k]? = some (.al i)
      · obtain ⟨k, hk⟩ := hal
        obtain ⟨m', _, e2, e3⟩ := p3 nd k i hk
        exact ⟨m', e3 (List.getElem?_eq_some_iff.mp hi).1, e2⟩
      · refine ⟨m, ?_, ho⟩
        rw [p2 i fun z => ?_]
        · exact hi
        · have memIx : ∀ {us : List TV} {i : Nat}, i ∈ als us → ∃ k : Nat, us[k]? = some (.al i) := by
            intro us
            induction us with
            | nil => intro i h; cases h
            | cons u us ih =>
              intro i h
              cases u with
              | md m =>
                obtain ⟨k, e⟩ := ih h
                exact ⟨k + 1, by simpa using e⟩
              | al j =>
                rcases List.mem_cons.mp h with rfl | h
                · exact ⟨0, rfl⟩
                · obtain ⟨k, e⟩ := ih h
                  exact ⟨k + 1, by simpa using e⟩
          exact hal (memIx z)
    have hfree : ∀ i, i ∉ als us → ¬ ∃ (i' k : Nat), us[k]? = some (TV.al i') ∧ Tag.slot i = .slot i' := fun i hi ⟨i', k, hk, e⟩ => by
      cases e
      exact hi (mem_als hk)
    have c3 : Cf K np W O2 σ H' Γ' vs ts := by
      refine ⟨ev2.dom, fun j m hj => ?_, Tm.ev (ts := ts) ev2 (fun k z => ?_) own2 (Nat.le_refl _) c.tm, fun b o h n => ?_, fun b h => c.out b (ev2.out b h), c.wt, fun j m hjn hj ho => ?_, by rw [p1]; exact c.len⟩
      · by_cases hjal : ∃ k : Nat, us[k]? = some (.al j)
        · obtain ⟨k, hk⟩ := hjal
          obtain ⟨m', e1, e2, e3⟩ := p3 nd k j hk
          obtain ⟨x, hx, g, e4, m0, e5, _⟩ := Paired.get2 pr hk
          have hlt : j < Γ.length := (List.getElem?_eq_some_iff.mp e5).1
          rw [e3 hlt] at hj
          cases hj
          obtain ⟨x', hx', r2⟩ := margs k _ e1
          rw [hx] at hx'
          cases hx'
          exact ⟨x, e4, MR.map o20 (fun b hb => by simp only [O2, hb, hk]) r2⟩
        · have hna : j ∉ als us := fun z => by
            have memIx : ∀ {us : List TV} {i : Nat}, i ∈ als us → ∃ k : Nat, us[k]? = some (.al i) := by
              intro us
              induction us with
              | nil => intro i h; cases h
              | cons u us ih =>
                intro i h
                cases u with
                | md m =>
                  obtain ⟨k, e⟩ := ih h
                  exact ⟨k + 1, by simpa using e⟩
                | al j =>
                  rcases List.mem_cons.mp h with rfl | h
                  · exact ⟨0, rfl⟩
                  · obtain ⟨k, e⟩ := ih h
                    exact ⟨k + 1, by simpa using e⟩
            exact hjal (memIx z)
          rw [p2 j hna] at hj
          obtain ⟨x, e1, r1⟩ := c.sl j m hj
          exact ⟨x, e1, r1.ev ev2 (hfree j hna)⟩
      · obtain ⟨_, _, _, z⟩ := z
        cases z
      · obtain ⟨h1, e1⟩ := c.keep b o h n
        obtain ⟨h2, e2⟩ := ev2.kp b o h1 fun t ht ⟨i, k, _, z⟩ => by
          subst z
          rw [e1] at ht
          exact n i ht
        exact ⟨h2, e2.trans e1⟩
      · by_cases hjal : ∃ k : Nat, us[k]? = some (.al j)
        · obtain ⟨k, hk⟩ := hjal
          obtain ⟨x, hx, g, e4, m0, e5, e6⟩ := Paired.get2 pr hk
          exact c.arg j m0 hjn e5 e6
        · have hna : j ∉ als us := fun z => by
            have memIx : ∀ {us : List TV} {i : Nat}, i ∈ als us → ∃ k : Nat, us[k]? = some (.al i) := by
              intro us
              induction us with
              | nil => intro i h; cases h
              | cons u us ih =>
                intro i h
                cases u with
                | md m =>
                  obtain ⟨k, e⟩ := ih h
                  exact ⟨k + 1, by simpa using e⟩
                | al j =>
                  rcases List.mem_cons.mp h with rfl | h
                  · exact ⟨0, rfl⟩
                  · obtain ⟨k, e⟩ := ih h
                    exact ⟨k + 1, by simpa using e⟩
            exact hjal (memIx z)
          rw [p2 j hna] at hj
          exact c.arg j m hjn hj ho
    exact q v H' ⟨O2, c3.push (MR.map o20 (fun b hb => by simp only [O2, hb]) mr)⟩
section
variable {X : Cx} {np k : Nat} {f : Addr} {fd : FuncData} {ps : List Str} {x : Str} {p pos : Pos} {e : Expr} {es : List Expr} {F : FF} {fs : FA}
theorem fx_call (G : FnG X.prog X.w X.K X.mg X.base k f fd ps (spF X.K F)) (hr : RoomG k X.A) (hm : X.mg x = some (.ref f)) (hk : PySem.W.keepIn X.K (.ref f) = true) (hb : Binds X.K fd ps [])
    (ha : FAX X np (e :: es) fs) (hg : Gl X x := by rfl) (hdb : (x == ("__debug__" : Str)) = false := by decide) (he : starEach (e :: es) X.env = (false, eval e X.env) :: starEach es X.env := by rfl) (hpl : (backTo pos (starEach es X.env)).any (·.1) = false := by rfl) :
    FX X np (.Call (.Name x p) (e :: es) [] pos) (fCall F fs) := by
  refine PE.weak (pe_callG G hr hg hm hk hb ha hdb he hpl) fun σ H Q h => ?_
  obtain ⟨W, Γ, vs, ts, t, Γ', c, e, q⟩ := h
  obtain ⟨⟨us, Γ1⟩, e1, e⟩ := Option.bind_eq_some_iff.mp e
  dsimp only at e
  split at e
  · rename_i nd
    obtain ⟨ms, e2, e⟩ := Option.bind_eq_some_iff.mp e
    obtain ⟨⟨r, ms'⟩, e3, e⟩ := Option.bind_eq_some_iff.mp e
    obtain ⟨Γ2, e4, e⟩ := Option.map_eq_some_iff.mp e
    cases e
    refine ⟨W, Γ, vs, ts, us, Γ1, c, e1, fun xs H1 c1 el => ?_⟩
    obtain ⟨O, c1⟩ := c1
    obtain ⟨pr, c2⟩ := c1.args el
    exact callF c2 pr nd e2 e3 e4 q
  · cases e
end
end Fx

end

/-! Fx10: what changes a slot's list, slices, list(range), isinstance, two names at once -/
noncomputable section
namespace Fx
open PySem PySem.Spec PyProof.Rows L2

section
variable {K : PySem.W.Frag} {np : Nat} {W : Wd} {O O' : Own} {σ σ' : L2.St} {H H' : Hp} {Γ Γ' : Gm} {vs : List V} {ts : List TV}
theorem Cf.mutS {i : Nat} {m m' : MD} {v : V} (c : Cf K np W O σ H Γ vs ts) (hi : Γ[i]? = some (some m)) (ho : m.own = true) (a : Ev (· = .slot i) O H O' H') (ev : σ[i]? = some (some v)) (r : MR K O' H' (.slot i) m' v) (ho' : m'.own = true) :
    Cf K np W O' σ H' (Γ.set i (some m')) vs ts := by
  have hl : i < Γ.length := (List.getElem?_eq_some_iff.mp hi).1
  refine ⟨a.dom, fun j x e => ?_, Tm.ev (ts := ts) a (fun k z => by cases z) (fun j x e h => ?_) (Nat.le_refl _) c.tm, fun b o h n => ?_, fun b h => c.out b (a.out b h), c.wt, fun j x hj e h => ?_, by rw [List.length_set]; exact c.len⟩
  · by_cases ji : i = j
    · subst ji
      rw [List.getElem?_set_self hl] at e
      cases e
      exact ⟨v, ev, r⟩
    · rw [List.getElem?_set_ne ji] at e
      obtain ⟨w, e1, r1⟩ := c.sl j x e
      exact ⟨w, e1, r1.ev a (by simpa using fun z => ji z.symm)⟩
  · by_cases ji : i = j
    · subst ji
      exact ⟨m', List.getElem?_set_self hl, ho'⟩
    · exact ⟨x, by rw [List.getElem?_set_ne ji]; exact e, h⟩
  · obtain ⟨h1, e1⟩ := c.keep b o h n
    obtain ⟨h2, e2⟩ := a.kp b o h1 fun t q z => by
      subst z
      rw [e1] at q
      exact n i q
    exact ⟨h2, e2.trans e1⟩
  · by_cases ji : i = j
    · subst ji
      exact c.arg i m hj hi ho
    · rw [List.getElem?_set_ne ji] at e
      exact c.arg j x hj e h
theorem Cf.lstAt {i : Nat} {xs : List PyData} (c : Cf K np W O σ H Γ vs ts) (hi : Γ[i]? = some (some (.lst xs))) : ∃ a ws, σ[i]? = some (some (.ref a)) ∧ O a = some (.slot i) ∧ H a = some (.lst ws) ∧ FzA K O H xs ws := by
  obtain ⟨v, e, a, ws, rfl, oa, ha, fa⟩ := c.sl i _ hi
  exact ⟨a, ws, e, oa, ha, fa⟩
/-- a list of a slot gets other items -/
theorem Cf.relist {i : Nat} {xs ys : List PyData} {a : Addr} {ws us : List V} (c : Cf K np W O σ H Γ vs ts) (hi : Γ[i]? = some (some (.lst xs))) (ev : σ[i]? = some (some (.ref a))) (oa : O a = some (.slot i)) (fa : FzA K O H ys us) :
    Cf K np W O σ (upd H a (.lst us)) (Γ.set i (some (.lst ys))) vs ts := by
  have w := Ev.write (o := .lst us) c.dom oa
  exact c.mutS hi rfl w ev ⟨a, us, rfl, oa, upd_same, FzA.kp w.k _ _ fa⟩ rfl
def lstS (Γ : Gm) (i : Nat) : Option (List PyData) := match Γ[i]? with
  | some (some (.lst xs)) => some xs
  | _ => none
theorem lstS_to {i : Nat} {xs : List PyData} (e : lstS Γ i = some xs) : Γ[i]? = some (some (.lst xs)) := by
  unfold lstS at e
  split at e
  · rename_i h
    cases e
    exact h
  · cases e
end

/-- no temporary names a slot -/
def noAl : List TV → Bool
  | [] => true
  | .al _ :: _ => false
  | .md _ :: ts => noAl ts
theorem noAl_tsd : ∀ (ds : List PyData), noAl (tsd ds) = true
  | [] => rfl
  | _ :: ds => noAl_tsd ds
section
variable {K : PySem.W.Frag} {np : Nat} {W : Wd} {O O' : Own} {σ σ' : L2.St} {H H' : Hp} {Γ Γ' : Gm}
theorem Tm.evM {J : Tag → Prop} (a : Ev J O H O' H') : ∀ {vs : List V} {ts : List TV}, (∀ k, J (.tmp k) → ts.length ≤ k) → noAl ts = true → Tm K O H σ Γ vs ts → Tm K O' H' σ' Γ' vs ts
  | [], [], _, _, _ => True.intro
  | v :: vs, .md m :: ts, hJ, n, h => ⟨MR.ev a (fun z => by have := hJ _ z; simp at this; omega) h.1, Tm.evM a (vs := vs) (ts := ts) (fun k z => by have := hJ k z; simp at this; omega) n h.2⟩
  | _ :: _, .al _ :: _, _, n, _ => by cases n
  | [], _ :: _, _, _, h => h.elim
  | _ :: _, [], _, _, h => h.elim
/-- the top temporary is stored in a slot; the others name none -/
theorem Cf.storeT {vs : List V} {ts : List TV} {v : V} {m : MD} {i : Nat} (c : Cf K np W O σ H Γ (v :: vs) (.md m :: ts)) (na : noAl ts = true) (h : ¬ (m.own = true ∧ i < np)) : Cfg K np W (σ.set i (some v)) H (Γ.set i (some m)) vs ts := by
  have a : Ev (· = .tmp ts.length) O H (retag O (.tmp ts.length) (some (.slot i))) H := Ev.retag (by simp) c.dom
  have r : MR K (retag O (.tmp ts.length) (some (.slot i))) H (.slot i) m v := MR.move c.dom (by simp) c.top
  refine ⟨_, a.dom, fun j m' e => ?_, Tm.evM a (fun k z => by injection z with z; omega) na c.pop.tm, (c.pop.ev a (by simp) (by simp) (fun k z => by injection z with z; omega)).keep, fun b hb => c.out b (a.out b hb), c.wt, fun j m' hj e ho => ?_, by rw [List.length_set, List.length_set]; exact c.len⟩
  · by_cases ji : i = j
    · subst ji
      by_cases hl : i < Γ.length
      · rw [List.getElem?_set_self hl] at e
        cases e
        exact ⟨v, List.getElem?_set_self (by rw [← c.len]; exact hl), r⟩
      · rw [List.getElem?_eq_none (by rw [List.length_set]; omega)] at e
        cases e
    · rw [List.getElem?_set_ne ji] at e
      obtain ⟨w, e1, r1⟩ := c.sl j m' e
      exact ⟨w, by rw [List.getElem?_set_ne ji]; exact e1, r1.ev a (by simp)⟩
  · by_cases ji : i = j
    · subst ji
      by_cases hl : i < Γ.length
      · rw [List.getElem?_set_self hl] at e
        cases e
        exact absurd ⟨ho, hj⟩ h
      · rw [List.getElem?_eq_none (by rw [List.length_set]; omega)] at e
        cases e
    · rw [List.getElem?_set_ne ji] at e
      rw [List.getElem?_set_ne ji]
      exact c.arg j m' hj e ho
end

section
variable {X : Cx} {np : Nat} {pos : Pos} {e : Expr} {f fv fi : FE}
def fAppend (i : Nat) (f : FE) : FE := fun Γ => (lstS Γ i).bind fun _ => (f Γ).bind fun p => (frz p.1).bind fun d => (lstS p.2 i).bind fun xs => if xs.length < sizeLine then some (.md (.dat .none), p.2.set i (some (.lst (xs ++ [d])))) else none
theorem fx_append (i : Nat) {x : Str} {px pa pc : Pos} (he : FX X np e f) (hN : X.N[i]? = some x := by rfl) (hv : Vis X.env.scope x := by first | exact Or.inl rfl | exact Or.inr (Or.inl rfl) | exact Or.inr (Or.inr rfl)) (hd : (x == ("__debug__" : Str)) = false := by decide) (hcd : (x == ("__classdict__" : Str)) = false := by decide)
    (hs : starEach [e] X.env = (false, eval e X.env) :: starEach [] X.env := by rfl) (h1 : attributeBase (.Name x px) "append" X.env (eval (.Name x px) X.env) = eval (.Name x px) X.env := by rfl)
    (h2 : ((backTo pc (starEach [e] X.env)).all (fun x => !x.1) && (backToKw pc (keywordEach [] X.env)).all (fun x => x.1.isSome) && decide ([e].length + ([] : List Keyword).length + (if ([] : List Keyword).isEmpty then 0 else 1) < 30)) = true := by rfl)
    (h3 : (pa.endLine == pc.line) = true := by rfl) (h4 : (backTo pc (starEach [] X.env)).any (·.1) = false := by rfl) : FX X np (.Call (.Attribute (.Name x px) "append" pa) [e] [] pc) (fAppend i f) := by
  refine PE.weak (pe_bm PySem.F.plainAttrs_list PySem.F.slot_list_append PySem.F.type_list_append mt_append (pe_var hN hv hd hcd) (pa_cons he pa_nil hs) h1 h2 h3 hs h4) fun σ H Q h => ?_
  obtain ⟨W, Γ, vs, ts, t, Γ', ⟨O, c⟩, e, q⟩ := h
  obtain ⟨xs0, g0, e⟩ := Option.bind_eq_some_iff.mp e
  obtain ⟨⟨u, Γ1⟩, g1, e⟩ := Option.bind_eq_some_iff.mp e
  obtain ⟨d, g2, e⟩ := Option.bind_eq_some_iff.mp e
  obtain ⟨xs, g3, e⟩ := Option.bind_eq_some_iff.mp e
  obtain ⟨a, ws0, ev, _, ha0, _⟩ := c.lstAt (lstS_to g0)
  refine ⟨.ref a, ev, .inl ⟨rfl, ws0, .of ha0⟩, W, Γ, vs, ts, u, Γ1, ⟨O, c⟩, g1, fun y H1 c1 => ?_⟩
  obtain ⟨O1, c1⟩ := c1
  have hu : u = .md (.dat d) := frz_to g2
  subst hu
  obtain ⟨a', ws, ev', oa, ha, fa⟩ := c1.pop.lstAt (lstS_to g3)
  rw [ev] at ev'
  cases ev'
  split at e
  · rename_i hl
    cases e
    refine ⟨a, ws, y, rfl, rfl, ha, by rw [← fa.length]; exact hl, ?_⟩
    have c2 := c1.pop.relist (ws := ws) (lstS_to g3) ev oa (fa.append (.cons c1.top .nil))
    exact q _ _ ⟨O1, c2.push (t := .md (.dat .none)) (show Fz _ _ _ .none .non from .non)⟩
  · cases e
/-- xs.extend(ys), ys plain data -/
def fExtend (i : Nat) (f : FE) : FE := fun Γ => (lstS Γ i).bind fun _ => (f Γ).bind fun p => (frz p.1).bind fun d => match d with
  | .list ys => (lstS p.2 i).bind fun xs => if xs.length + ys.length ≤ sizeLine then some (.md (.dat .none), p.2.set i (some (.lst (xs ++ ys)))) else none
  | _ => none
theorem fx_extend (i : Nat) {x : Str} {px pa pc : Pos} (he : FX X np e f) (hN : X.N[i]? = some x := by rfl) (hv : Vis X.env.scope x := by first | exact Or.inl rfl | exact Or.inr (Or.inl rfl) | exact Or.inr (Or.inr rfl)) (hd : (x == ("__debug__" : Str)) = false := by decide) (hcd : (x == ("__classdict__" : Str)) = false := by decide)
    (hs : starEach [e] X.env = (false, eval e X.env) :: starEach [] X.env := by rfl) (h1 : attributeBase (.Name x px) "extend" X.env (eval (.Name x px) X.env) = eval (.Name x px) X.env := by rfl)
    (h2 : ((backTo pc (starEach [e] X.env)).all (fun x => !x.1) && (backToKw pc (keywordEach [] X.env)).all (fun x => x.1.isSome) && decide ([e].length + ([] : List Keyword).length + (if ([] : List Keyword).isEmpty then 0 else 1) < 30)) = true := by rfl)
    (h3 : (pa.endLine == pc.line) = true := by rfl) (h4 : (backTo pc (starEach [] X.env)).any (·.1) = false := by rfl) : FX X np (.Call (.Attribute (.Name x px) "extend" pa) [e] [] pc) (fExtend i f) := by
  refine PE.weak (pe_bm PySem.F.plainAttrs_list PySem.F.slot_list_extend PySem.F.type_list_extend mt_extend (pe_var hN hv hd hcd) (pa_cons he pa_nil hs) h1 h2 h3 hs h4) fun σ H Q h => ?_
  obtain ⟨W, Γ, vs, ts, t, Γ', ⟨O, c⟩, e, q⟩ := h
  obtain ⟨xs0, g0, e⟩ := Option.bind_eq_some_iff.mp e
  obtain ⟨⟨u, Γ1⟩, g1, e⟩ := Option.bind_eq_some_iff.mp e
  obtain ⟨d, g2, e⟩ := Option.bind_eq_some_iff.mp e
  obtain ⟨a, ws0, ev, _, ha0, _⟩ := c.lstAt (lstS_to g0)
  refine ⟨.ref a, ev, .inl ⟨rfl, ws0, .of ha0⟩, W, Γ, vs, ts, u, Γ1, ⟨O, c⟩, g1, fun y H1 c1 => ?_⟩
  obtain ⟨O1, c1⟩ := c1
  have hu : u = .md (.dat d) := frz_to g2
  subst hu
  split at e
  · rename_i ys
    obtain ⟨xs, g3, e⟩ := Option.bind_eq_some_iff.mp e
    obtain ⟨a', ws, ev', oa, ha, fa⟩ := c1.pop.lstAt (lstS_to g3)
    rw [ev] at ev'
    cases ev'
    split at e
    · rename_i hl
      cases e
      obtain ⟨b, zs, rfl, hb, fb, _⟩ := Fz.sqL c1.top
      refine ⟨a, b, ws, zs, rfl, rfl, ha, hb, by rw [← fa.length, ← fb.length]; exact hl, ?_⟩
      have c2 := c1.pop.relist (ws := ws) (lstS_to g3) ev oa (fa.append fb)
      exact q _ _ ⟨O1, c2.push (t := .md (.dat .none)) (show Fz _ _ _ .none .non from .non)⟩
    · cases e
  · cases e
theorem FzA.dropLast {K : PySem.W.Frag} {O : Own} {H : Hp} {ds : List PyData} {vs : List V} (h : FzA K O H ds vs) : FzA K O H ds.dropLast vs.dropLast := by
  rw [List.dropLast_eq_take, List.dropLast_eq_take, h.length]
  exact h.take _
theorem FzA.eraseIdx {K : PySem.W.Frag} {O : Own} {H : Hp} : ∀ {ds : List PyData} {vs : List V} (k : Nat), FzA K O H ds vs → FzA K O H (ds.eraseIdx k) (vs.eraseIdx k)
  | [], _, k, h => by cases h; simp; exact .nil
  | _ :: _, _, 0, h => by
    cases h with
    | cons h1 h2 => exact h2
  | _ :: _, _, k + 1, h => by
    cases h with
    | cons h1 h2 => exact .cons h1 (FzA.eraseIdx k h2)
/-- xs.pop(), xs.pop(i) -/
def fPop (i : Nat) : FE := fun Γ => (lstS Γ i).bind fun xs => xs[xs.length - 1]?.map fun d => (.md (.dat d), Γ.set i (some (.lst xs.dropLast)))
theorem fx_pop (i : Nat) {x : Str} {px pa pc : Pos} (hN : X.N[i]? = some x := by rfl) (hv : Vis X.env.scope x := by first | exact Or.inl rfl | exact Or.inr (Or.inl rfl) | exact Or.inr (Or.inr rfl)) (hd : (x == ("__debug__" : Str)) = false := by decide) (hcd : (x == ("__classdict__" : Str)) = false := by decide)
    (h1 : attributeBase (.Name x px) "pop" X.env (eval (.Name x px) X.env) = eval (.Name x px) X.env := by rfl) (h3 : (pa.endLine == pc.line) = true := by rfl) : FX X np (.Call (.Attribute (.Name x px) "pop" pa) [] [] pc) (fPop i) := by
  refine PE.weak (pe_bm0 PySem.F.plainAttrs_list PySem.F.slot_list_pop PySem.F.type_list_pop mt_pop (pe_var hN hv hd hcd) h1 h3) fun σ H Q h => ?_
  obtain ⟨W, Γ, vs, ts, t, Γ', ⟨O, c⟩, e, q⟩ := h
  obtain ⟨xs, g0, e⟩ := Option.bind_eq_some_iff.mp e
  obtain ⟨d, g1, e⟩ := Option.map_eq_some_iff.mp e
  cases e
  obtain ⟨a, ws, ev, oa, ha, fa⟩ := c.lstAt (lstS_to g0)
  obtain ⟨y, hy, ry⟩ := fa.get g1
  rw [fa.length] at hy
  refine ⟨.ref a, ev, .inl ⟨rfl, ws, .of ha⟩, a, ws, y, rfl, rfl, ha, hy, ?_⟩
  have w := Ev.write (o := .lst ws.dropLast) c.dom oa
  have c2 := c.relist (ws := ws) (lstS_to g0) ev oa fa.dropLast
  exact q _ _ ⟨O, c2.push (t := .md (.dat d)) (Fz.kp w.k _ _ ry)⟩
def ixPop (n : Nat) (i : Int) : Option Nat := if -(2 ^ 63) ≤ i ∧ i < 2 ^ 63 then seqIndex? i n else none
def fPopAt (i : Nat) (f : FE) : FE := fun Γ => (lstS Γ i).bind fun _ => (f Γ).bind fun p => (intT p.1).bind fun j => (lstS p.2 i).bind fun xs => (ixPop xs.length j).bind fun k => xs[k]?.map fun d => (.md (.dat d), p.2.set i (some (.lst (xs.eraseIdx k))))
theorem fx_popAt (i : Nat) {x : Str} {px pa pc : Pos} (he : FX X np e f) (hN : X.N[i]? = some x := by rfl) (hv : Vis X.env.scope x := by first | exact Or.inl rfl | exact Or.inr (Or.inl rfl) | exact Or.inr (Or.inr rfl)) (hd : (x == ("__debug__" : Str)) = false := by decide) (hcd : (x == ("__classdict__" : Str)) = false := by decide)
    (hs : starEach [e] X.env = (false, eval e X.env) :: starEach [] X.env := by rfl) (h1 : attributeBase (.Name x px) "pop" X.env (eval (.Name x px) X.env) = eval (.Name x px) X.env := by rfl)
    (h2 : ((backTo pc (starEach [e] X.env)).all (fun x => !x.1) && (backToKw pc (keywordEach [] X.env)).all (fun x => x.1.isSome) && decide ([e].length + ([] : List Keyword).length + (if ([] : List Keyword).isEmpty then 0 else 1) < 30)) = true := by rfl)
    (h3 : (pa.endLine == pc.line) = true := by rfl) (h4 : (backTo pc (starEach [] X.env)).any (·.1) = false := by rfl) : FX X np (.Call (.Attribute (.Name x px) "pop" pa) [e] [] pc) (fPopAt i f) := by
  refine PE.weak (pe_bm PySem.F.plainAttrs_list PySem.F.slot_list_pop PySem.F.type_list_pop mt_popAt (pe_var hN hv hd hcd) (pa_cons he pa_nil hs) h1 h2 h3 hs h4) fun σ H Q h => ?_
  obtain ⟨W, Γ, vs, ts, t, Γ', ⟨O, c⟩, e, q⟩ := h
  obtain ⟨xs0, g0, e⟩ := Option.bind_eq_some_iff.mp e
  obtain ⟨⟨u, Γ1⟩, g1, e⟩ := Option.bind_eq_some_iff.mp e
  obtain ⟨j, g2, e⟩ := Option.bind_eq_some_iff.mp e
  obtain ⟨xs, g3, e⟩ := Option.bind_eq_some_iff.mp e
  obtain ⟨k, g4, e⟩ := Option.bind_eq_some_iff.mp e
  obtain ⟨d, g5, e⟩ := Option.map_eq_some_iff.mp e
  cases e
  obtain ⟨a, ws0, ev, _, ha0, _⟩ := c.lstAt (lstS_to g0)
  refine ⟨.ref a, ev, .inl ⟨rfl, ws0, .of ha0⟩, W, Γ, vs, ts, u, Γ1, ⟨O, c⟩, g1, fun y H1 c1 => ?_⟩
  obtain ⟨O1, c1⟩ := c1
  have hu : u = .md (.dat (.int j)) := intT_to g2
  subst hu
  obtain ⟨a', ws, ev', oa, ha, fa⟩ := c1.pop.lstAt (lstS_to g3)
  rw [ev] at ev'
  cases ev'
  have ry : Fz X.K O1 H1 (.int j) y := c1.top
  cases ry
  obtain ⟨z, hz, rz⟩ := fa.get g5
  unfold ixPop at g4
  split at g4
  · rename_i hj
    refine ⟨a, ws, j, k, z, rfl, rfl, ha, hj.1, hj.2, by rw [← fa.length]; exact g4, hz, ?_⟩
    have w := Ev.write (o := .lst (ws.eraseIdx k)) c1.pop.dom oa
    have c2 := c1.pop.relist (ws := ws) (lstS_to g3) ev oa (fa.eraseIdx k)
    exact q _ _ ⟨O1, c2.push (t := .md (.dat d)) (Fz.kp w.k _ _ rz)⟩
  · cases g4
/-- xs[k] = v, a slot's list -/
def fPutIx (i : Nat) (fv fi : FE) : FS := fun Γ => (fv Γ).bind fun p => (frz p.1).bind fun d => (lstS p.2 i).bind fun _ => (fi p.2).bind fun p2 => (intT p2.1).bind fun k => (lstS p2.2 i).bind fun xs => (ixN xs.length k).map fun j => .nx (p2.2.set i (some (.lst (xs.set j d))))
theorem fs_putIx (i : Nat) {x : Str} {px ps : Pos} {v ix : Expr} (hv' : FX X np v fv) (hi' : FX X np ix fi) (hN : X.N[i]? = some x := by rfl) (hv : Vis X.env.scope x := by first | exact Or.inl rfl | exact Or.inr (Or.inl rfl) | exact Or.inr (Or.inr rfl)) (hd : (x == ("__debug__" : Str)) = false := by decide) (hcd : (x == ("__classdict__" : Str)) = false := by decide)
    (h0 : ∀ v, assign (.Subscript (.Name x px) ix ps) X.env v = (do
      let ov ← holding [v] (eval (.Name x px) X.env)
      let iv ← holding [v, ov] (eval ix X.env)
      standAt ps
      holding [v, ov, iv] (setItem ov iv v)
      release [v, ov, iv] []) := by intro _; rfl)
    (hs : swapsWithSole [.Subscript (.Name x px) ix ps] v pos.line X.env = pure false := by rfl) (hw : swappedStores [.Subscript (.Name x px) ix ps] v X.env = pure none := by rfl) (h1 : (assignEach [.Subscript (.Name x px) ix ps] X.env).map (·.2) = [assign (.Subscript (.Name x px) ix ps) X.env] := by rfl) :
    FSX X np (.Assign [.Subscript (.Name x px) ix ps] v pos) (fPutIx i fv fi) := by
  refine PS.weak (ps_asg hv' (pg_sub (pe_var hN hv hd hcd) hi' set_list h0) hs hw h1) fun D σ H h => ?_
  obtain ⟨W, Γ, vs, ds, o, c, e, q⟩ := h
  obtain ⟨⟨t1, Γ1⟩, g1, e⟩ := Option.bind_eq_some_iff.mp e
  obtain ⟨d, g2, e⟩ := Option.bind_eq_some_iff.mp e
  obtain ⟨xs0, g0, e⟩ := Option.bind_eq_some_iff.mp e
  obtain ⟨⟨t2, Γ2⟩, g3, e⟩ := Option.bind_eq_some_iff.mp e
  obtain ⟨k, g4, e⟩ := Option.bind_eq_some_iff.mp e
  obtain ⟨xs, g5, e⟩ := Option.bind_eq_some_iff.mp e
  obtain ⟨j, g6, e⟩ := Option.map_eq_some_iff.mp e
  cases e
  have h1' : t1 = .md (.dat d) := frz_to g2
  subst h1'
  have h2' : t2 = .md (.dat (.int k)) := intT_to g4
  subst h2'
  refine ⟨W, Γ, vs, tsd ds, _, Γ1, c, g1, fun y H1 c1 => ?_⟩
  obtain ⟨O1, c1⟩ := c1
  obtain ⟨a, _, hv0, _, _, _⟩ := c1.lstAt (lstS_to g0)
  refine ⟨.ref a, hv0, W, Γ1, y :: vs, _ :: tsd ds, _, Γ2, ⟨O1, c1⟩, g3, fun z H2 c2 => ?_⟩
  obtain ⟨O2, c2⟩ := c2
  obtain ⟨a', ws, ev, oa, ha, fa⟩ := c2.lstAt (lstS_to g5)
  rw [hv0] at ev
  cases ev
  have rz : Fz X.K O2 H2 (.int k) z := c2.top
  cases rz
  refine ⟨a, ws, k, j, rfl, rfl, ha, by rw [← fa.length]; exact g6, ?_⟩
  exact q σ _ ⟨O2, (c2.pop.pop.relist (ws := ws) (lstS_to g5) hv0 oa (fa.set c2.pop.top j))⟩

/-! ### slices -/
abbrev FO := Gm → Option (Option Int × Gm)
def upO (K : PySem.W.Frag) (np : Nat) (f : FO) : TO := fun σ H Q => ∃ W Γ vs ts o Γ', Cfg K np W σ H Γ vs ts ∧ f Γ = some (o, Γ') ∧ ∀ H', Cfg K np W σ H' Γ' vs ts → Q o H'
def FOX (X : Cx) (np : Nat) (e : Option Expr) (f : FO) : Prop := PO X e (upO X.K np f)
theorem PO.weak {X : Cx} {e : Option Expr} {t t' : TO} (h : PO X e t) (w : ∀ σ H Q, t' σ H Q → t σ H Q) : PO X e t' := ⟨fun pins s σ H Q I q => h.run pins s σ H Q I (w σ H Q q)⟩
def fONo : FO := fun Γ => some (none, Γ)
def fOSo (f : FE) : FO := fun Γ => (f Γ).bind fun p => (intT p.1).map fun i => (some i, p.2)
theorem fo_none : FOX X np none fONo := by
  refine PO.weak po_none fun σ H Q h => ?_
  obtain ⟨W, Γ, vs, ts, o, Γ', c, e, q⟩ := h
  cases e
  exact q H c
theorem fo_some (he : FX X np e f) : FOX X np (some e) (fOSo f) := by
  refine PO.weak (po_some he) fun σ H Q h => ?_
  obtain ⟨W, Γ, vs, ts, o, Γ', c, e, q⟩ := h
  obtain ⟨⟨t, Γ1⟩, e1, e⟩ := Option.bind_eq_some_iff.mp e
  obtain ⟨i, e2, e⟩ := Option.map_eq_some_iff.mp e
  cases e
  have ht : t = .md (.dat (.int i)) := intT_to e2
  subst ht
  refine ⟨W, Γ, vs, ts, _, Γ1, c, e1, fun v H1 c1 => ?_⟩
  obtain ⟨O, c1⟩ := c1
  have r : Fz X.K O H1 (.int i) v := c1.top
  cases r
  exact ⟨i, rfl, q H1 ⟨O, c1.pop⟩⟩
def cutL {α : Type} (xs : List α) (lo hi : Option Int) : List α := (xs.drop (HT.sIx xs.length 0 lo)).take (HT.sIx xs.length xs.length hi - HT.sIx xs.length 0 lo)
theorem FzA.cut {K : PySem.W.Frag} {O : Own} {H : Hp} {ds : List PyData} {vs : List V} (h : FzA K O H ds vs) (lo hi : Option Int) : FzA K O H (cutL ds lo hi) (cutV vs lo hi) := by
  unfold cutL cutV
  rw [h.length]
  exact (h.drop _).take _
def gSl (d : PyData) (lo hi : Option Int) : Option Res := match d with
  | .list ds => some (.new (cutL ds lo hi))
  | .tuple ds => some (.val (.tuple (cutL ds lo hi)))
  | .str z => if z.length ≤ sizeLine then some (.val (.str (cutS z lo hi))) else none
  | _ => none
def dvS (Γ : Gm) : TV → Option PyData
  | .md (.scr ns) => some (.list (ns.map .int))
  | t => dv Γ t
theorem dvS_to {Γ : Gm} {t : TV} {d : PyData} (e : dvS Γ t = some d) : (∃ ns, t = .md (.scr ns) ∧ d = .list (ns.map .int)) ∨ dv Γ t = some d := by
  unfold dvS at e
  split at e
  · cases e
    exact .inl ⟨_, rfl, rfl⟩
  · exact .inr e
def fSlice (ow : Bool) (fa : FE) (lo hi : FO) : FE := fun Γ => (fa Γ).bind fun p => (lo p.2).bind fun p1 => (hi p1.2).bind fun p2 => (dvS p2.2 p.1).bind fun d => (gSl d p1.1 p2.1).map fun r => (r.fin ow, p2.2)
def rSlA3 (K : PySem.W.Frag) : V → Option Int → Option Int → Hp → VK → Prop := fun x lo hi H Q => rSlL K x lo hi H Q ∨ (rSlA K x lo hi H Q ∨ rSlS x lo hi H Q)
theorem cutL_whole {α : Type} {xs : List α} {lo hi : Option Int} (h : HT.sIx xs.length 0 lo = 0 ∧ HT.sIx xs.length xs.length hi = xs.length) : cutL xs lo hi = xs := by
  unfold cutL
  rw [h.1, h.2]
  simp
theorem fx_slice {ow : Bool} {a : Expr} {lo hi : Option Expr} {p2 : Pos} {fa : FE} {fl fh : FO} (ha : FX X np a fa) (hl : FOX X np lo fl) (hh : FOX X np hi fh) : FX X np (.Subscript a (.Slice lo hi none p2) pos) (fSlice ow fa fl fh) := by
  refine PE.weak (pe_slice (SlR.or sl_list (SlR.or sl_tupA sl_str)) ha hl hh) fun σ H Q h => ?_
  obtain ⟨W, Γ, vs, ts, t, Γ', c, e, q⟩ := h
  obtain ⟨⟨t1, Γ1⟩, e1, e⟩ := Option.bind_eq_some_iff.mp e
  obtain ⟨⟨l, Γ2⟩, e2, e⟩ := Option.bind_eq_some_iff.mp e
  obtain ⟨⟨u, Γ3⟩, e3, e⟩ := Option.bind_eq_some_iff.mp e
  obtain ⟨d, e4, e⟩ := Option.bind_eq_some_iff.mp e
  obtain ⟨r, e5, e⟩ := Option.map_eq_some_iff.mp e
  cases e
  refine ⟨W, Γ, vs, ts, t1, Γ1, c, e1, fun x H1 c1 => ⟨W, Γ1, _, _, l, Γ2, c1, e2, fun H2 c2 => ⟨W, Γ2, _, _, u, Γ3, c2, e3, fun H3 c3 => ?_⟩⟩⟩
  obtain ⟨O, c3⟩ := c3
  have fin : ∀ v H', ResOk X.K O H3 r v H' → Q v H' := fun v H' ok => q v H' (c3.pop.res ok)
  have go : Vw X.K O H3 d x → (rSlL X.K x l u H3 Q ∨ (rSlA X.K x l u H3 Q ∨ rSlS x l u H3 Q)) := fun hv => by
    unfold gSl at e5
    split at e5
    · cases e5
      obtain ⟨a, xs, rfl, ha, fa⟩ := hv
      exact .inl ⟨a, xs, rfl, .of ha, fun p hp => okn fin hp (fa.cut l u)⟩
    · cases e5
      have hv' := hv
      obtain ⟨a, xs, rfl, ha, fa⟩ := Fz.sqT hv
      refine .inr (.inl ⟨a, xs, rfl, ha, fun hw => ?_, fun _ p hp => okt c3.dom fin hp (fa.cut l u)⟩)
      rw [← fa.length] at hw
      rw [cutL_whole hw] at fin
      exact okv c3.dom fin hv'
    · split at e5
      · rename_i hz
        cases e5
        cases hv
        exact .inr (.inr ⟨_, rfl, hz, okv c3.dom fin (.str _)⟩)
      · cases e5
    · cases e5
  rcases dvS_to e4 with ⟨ns, ht, hd⟩ | e6
  · have ht' : t1 = .md (.scr ns) := ht
    subst ht'
    subst hd
    cases e5
    obtain ⟨a, rfl, hr⟩ := (show MR X.K O H3 (.tmp ts.length) (.scr ns) x from c3.top)
    have hs : SqL X.K H3 a (ns.map .int) := by
      rcases hr with hr | hr
      · exact .inl hr.1
      · rcases hr with hr | hr
        · rcases hr with hr | ⟨o, hr⟩ <;> cases hr
        · exact .inr hr
    exact .inl ⟨a, _, rfl, hs, fun p hp => okn fin hp ((FzA.ints ns).cut l u)⟩
  · exact go (c3.view c3.top e6)
/-- xs[::-1] -/
def fRevL (ow : Bool) (fa : FE) : FE := fun Γ => (fa Γ).bind fun p => (dv p.2 p.1).bind fun d => match d with
  | .list ds => some ((Res.new ds.reverse).fin ow, p.2)
  | _ => none
theorem fx_revL {ow : Bool} {a : Expr} {k : Nat} {p1 p2 p3 : Pos} {fa : FE} (ha : FX X np a fa) : FX X np (.Subscript a (.Slice none none (some (.UnaryOp .USub (.Constant (.int 1) k p1) p2)) p3) pos) (fRevL ow fa) := by
  refine PE.weak (pe_revL ha) fun σ H Q h => ?_
  obtain ⟨W, Γ, vs, ts, t, Γ', c, e, q⟩ := h
  obtain ⟨⟨t1, Γ1⟩, e1, e⟩ := Option.bind_eq_some_iff.mp e
  obtain ⟨d, e4, e⟩ := Option.bind_eq_some_iff.mp e
  refine ⟨W, Γ, vs, ts, t1, Γ1, c, e1, fun x H1 c1 => ?_⟩
  obtain ⟨O, c1⟩ := c1
  split at e
  · cases e
    obtain ⟨a, xs, rfl, ha, fa⟩ := c1.view c1.top e4
    exact ⟨a, xs, rfl, .of ha, fun p hp => okn (fun v H' ok => q v H' (c1.pop.res ok)) hp fa.reverse⟩
  · cases e
/-- list(range(..)) -/
def rg2Ok (a b : Int) : Bool := decide (-(2 ^ 62) ≤ a ∧ a < 2 ^ 62 ∧ -(2 ^ 62) ≤ b ∧ b < 2 ^ 62 ∧ (b - a).toNat ≤ 2 ^ 24)
theorem rg2Ok_to {a b : Int} (h : rg2Ok a b = true) : RgOk a b := by
  have h' := dec1 h
  exact h'
theorem rangeV {K : PySem.W.Frag} {O : Own} {H : Hp} (a b : Int) : FzA K O H (rangeD a (b - a).toNat) (rgV a b) := by
  unfold rangeD rgV
  generalize (b - a).toNat = n
  have : ∀ l : List Nat, FzA K O H (l.map fun (i : Nat) => PyData.int (a + i)) (l.map fun i => V.int (a + (i : Nat))) := by
    intro l
    induction l with
    | nil => exact .nil
    | cons i l ih => exact .cons (.int _) ih
  exact this _
def rgA (n : Int) : Option (List PyData) := @ite _ (rg2Ok 0 n = true) (Classical.propDecidable _) (some (rangeD 0 n.toNat)) none
def rgB (i j : Int) : Option (List PyData) := @ite _ (rg2Ok i j = true) (Classical.propDecidable _) (some (rangeD i (j - i).toNat)) none
theorem rgA_to {j : Int} {l : List PyData} (h : rgA j = some l) : rg2Ok 0 j = true ∧ l = rangeD 0 j.toNat := by
  unfold rgA at h
  split at h
  · rename_i h1
    exact ⟨h1, (Option.some.inj h).symm⟩
  · cases h
theorem rgB_to {i j : Int} {l : List PyData} (h : rgB i j = some l) : rg2Ok i j = true ∧ l = rangeD i (j - i).toNat := by
  unfold rgB at h
  split at h
  · rename_i h1
    exact ⟨h1, (Option.some.inj h).symm⟩
  · cases h
def fListR1 (ow : Bool) (f : FE) : FE := fun Γ => (f Γ).bind fun p => (intT p.1).bind fun n => (rgA n).map fun l => ((Res.new l).fin ow, p.2)
theorem fx_listR1 {ow : Bool} {a : Expr} {p pr pc : Pos} {fa : FE} (hc : X.calm = true) (ml : X.mg "list" = none) (mr : X.mg "range" = none) (ha : FX X np a fa) (gl : Gl X "list" := by rfl) (gr : Gl X "range" := by rfl)
    (n1 : starEach [a] X.env = (false, eval a X.env) :: starEach [] X.env := by rfl) (n2 : starEach [.Call (.Name "range" pr) [a] [] pc] X.env = (false, eval (.Call (.Name "range" pr) [a] [] pc) X.env) :: starEach [] X.env := by rfl) :
    FX X np (.Call (.Name "list" p) [.Call (.Name "range" pr) [a] [] pc] [] pos) (fListR1 ow fa) := by
  refine PE.weak (pe_listRg hc gl ml (prg_1 gr mr ha n1) n2) fun σ H Q h => ?_
  obtain ⟨W, Γ, vs, ts, t, Γ', c, e, q⟩ := h
  obtain ⟨⟨t1, Γ1⟩, e1, e⟩ := Option.bind_eq_some_iff.mp e
  obtain ⟨n, e2, e⟩ := Option.bind_eq_some_iff.mp e
  obtain ⟨l, e3, e4⟩ := Option.map_eq_some_iff.mp e
  cases e4
  have ht : t1 = .md (.dat (.int n)) := intT_to e2
  subst ht
  obtain ⟨hn, el⟩ := rgA_to e3
  subst el
  refine ⟨W, Γ, vs, ts, _, Γ1, c, e1, fun x H1 c1 => ?_⟩
  obtain ⟨O, c1⟩ := c1
  have r : Fz X.K O H1 (.int n) x := c1.top
  cases r
  refine ⟨n, rfl, rg2Ok_to hn, fun p hp => ?_⟩
  have := rangeV (K := X.K) (O := O) (H := H1) 0 n
  rw [Int.sub_zero] at this
  exact okn (fun v H' ok => q v H' (c1.pop.res ok)) hp this
/-! ### isinstance -/
def tyN : PyData → String
  | .none => "NoneType"
  | .bool _ => "bool"
  | .int _ => "int"
  | .str _ => "str"
  | .list _ => "list"
  | .tuple _ => "tuple"
  | .dict _ => "dict"
def fIsi (T : String) (f : FE) : FE := fun Γ => (f Γ).bind fun p => (dv p.2 p.1).bind fun d => (kitB (tyN d) T).map fun b => (.md (.dat (.bool b)), p.2)
theorem Vw.ty {K : PySem.W.Frag} {O : Own} {H : Hp} {d : PyData} {v : V} (h : Vw K O H d v) : TyX K H v (.type (tyN d)) := by
  cases d with
  | none => cases h; exact .base .non
  | bool b => cases h; exact .base (.bl b)
  | int i => cases h; exact .base (.int i)
  | str x => cases h; exact .base (.str x)
  | list ds =>
    obtain ⟨a, xs, rfl, ha, _⟩ := h
    exact .base (.lst ha)
  | tuple ds =>
    have h' : Fz K O H (.tuple ds) v := h
    cases h' with
    | tup hr n ha =>
      rcases hr with hr | ⟨o, hr⟩
      · exact .base (.tup hr)
      · exact .fTuple hr
    | tupK hr ha =>
      rcases hr with hr | hr
      · rcases hr with hr | ⟨o, hr⟩ <;> cases hr
      · obtain ⟨o, its, n, h1, h2, _⟩ := hr
        exact .kTuple h1 h2
  | dict ds =>
    have h' : Fz K O H (.dict ds) v := h
    cases h' with
    | dct hr n ha => exact .fDict hr
theorem fx_isi {T : String} {x : Str} {p pt : Pos} {fa : FE} {a : Expr} (hm : X.mg "isinstance" = none) (mt : X.mg x = none) (ha : FX X np a fa) (hb : bootBuiltins x = some (.type T) := by decide +kernel) (gi : Gl X "isinstance" := by rfl) (gt : Gl X x := by rfl) (hn : x ≠ "__name__" := by decide) (hd : (x == ("__debug__" : Str)) = false := by decide)
    (hv : bootBuiltins "isinstance" = some (.builtin "isinstance") := by decide +kernel)
    (n1 : starEach [a, .Name x pt] X.env = (false, eval a X.env) :: starEach [.Name x pt] X.env := by rfl) (n2 : starEach [.Name x pt] X.env = (false, eval (.Name x pt) X.env) :: starEach [] X.env := by rfl) (hpl : (backTo pos (starEach [.Name x pt] X.env)).any (·.1) = false := by rfl) :
    FX X np (.Call (.Name "isinstance" p) [a, .Name x pt] [] pos) (fIsi T fa) := by
  refine PE.weak (pe_callB call_isi gi hm hv (pa_cons ha (pa_cons (pe_bltn (v := .ty T) gt mt hb rfl hn hd) pa_nil n2) n1) (by decide) (by decide) n1 hpl) fun σ H Q h => ?_
  obtain ⟨W, Γ, vs, ts, t, Γ', c, e, q⟩ := h
  obtain ⟨⟨t1, Γ1⟩, e1, e⟩ := Option.bind_eq_some_iff.mp e
  obtain ⟨d, e2, e⟩ := Option.bind_eq_some_iff.mp e
  obtain ⟨b, e3, e⟩ := Option.map_eq_some_iff.mp e
  cases e
  refine ⟨W, Γ, vs, ts, t1, Γ1, c, e1, fun v H1 c1 => ?_⟩
  obtain ⟨O, c1⟩ := c1
  exact ⟨v, .ty T, _, _, b, rfl, .ty T, (c1.view c1.top e2).ty, kit_ty e3, q _ _ ⟨O, c1.pop.push (.bl b)⟩⟩
/-! ### two or three names at once -/
def fPar2 (np i j : Nat) (fa fb : FE) : FS := fun Γ => (fa Γ).bind fun p => (fb p.2).bind fun p2 => match p.1, p2.1 with
  | .md m, .md m' => if (m.own = true ∧ i < np) ∨ (m'.own = true ∧ j < np) then none else some (.nx ((p2.2.set j (some m')).set i (some m)))
  | _, _ => none
theorem fs_par2 {i j : Nat} {x y : Str} {a b : Expr} {px py pt : Pos} {kt k2 pt2} {fa fb : FE} (hc : X.calm = true) (hN : X.N.Nodup) (ha : FX X np a fa) (hb : FX X np b fb) (hi : X.N[i]? = some x := by rfl) (hj : X.N[j]? = some y := by rfl) (hij : i ≠ j := by decide)
    (hx : X.env.scope.names.lookup x = some .local := by rfl) (hy : X.env.scope.names.lookup y = some .local := by rfl)
    (n1 : starEach [a, b] X.env = (false, eval a X.env) :: starEach [b] X.env := by rfl) (n2 : starEach [b] X.env = (false, eval b X.env) :: starEach [] X.env := by rfl)
    (hw : swappedStores [.Tuple [.Name x px, .Name y py] kt pt] (.Tuple [a, b] k2 pt2) X.env = pure (some [x, y]) := by rfl)
    (hs : swapsWithSole [.Tuple [.Name x px, .Name y py] kt pt] (.Tuple [a, b] k2 pt2) pos.line X.env = pure false := by rfl) :
    FSX X np (.Assign [.Tuple [.Name x px, .Name y py] kt pt] (.Tuple [a, b] k2 pt2) pos) (fPar2 np i j fa fb) := by
  refine PS.weak (ps_par hc hN hi hj hij hx hy (pa_cons ha (pa_cons hb pa_nil n2) n1) hw hs) fun D σ H h => ?_
  obtain ⟨W, Γ, vs, ds, o, c, e, q⟩ := h
  obtain ⟨⟨t1, Γ1⟩, e1, e⟩ := Option.bind_eq_some_iff.mp e
  obtain ⟨⟨t2, Γ2⟩, e2, e⟩ := Option.bind_eq_some_iff.mp e
  refine ⟨W, Γ, vs, tsd ds, t1, Γ1, c, e1, fun v H1 c1 => ⟨W, Γ1, v :: vs, t1 :: tsd ds, t2, Γ2, c1, e2, fun w H2 c2 => ?_⟩⟩
  cases t1 with
  | al k => cases e
  | md m =>
    cases t2 with
    | al k => cases e
    | md m' =>
      dsimp only at e
      split at e
      · cases e
      · rename_i hno
        cases e
        obtain ⟨O, c2⟩ := c2
        refine ⟨v, w, rfl, ?_⟩
        obtain ⟨O3, c3⟩ := c2.storeT (ts := .md m :: tsd ds) (noAl_tsd ds) (fun z => hno (.inr z))
        have c4 := c3.store (fun z => hno (.inl z))
        rw [List.set_comm _ _ hij]
        exact q _ _ c4
end
end Fx

end

/-! Fx11: the bag of draws: [cells, digits, mixed] -/
noncomputable section
namespace Fx
open PySem PySem.Spec PyProof.Rows L2

section
variable {K : PySem.W.Frag} {np : Nat} {W : Wd} {O O' : Own} {σ σ' : L2.St} {H H' : Hp} {Γ Γ' : Gm} {vs : List V} {ts : List TV}
theorem canLay_ints : ∀ (ns : List Int), PyData.canLayAll0 (ns.map .int) = true
  | [] => rfl
  | n :: ns => by
    show (PyData.canLay0 (.int n) && PyData.canLayAll0 (ns.map .int)) = true
    rw [canLay_ints ns]
    rfl
theorem depth_ints : ∀ (ns : List Int), PyData.depthAll (ns.map .int) = 0
  | [] => rfl
  | n :: ns => by
    show max (PyData.depth (.int n)) (PyData.depthAll (ns.map .int)) = 0
    rw [depth_ints ns]
    rfl
theorem shaped_ints (ns : List Int) : SeqAt.shaped (.list (ns.map .int)) = true := by
  unfold SeqAt.shaped
  rw [show PyData.canLay0 (.list (ns.map .int)) = PyData.canLayAll0 (ns.map .int) from rfl, canLay_ints, show PyData.depth (.list (ns.map .int)) = PyData.depthAll (ns.map .int) + 1 from rfl, depth_ints]
  rfl
theorem dpAll_ints : ∀ (ns : List Int), DpAll K H (ns.map V.int) (ns.map .int)
  | [] => .nil
  | n :: ns => .cons (.int n) (dpAll_ints ns)
theorem eqv_nil (ns : List Int) : PyData.eqv (.list (ns.map .int)) (.list []) = ns.isEmpty := by
  cases ns <;> rfl
def bagS (Γ : Gm) (i : Nat) : Option (List Int × Int × Int) := match Γ[i]? with
  | some (some (.bag c b m)) => some (c, b, m)
  | _ => none
theorem bagS_to {i : Nat} {c : List Int} {b m : Int} (e : bagS Γ i = some (c, b, m)) : Γ[i]? = some (some (.bag c b m)) := by
  unfold bagS at e
  split at e
  · rename_i h
    cases e
    exact h
  · cases e
theorem Cf.bagAt {i : Nat} {c : List Int} {b m : Int} (g : Cf K np W O σ H Γ vs ts) (hi : Γ[i]? = some (some (.bag c b m))) :
    ∃ x y, σ[i]? = some (some (.ref x)) ∧ x ≠ y ∧ O x = some (.slot i) ∧ O y = some (.slot i) ∧ H x = some (.lst [.ref y, .int b, .int m]) ∧ H y = some (.lst (c.map .int)) := by
  obtain ⟨v, e, x, y, rfl, ne, ox, oy, hx, hy⟩ := g.sl i _ hi
  exact ⟨x, y, e, ne, ox, oy, hx, hy⟩
end
section
variable {X : Cx} {np : Nat} {pos : Pos} {e : Expr} {f : FE}
/-- bag[1], bag[2] -/
def fBagIx (i : Nat) (k : Int) : FE := fun Γ => (bagS Γ i).bind fun p => if k = 1 then some (.md (.dat (.int p.2.1)), Γ) else if k = 2 then some (.md (.dat (.int p.2.2)), Γ) else none
theorem fx_bagIx (i : Nat) {k : Int} {x : Str} {px pk : Pos} {j} (hN : X.N[i]? = some x := by rfl) (hv : Vis X.env.scope x := by first | exact Or.inl rfl | exact Or.inr (Or.inl rfl) | exact Or.inr (Or.inr rfl)) (hd : (x == ("__debug__" : Str)) = false := by decide) (hcd : (x == ("__classdict__" : Str)) = false := by decide)
    (hs : PlainIx (.Constant (.int k) j pk) := by intro _ _; rfl) : FX X np (.Subscript (.Name x px) (.Constant (.int k) j pk) pos) (fBagIx i k) := by
  refine PE.weak (pe_ix ix_list (pe_var hN hv hd hcd) pe_int hs) fun σ H Q h => ?_
  obtain ⟨W, Γ, vs, ts, t, Γ', ⟨O, c⟩, e, q⟩ := h
  obtain ⟨⟨cs, b, m⟩, e1, e⟩ := Option.bind_eq_some_iff.mp e
  obtain ⟨a, y, ev, ne, oa, oy, ha, hy⟩ := c.bagAt (bagS_to e1)
  refine ⟨.ref a, ev, a, [.ref y, .int b, .int m], k, ?_⟩
  dsimp only at e
  split at e
  · rename_i hk
    cases e
    subst hk
    exact ⟨_, rfl, rfl, .of ha, rfl, q _ H ⟨O, c.push (t := .md (.dat (.int b))) (.int b)⟩⟩
  · split at e
    · rename_i hk
      cases e
      subst hk
      exact ⟨_, rfl, rfl, .of ha, rfl, q _ H ⟨O, c.push (t := .md (.dat (.int m))) (.int m)⟩⟩
    · cases e
/-- bag[0] != [] -/
def fBagNe (i : Nat) : FE := fun Γ => (bagS Γ i).map fun p => (.md (.dat (.bool (!p.1.isEmpty))), Γ)
theorem bagNe_read {i : Nat} {σ : L2.St} {H : Hp} {Q : VK} (h : up X.K np (fBagNe i) σ H Q) : tOp (rNeD X.K) (tOp (rIxL X.K) (tVar i) (tC (.int 0))) (tLst tNil) σ H Q := by
  obtain ⟨W, Γ, vs, ts, t, Γ', ⟨O, c⟩, e, q⟩ := h
  obtain ⟨⟨cs, b, m⟩, e1, e⟩ := Option.map_eq_some_iff.mp e
  cases e
  obtain ⟨a, y, ev, ne, oa, oy, ha, hy⟩ := c.bagAt (bagS_to e1)
  refine ⟨.ref a, ev, a, _, 0, .ref y, rfl, rfl, .of ha, rfl, Nat.zero_le _, fun p hp => ?_⟩
  have n := Ev.new (o := .lst []) c.dom hp
  have yp : y ≠ p := ne_of_none hy hp
  refine ⟨.list (cs.map .int), .list [], .lst (.of (by rw [upd_ne yp]; exact hy)) (dpAll_ints cs), .lst (.of upd_same) .nil, shaped_ints cs, rfl, ?_⟩
  rw [eqv_nil]
  exact q _ _ ⟨O, (c.ev0 n).push (t := .md (.dat (.bool (!cs.isEmpty)))) (.bl _)⟩
theorem fx_bagNe (i : Nat) {x : Str} {px pk ps pl : Pos} {j} (hu : X.A.units + 64 < cLine) (hN : X.N[i]? = some x := by rfl) (hv : Vis X.env.scope x := by first | exact Or.inl rfl | exact Or.inr (Or.inl rfl) | exact Or.inr (Or.inr rfl)) (hd : (x == ("__debug__" : Str)) = false := by decide) (hcd : (x == ("__classdict__" : Str)) = false := by decide)
    (hs : PlainIx (.Constant (.int 0) j pk) := by intro _ _; rfl) : FX X np (.Compare (.Subscript (.Name x px) (.Constant (.int 0) j pk) ps) [.NotEq] [.List [] pl] pos) (fBagNe i) :=
  PE.weak (pe_cmpR (op_neD hu) (pe_ix ix_list (pe_var hN hv hd hcd) pe_int hs) (pe_lst pa_nil) (nomark _)) fun _ _ _ h => bagNe_read h
theorem ft_bagNe (i : Nat) {x : Str} {px pk ps pl : Pos} {j} (hu : X.A.units + 64 < cLine) (hN : X.N[i]? = some x := by rfl) (hv : Vis X.env.scope x := by first | exact Or.inl rfl | exact Or.inr (Or.inl rfl) | exact Or.inr (Or.inr rfl)) (hd : (x == ("__debug__" : Str)) = false := by decide) (hcd : (x == ("__classdict__" : Str)) = false := by decide)
    (hs : PlainIx (.Constant (.int 0) j pk) := by intro _ _; rfl) : FTX X np (.Compare (.Subscript (.Name x px) (.Constant (.int 0) j pk) ps) [.NotEq] [.List [] pl] pos) (fT (fBagNe i)) := by
  refine PT.weak (pt_cmpR (op_neD hu) (pe_ix ix_list (pe_var hN hv hd hcd) pe_int hs) (pe_lst pa_nil) (nomark _)) fun σ H Q h => ?_
  exact bagNe_read (np := np) (asTest h)
/-- bag[0].pop() -/
def fBagPop (i : Nat) : FE := fun Γ => (bagS Γ i).bind fun p => p.1[p.1.length - 1]?.map fun n => (.md (.dat (.int n)), Γ.set i (some (.bag p.1.dropLast p.2.1 p.2.2)))
theorem fx_bagPop (i : Nat) {x : Str} {px pk ps pa : Pos} {j} (hN : X.N[i]? = some x := by rfl) (hv : Vis X.env.scope x := by first | exact Or.inl rfl | exact Or.inr (Or.inl rfl) | exact Or.inr (Or.inr rfl)) (hd : (x == ("__debug__" : Str)) = false := by decide) (hcd : (x == ("__classdict__" : Str)) = false := by decide)
    (hs : PlainIx (.Constant (.int 0) j pk) := by intro _ _; rfl) (h1 : attributeBase (.Subscript (.Name x px) (.Constant (.int 0) j pk) ps) "pop" X.env (eval (.Subscript (.Name x px) (.Constant (.int 0) j pk) ps) X.env) = eval (.Subscript (.Name x px) (.Constant (.int 0) j pk) ps) X.env := by rfl)
    (h3 : (pa.endLine == pos.line) = true := by rfl) : FX X np (.Call (.Attribute (.Subscript (.Name x px) (.Constant (.int 0) j pk) ps) "pop" pa) [] [] pos) (fBagPop i) := by
  refine PE.weak (pe_bm0 PySem.F.plainAttrs_list PySem.F.slot_list_pop PySem.F.type_list_pop mt_pop (pe_ix ix_list (pe_var hN hv hd hcd) pe_int hs) h1 h3) fun σ H Q h => ?_
  obtain ⟨W, Γ, vs, ts, t, Γ', ⟨O, c⟩, e, q⟩ := h
  obtain ⟨⟨cs, b, m⟩, e1, e⟩ := Option.bind_eq_some_iff.mp e
  obtain ⟨n, e2, e⟩ := Option.map_eq_some_iff.mp e
  cases e
  obtain ⟨a, y, ev, ne, oa, oy, ha, hy⟩ := c.bagAt (bagS_to e1)
  refine ⟨.ref a, ev, a, _, 0, .ref y, rfl, rfl, .of ha, rfl, .inl ⟨rfl, _, .of hy⟩, y, _, .int n, rfl, rfl, hy, ?_, ?_⟩
  · rw [List.length_map, List.getElem?_map, e2]
    rfl
  have w := Ev.write (o := .lst (cs.map V.int).dropLast) c.dom oy
  have c2 := c.mutS (m' := .bag cs.dropLast b m) (v := .ref a) (bagS_to e1) rfl w ev ⟨a, y, rfl, ne, oa, oy, by rw [upd_ne ne]; exact ha, by rw [upd_same, List.map_dropLast]⟩ rfl
  exact q _ _ ⟨O, c2.push (t := .md (.dat (.int n))) (.int n)⟩
/-- bag[1] = e, bag[2] = e -/
def fBagPut (i : Nat) (k : Int) (f : FE) : FS := fun Γ => (f Γ).bind fun p => (intT p.1).bind fun n => (bagS p.2 i).bind fun b => if k = 1 then some (.nx (p.2.set i (some (.bag b.1 n b.2.2)))) else if k = 2 then some (.nx (p.2.set i (some (.bag b.1 b.2.1 n)))) else none
theorem fs_bagPut (i : Nat) {k : Int} {x : Str} {px ps pk : Pos} {v : Expr} {j} (hv' : FX X np v f) (hN : X.N[i]? = some x := by rfl) (hv : Vis X.env.scope x := by first | exact Or.inl rfl | exact Or.inr (Or.inl rfl) | exact Or.inr (Or.inr rfl)) (hd : (x == ("__debug__" : Str)) = false := by decide) (hcd : (x == ("__classdict__" : Str)) = false := by decide)
    (h0 : ∀ v, assign (.Subscript (.Name x px) (.Constant (.int k) j pk) ps) X.env v = (do
      let ov ← holding [v] (eval (.Name x px) X.env)
      let iv ← holding [v, ov] (eval (.Constant (.int k) j pk) X.env)
      standAt ps
      holding [v, ov, iv] (setItem ov iv v)
      release [v, ov, iv] []) := by intro _; rfl)
    (hs : swapsWithSole [.Subscript (.Name x px) (.Constant (.int k) j pk) ps] v pos.line X.env = pure false := by rfl) (hw : swappedStores [.Subscript (.Name x px) (.Constant (.int k) j pk) ps] v X.env = pure none := by rfl)
    (h1 : (assignEach [.Subscript (.Name x px) (.Constant (.int k) j pk) ps] X.env).map (·.2) = [assign (.Subscript (.Name x px) (.Constant (.int k) j pk) ps) X.env] := by rfl) :
    FSX X np (.Assign [.Subscript (.Name x px) (.Constant (.int k) j pk) ps] v pos) (fBagPut i k f) := by
  refine PS.weak (ps_asg hv' (pg_sub (pe_var hN hv hd hcd) pe_int set_list h0) hs hw h1) fun D σ H h => ?_
  obtain ⟨W, Γ, vs, ds, o, c, e, q⟩ := h
  obtain ⟨⟨t1, Γ1⟩, g1, e⟩ := Option.bind_eq_some_iff.mp e
  obtain ⟨n, g2, e⟩ := Option.bind_eq_some_iff.mp e
  obtain ⟨⟨cs, b, m⟩, g3, e⟩ := Option.bind_eq_some_iff.mp e
  have h1' : t1 = .md (.dat (.int n)) := intT_to g2
  subst h1'
  refine ⟨W, Γ, vs, tsd ds, _, Γ1, c, g1, fun z H1 c1 => ?_⟩
  obtain ⟨O, c1⟩ := c1
  obtain ⟨a, y, ev, ne, oa, oy, ha, hy⟩ := c1.bagAt (bagS_to g3)
  have rz : Fz X.K O H1 (.int n) z := c1.top
  cases rz
  refine ⟨.ref a, ev, a, [.ref y, .int b, .int m], k, ?_⟩
  dsimp only at e
  split at e
  · rename_i hk
    cases e
    subst hk
    refine ⟨1, rfl, rfl, ha, rfl, ?_⟩
    have w := Ev.write (o := .lst [.ref y, .int n, .int m]) c1.dom oa
    exact q _ _ ⟨O, (c1.pop.mutS (m' := .bag cs n m) (v := .ref a) (bagS_to g3) rfl w ev ⟨a, y, rfl, ne, oa, oy, upd_same, by rw [upd_ne ne.symm]; exact hy⟩ rfl)⟩
  · split at e
    · rename_i hk
      cases e
      subst hk
      refine ⟨2, rfl, rfl, ha, rfl, ?_⟩
      have w := Ev.write (o := .lst [.ref y, .int b, .int n]) c1.dom oa
      exact q _ _ ⟨O, (c1.pop.mutS (m' := .bag cs b n) (v := .ref a) (bagS_to g3) rfl w ev ⟨a, y, rfl, ne, oa, oy, upd_same, by rw [upd_ne ne.symm]; exact hy⟩ rfl)⟩
    · cases e
/-- [cells, b, m], the cells a new list of whole numbers -/
def fMkBag (fa fb fc : FE) : FE := fun Γ => (fa Γ).bind fun p => (fb p.2).bind fun p2 => (fc p2.2).bind fun p3 => (intT p2.1).bind fun b => (intT p3.1).bind fun m => match p.1 with
  | .md (.lst ds) => (intsOf ds).map fun ns => (.md (.bag ns b m), p3.2)
  | _ => none
theorem fx_mkBag {a b c : Expr} {fa fb fc : FE} (ha : FX X np a fa) (hb : FX X np b fb) (hc : FX X np c fc) (n1 : starEach [a, b, c] X.env = (false, eval a X.env) :: starEach [b, c] X.env := by rfl) (n2 : starEach [b, c] X.env = (false, eval b X.env) :: starEach [c] X.env := by rfl)
    (n3 : starEach [c] X.env = (false, eval c X.env) :: starEach [] X.env := by rfl) : FX X np (.List [a, b, c] pos) (fMkBag fa fb fc) := by
  refine PE.weak (pe_lst (pa_cons ha (pa_cons hb (pa_cons hc pa_nil n3) n2) n1)) fun σ H Q h => ?_
  obtain ⟨W, Γ, vs, ts, t, Γ', c, e, q⟩ := h
  obtain ⟨⟨t1, Γ1⟩, e1, e⟩ := Option.bind_eq_some_iff.mp e
  obtain ⟨⟨t2, Γ2⟩, e2, e⟩ := Option.bind_eq_some_iff.mp e
  obtain ⟨⟨t3, Γ3⟩, e3, e⟩ := Option.bind_eq_some_iff.mp e
  obtain ⟨b, e4, e⟩ := Option.bind_eq_some_iff.mp e
  obtain ⟨m, e5, e⟩ := Option.bind_eq_some_iff.mp e
  have h2 : t2 = .md (.dat (.int b)) := intT_to e4
  subst h2
  have h3 : t3 = .md (.dat (.int m)) := intT_to e5
  subst h3
  refine ⟨W, Γ, vs, ts, t1, Γ1, c, e1, fun x H1 c1 => ⟨W, Γ1, _, _, _, Γ2, c1, e2, fun y H2 c2 => ⟨W, Γ2, _, _, _, Γ3, c2, e3, fun z H3 c3 => ?_⟩⟩⟩
  cases t1 with
  | al k => cases e
  | md md =>
    cases md with
    | lst ds =>
      obtain ⟨ns, e6, e⟩ := Option.map_eq_some_iff.mp e
      cases e
      obtain ⟨O, c3⟩ := c3
      have rz : Fz X.K O H3 (.int m) z := c3.top
      have ry : Fz X.K O H3 (.int b) y := c3.pop.top
      cases rz
      cases ry
      obtain ⟨a, ws, rfl, oa, ha', fa'⟩ := (show MR X.K O H3 (.tmp ts.length) (.lst ds) x from c3.pop.pop.top)
      rw [intsOf_to e6] at fa'
      rw [fa'.intsV] at ha'
      refine ⟨by show 3 ≤ sizeLine; decide, fun p hp => ?_⟩
      have n := Ev.newOwn (o := .lst [.ref a, .int b, .int m]) (t := .tmp ts.length) (by simp) c3.dom hp
      have ap : a ≠ p := ne_of_none ha' hp
      exact q _ _ ⟨_, (c3.pop.pop.pop.ev0 n).push (t := .md (.bag ns b m)) ⟨p, a, rfl, ap.symm, put_same, by rw [put_ne ap]; exact oa, upd_same, by rw [upd_ne ap]; exact ha'⟩⟩
    | _ => cases e
end
end Fx

end

/-! Fx12: defs of the text, calls by place and by names, unpacking, chains -/
noncomputable section
namespace Fx
open PySem PySem.Spec PyProof.Rows L2

/-- a def of the text that keeps its meaning F, at level j -/
structure Def (P : Program) (w : World) (K : PySem.W.Frag) (mg : Str → Option Value) (base : Heap) (j : Nat) (x : Str) (st : Stmt) (ps : List Str) (F : FF) : Prop where
  ex : ∃ f fd, Fun K x x st f fd ∧ FnG P w K mg base j f fd ps (spF K F) ∧ mg x = some (.ref f)
  bd : ∀ (kV doc pm : Value) (an : Option Addr) (cdv ct : Value) (us : List Value), us.length = ps.length → bindArgs (PySem.W.fnOf x x (defArgs st) (defBody st) (defScope st) .none kV doc pm an cdv ct) ⟨us, []⟩ = pure (ps.zip us)
def At (K : PySem.W.Frag) (mg : Str → Option Value) (x : Str) (st : Stmt) : Prop := ∃ f fd, Fun K x x st f fd ∧ mg x = some (.ref f)
theorem def_ok {P : Program} {w : World} {K : PySem.W.Frag} {mg : Str → Option Value} {base : Heap} {x : Str} {st : Stmt} {ps N : List Str} {g : FS} (k : Nat) (E : At K mg x st) (S : FnScope N ps (defScope st))
    (bd : ∀ (kV doc pm : Value) (an : Option Addr) (cdv ct : Value) (us : List Value), us.length = ps.length → bindArgs (PySem.W.fnOf x x (defArgs st) (defBody st) (defScope st) .none kV doc pm an cdv ct) ⟨us, []⟩ = pure (ps.zip us))
    (hbody : ∀ (f : Addr) (cdv : Value) (A : Around) (outer : List Env) (s : Shared) (H : Hp) (E : XK), RoomG k (A.deeper (envOfC x (defScope st) s.heap.objs.size f cdv)) →
      FSsX (cxOf CX0 P w K mg base N x (defScope st) f cdv A outer s H E).nox ps.length (defBody st) g) : Def P w K mg base (k + 1) x st ps (fnOf ps.length N.length g) := by
  obtain ⟨f, fd, F, hm⟩ := E
  exact ⟨⟨f, fd, F, fn_ok F S fun cdv A outer s H Q E hr => hbody f cdv A outer s H E hr, hm⟩, bd⟩
theorem Def.mono {P : Program} {w : World} {K : PySem.W.Frag} {mg : Str → Option Value} {base : Heap} {i j : Nat} {x : Str} {st : Stmt} {ps : List Str} {F : FF} (D : Def P w K mg base i x st ps F) (h : i ≤ j) : Def P w K mg base j x st ps F := by
  obtain ⟨⟨f, fd, a, b, c⟩, d⟩ := D
  exact ⟨⟨f, fd, a, b.mono h, c⟩, d⟩
theorem Def.imp {P : Program} {w : World} {K : PySem.W.Frag} {mg : Str → Option Value} {base : Heap} {i : Nat} {x : Str} {st : Stmt} {ps : List Str} {F G : FF} (D : Def P w K mg base i x st ps F) (h : ∀ ms r, G ms = some r → F ms = some r) : Def P w K mg base i x st ps G := by
  obtain ⟨⟨f, fd, a, b, c⟩, d⟩ := D
  refine ⟨⟨f, fd, a, b.imp fun vs H Q E q => ?_, c⟩, d⟩
  obtain ⟨O, ms, r, ms', q1, q2, q3, q4, q5, q6⟩ := q
  exact ⟨O, ms, r, ms', q1, q2, q3, q4, h _ _ q5, q6⟩

section
variable {X : Cx} {np k : Nat} {st : Stmt} {ps ks : List Str} {x : Str} {p pos : Pos} {e : Expr} {es : List Expr} {F : FF} {fs fk : FA} {kws : List Keyword}
theorem fx_callD (D : Def X.prog X.w X.K X.mg X.base k x st ps F) (hr : RoomG k X.A) (ha : FAX X np (e :: es) fs) (hg : Gl X x := by rfl) (hdb : (x == ("__debug__" : Str)) = false := by decide) (he : starEach (e :: es) X.env = (false, eval e X.env) :: starEach es X.env := by rfl) (hpl : (backTo pos (starEach es X.env)).any (·.1) = false := by rfl) :
    FX X np (.Call (.Name x p) (e :: es) [] pos) (fCall F fs) := by
  obtain ⟨⟨f, fd, Fn, G, hm⟩, bd⟩ := D
  exact fx_call G hr hm Fn.kp (Fn.binds bd) ha hg hdb he hpl

/-- keywords -/
def FKX (X : Cx) (np : Nat) (ks : List Keyword) (f : FA) : Prop := PK X ks (upA X.K np f)
theorem PK.weak {X : Cx} {e : List Keyword} {t t' : TA} (h : PK X e t) (w : ∀ σ H Q, t' σ H Q → t σ H Q) : PK X e t' := ⟨fun pos pins s σ H Q I q => h.run pos pins s σ H Q I (w σ H Q q)⟩
theorem fk_nil : FKX X np [] fANil := by
  refine PK.weak pk_nil fun σ H Q h => ?_
  obtain ⟨W, Γ, vs, ts, us, Γ', c, e, q⟩ := h
  cases e
  exact q [] H c rfl
theorem fk_cons {fa : FE} {nm : Option Str} {kp : Pos} (ha : FX X np e fa) (hr : FKX X np kws fs) : FKX X np (⟨nm, e, kp⟩ :: kws) (fACons fa fs) := by
  refine PK.weak (pk_cons ha hr) fun σ H Q h => ?_
  obtain ⟨W, Γ, vs, ts, us, Γ', c, e, q⟩ := h
  obtain ⟨⟨t1, Γ1⟩, e1, e⟩ := Option.bind_eq_some_iff.mp e
  obtain ⟨⟨us', Γ2⟩, e2, e⟩ := Option.map_eq_some_iff.mp e
  cases e
  refine ⟨W, Γ, vs, ts, t1, Γ1, c, e1, fun x H1 c1 => ⟨W, Γ1, x :: vs, t1 :: ts, us', Γ2, c1, e2, fun xs H2 c2 hl => q (x :: xs) H2 ?_ (by simp [hl])⟩⟩
  rw [List.reverse_cons, List.reverse_cons, List.append_assoc, List.append_assoc]
  exact c2
def gK (n m : Nat) (js : List Nat) (us ws : List Value) : List Value := if us.length = n ∧ ws.length = m then js.map fun j => (us ++ ws).getD j .none else []
def gKV (n m : Nat) (js : List Nat) (us ws : List V) : List V := if us.length = n ∧ ws.length = m then js.map fun j => (us ++ ws).getD j .non else []
theorem vals_getD {xs : List V} {us : List Value} (r : Vals xs us) (j : Nat) : RelV (xs.getD j .non) (us.getD j .none) := by
  rw [List.getD_eq_getElem?_getD, List.getD_eq_getElem?_getD]
  cases h : xs[j]? with
  | none =>
    rw [r.none_of h]
    rfl
  | some x =>
    obtain ⟨u, e, q⟩ := r.get h
    rw [e]
    exact q
theorem gK_rel {n m : Nat} {js : List Nat} {vs zs : List V} {us ws : List Value} (r : Vals vs us) (r' : Vals zs ws) : Vals (gKV n m js vs zs) (gK n m js us ws) := by
  unfold gKV gK
  rw [r.length, r'.length]
  split
  · have : ∀ js : List Nat, Vals (js.map fun j => (vs ++ zs).getD j .non) (js.map fun j => (us ++ ws).getD j .none) := by
      intro js
      induction js with
      | nil => exact .nil
      | cons j js ih => exact .cons (vals_getD (r.append r') j) ih
    exact this js
  · exact .nil
theorem kbinds {K : PySem.W.Frag} {fd : FuncData} {n m : Nat} {js : List Nat} (h0 : 0 < ps.length) (h : ∀ us ws : List Value, us.length = n → ws.length = m → bindArgs fd ⟨us, ks.zip ws⟩ = pure (ps.zip (js.map fun j => (us ++ ws).getD j .none))) : KBinds K fd ps ks (gK n m js) (gKV n m js) := by
  refine ⟨fun s us ws _ hl => ?_, gK_rel⟩
  unfold gK at hl ⊢
  split at hl
  · rename_i hh
    rw [if_pos hh]
    exact .of_eq (h us ws hh.1 hh.2)
  · simp at hl
    omega
theorem kw0_run {f : Addr} {fd : FuncData} {sp : Sp} {tk : TA} {g : List Value → List Value → List Value} {gV : List V → List V → List V} (G : FnG X.prog X.w X.K X.mg X.base k f fd ps sp) (hr : RoomG k X.A) (hg : Gl X x) (hm : X.mg x = some (.ref f)) (hk : PySem.W.keepIn X.K (.ref f) = true) (hb : KBinds X.K fd ps ks g gV)
    (hkw : PK X kws tk) (hall : (backToKw pos (keywordEach kws X.env)).all (·.1.isSome) = true) (hks : (backToKw pos (keywordEach kws X.env)).filterMap (·.1) = ks) (hdb : (x == ("__debug__" : Str)) = false)
    (hpl : ((backTo pos (starEach [] X.env)).any (·.1) || (backToKw pos (keywordEach kws X.env)).any (·.1.isNone)) = false) : PE X (.Call (.Name x p) [] kws pos) (fun σ H Q => tk σ H fun zs H2 => sp (gV [] zs) H2 Q E0) := by
  constructor
  intro pins s σ H Q I q
  apply wpAny_Call_Name_kw
  apply ld_glob I hg hm _ hdb
  apply PySem.W.callWith_KW0 (h₀ := X.base) I.ok.mod.kin hk hall _ hpl
  apply thn (hkw.run pos pins s σ H _ I q)
  rintro ws s2 ⟨zs, H2, I2, rz, q2⟩
  refine ⟨I2.kIn, ?_⟩
  rw [hks]
  exact callGk (us := []) (vs := []) G hr hb I2 .nil rz q2
/-- the temporaries in the parameters' order -/
def perm (js : List Nat) (us : List TV) : List TV := js.filterMap fun j => us[j]?
def permOk (js : List Nat) (us : List TV) : Bool := js.all fun j => decide (j < us.length)
def fCallK (F : FF) (m : Nat) (js : List Nat) (fs : FA) : FE := fun Γ => (fs Γ).bind fun p => if p.1.length = m ∧ permOk js p.1 = true ∧ (als (perm js p.1)).Nodup then (argsOf p.2 (perm js p.1)).bind fun ms => (F ms).bind fun r => (putArgs (perm js p.1) r.2 p.2).map fun Γ' => (.md r.1, Γ') else none
theorem perm_pair {R : V → TV → Prop} {xs : List V} {us : List TV} (h : Paired R xs us) : ∀ (js : List Nat), permOk js us = true → Paired R (js.map fun j => xs.getD j .non) (perm js us)
  | [], _ => .nil
  | j :: js, hj => by
    unfold permOk at hj
    rw [List.all_cons, Bool.and_eq_true] at hj
    have hlt : j < us.length := of_decide_eq_true hj.1
    have e : us[j]? = some us[j] := List.getElem?_eq_getElem hlt
    obtain ⟨x, hx, r⟩ := Paired.get2 h e
    unfold perm
    rw [List.filterMap_cons, e, List.map_cons, List.getD_eq_getElem?_getD, hx]
    exact .cons r (perm_pair h js hj.2)
theorem fx_callK0 {m : Nat} {js : List Nat} (D : Def X.prog X.w X.K X.mg X.base k x st ps F) (hr : RoomG k X.A) (h0 : 0 < ps.length)
    (hb : ∀ (kV doc pm : Value) (an : Option Addr) (cdv ct : Value) (us ws : List Value), us.length = 0 → ws.length = m → bindArgs (PySem.W.fnOf x x (defArgs st) (defBody st) (defScope st) .none kV doc pm an cdv ct) ⟨us, ks.zip ws⟩ = pure (ps.zip (js.map fun j => (us ++ ws).getD j .none)))
    (hkw : FKX X np kws fk) (hall : (backToKw pos (keywordEach kws X.env)).all (·.1.isSome) = true := by rfl) (hks : (backToKw pos (keywordEach kws X.env)).filterMap (·.1) = ks := by rfl) (hg : Gl X x := by rfl) (hdb : (x == ("__debug__" : Str)) = false := by decide)
    (hpl : ((backTo pos (starEach [] X.env)).any (·.1) || (backToKw pos (keywordEach kws X.env)).any (·.1.isNone)) = false := by rfl) : FX X np (.Call (.Name x p) [] kws pos) (fCallK F m js fk) := by
  obtain ⟨⟨f, fd, Fn, G, hm⟩, bd⟩ := D
  have hkb : KBinds X.K fd ps ks (gK 0 m js) (gKV 0 m js) := by
    obtain ⟨oc, od, kV, doc, pm, an, cdv, ct, osl, rfl, _, _⟩ := Fn.ex
    exact kbinds h0 (hb kV doc pm an cdv ct)
  refine PE.weak (kw0_run G hr hg hm Fn.kp hkb hkw hall hks hdb hpl) fun σ H Q h => ?_
  obtain ⟨W, Γ, vs, ts, t, Γ', c, e, q⟩ := h
  obtain ⟨⟨us, Γ1⟩, e1, e⟩ := Option.bind_eq_some_iff.mp e
  dsimp only at e
  split at e
  · rename_i hh
    obtain ⟨ms, e2, e⟩ := Option.bind_eq_some_iff.mp e
    obtain ⟨⟨r, ms'⟩, e3, e⟩ := Option.bind_eq_some_iff.mp e
    obtain ⟨Γ2, e4, e⟩ := Option.map_eq_some_iff.mp e
    cases e
    refine ⟨W, Γ, vs, ts, us, Γ1, c, e1, fun xs H1 c1 el => ?_⟩
    obtain ⟨O, c1⟩ := c1
    obtain ⟨pr, c2⟩ := c1.args el
    have e5 : gKV 0 m js [] xs = js.map fun j => xs.getD j .non := by
      unfold gKV
      rw [if_pos ⟨rfl, by rw [el]; exact hh.1⟩, List.nil_append]
    rw [e5]
    exact callF c2 (perm_pair pr js hh.2.1) hh.2.2 e2 e3 e4 q
  · cases e

/-! ### unpacking, one-place operators, chains -/
def fAsgG (f : FE) (g : FG) : FS := fun Γ => (f Γ).bind fun p => (frz p.1).bind fun d => (g d p.2).map .nx
theorem fs_asgG {tg : Expr} {f : FE} {g : FG} {is : List Nat} (he : FX X np e f) (hg : FGX X np is tg g) (hs : swapsWithSole [tg] e pos.line X.env = pure false := by rfl) (hw : swappedStores [tg] e X.env = pure none := by rfl)
    (h1 : (assignEach [tg] X.env).map (·.2) = [assign tg X.env] := by rfl) : FSX X np (.Assign [tg] e pos) (fAsgG f g) := by
  refine PS.weak (ps_asg he hg hs hw h1) fun D σ H h => ?_
  obtain ⟨W, Γ, vs, ds, o, c, e, q⟩ := h
  obtain ⟨⟨t1, Γ1⟩, e1, e⟩ := Option.bind_eq_some_iff.mp e
  obtain ⟨d, e2, e⟩ := Option.bind_eq_some_iff.mp e
  obtain ⟨Γ2, e3, e⟩ := Option.map_eq_some_iff.mp e
  cases e
  have h1' : t1 = .md (.dat d) := frz_to e2
  subst h1'
  exact ⟨W, Γ, vs, tsd ds, _, Γ1, c, e1, fun v H1 c1 => ⟨W, Γ1, vs, tsd ds, d, Γ2, c1, e3, fun σ' H' c' _ => q σ' H' c'⟩⟩
def fNeg (f : FE) : FE := fun Γ => (f Γ).bind fun p => (intT p.1).map fun i => (.md (.dat (.int (-i))), p.2)
theorem fx_neg {f : FE} (he : FX X np e f) : FX X np (.UnaryOp .USub e pos) (fNeg f) := by
  refine PE.weak (pe_un un_neg he) fun σ H Q h => ?_
  obtain ⟨W, Γ, vs, ts, t, Γ', c, e, q⟩ := h
  obtain ⟨⟨t1, Γ1⟩, e1, e⟩ := Option.bind_eq_some_iff.mp e
  obtain ⟨i, e2, e⟩ := Option.map_eq_some_iff.mp e
  cases e
  have h1' : t1 = .md (.dat (.int i)) := intT_to e2
  subst h1'
  refine ⟨W, Γ, vs, ts, _, Γ1, c, e1, fun v H1 c1 => ?_⟩
  obtain ⟨O, c1⟩ := c1
  have r : Fz X.K O H1 (.int i) v := c1.top
  cases r
  exact ⟨i, rfl, q _ H1 ⟨O, c1.pop.push (t := .md (.dat (.int (-i)))) (.int _)⟩⟩
/-- a op b op' c -/
def fChain (g g' : PyData → PyData → Option Res) (fa fb fc : FE) : FE := fun Γ => (fa Γ).bind fun p => (fb p.2).bind fun p2 => (dv p2.2 p.1).bind fun d => (dv p2.2 p2.1).bind fun e => (g d e).bind fun r => match r with
  | .val (.bool true) => (fc p2.2).bind fun p3 => (dv p3.2 p2.1).bind fun e' => (dv p3.2 p3.1).bind fun c => (g' e' c).map fun r => (r.fin false, p3.2)
  | .val (.bool false) => some (.md (.dat (.bool false)), p2.2)
  | _ => none
theorem chain_read {a b c : Expr} {fa fb fc : FE} {r r' : R2} {g g' : PyData → PyData → Option Res} (hg : Snd2 X.K r g) (hg' : Snd2 X.K r' g') {σ : L2.St} {H : Hp} {Q : VK} (h : up X.K np (fChain g g' fa fb fc) σ H Q) :
    tChain r r' (up X.K np fa) (up X.K np fb) (up X.K np fc) σ H Q := by
  obtain ⟨W, Γ, vs, ts, t, Γ', c, e, q⟩ := h
  obtain ⟨⟨t1, Γ1⟩, e1, e⟩ := Option.bind_eq_some_iff.mp e
  obtain ⟨⟨t2, Γ2⟩, e2, e⟩ := Option.bind_eq_some_iff.mp e
  obtain ⟨d1, e3, e⟩ := Option.bind_eq_some_iff.mp e
  obtain ⟨d2, e4, e⟩ := Option.bind_eq_some_iff.mp e
  obtain ⟨s, e5, e⟩ := Option.bind_eq_some_iff.mp e
  refine ⟨W, Γ, vs, ts, t1, Γ1, c, e1, fun x H1 c1 => ⟨W, Γ1, x :: vs, t1 :: ts, t2, Γ2, c1, e2, fun y H2 c2 => ?_⟩⟩
  obtain ⟨O, c2⟩ := c2
  refine hg O H2 x y d1 d2 s _ c2.dom (c2.view c2.tm.2.1 e3) (c2.view c2.tm.1 e4) e5 fun v H' ok => ?_
  split at e
  · obtain ⟨ev, rv⟩ := ok
    cases rv
    obtain ⟨⟨t3, Γ3⟩, e6, e⟩ := Option.bind_eq_some_iff.mp e
    obtain ⟨d2', e7, e⟩ := Option.bind_eq_some_iff.mp e
    obtain ⟨d3, e8, e⟩ := Option.bind_eq_some_iff.mp e
    obtain ⟨s', e9, e⟩ := Option.map_eq_some_iff.mp e
    cases e
    refine ⟨true, rfl, iteT ⟨W, Γ2, _, _, t3, Γ3, ⟨O, c2.ev0 ev⟩, e6, fun z H3 c3 => ?_⟩⟩
    obtain ⟨O3, c3⟩ := c3
    exact hg' O3 H3 y z d2' d3 s' Q c3.dom (c3.view c3.pop.top e7) (c3.view c3.top e8) e9 fun v H' ok => q v H' (c3.pop.pop.pop.res ok)
  · obtain ⟨ev, rv⟩ := ok
    cases rv
    cases e
    exact ⟨false, rfl, iteF (q _ _ ⟨O, (c2.pop.pop.ev0 ev).push (t := .md (.dat (.bool false))) (.bl _)⟩)⟩
  · cases e
theorem fx_chain {a b c : Expr} {fa fb fc : FE} {op op' : CmpOp} {r r' : R2} {g g' : PyData → PyData → Option Res} (ho : OpR X (compareOp op) r) (hg : Snd2 X.K r g) (ho' : OpR X (compareOp op') r') (hg' : Snd2 X.K r' g') (ha : FX X np a fa) (hb : FX X np b fb) (hc : FX X np c fc)
    (hm : lastMarks [op, op'] [b, c] = false := by with_unfolding_all rfl) : FX X np (.Compare a [op, op'] [b, c] pos) (fChain g g' fa fb fc) :=
  PE.weak (pe_chain ho ho' ha hb hc hm) fun _ _ _ h => chain_read (a := a) (b := b) (c := c) hg hg' h
theorem ft_chain {a b c : Expr} {fa fb fc : FE} {op op' : CmpOp} {r r' : R2} {g g' : PyData → PyData → Option Res} (ho : OpR X (compareOp op) r) (hg : Snd2 X.K r g) (ho' : OpR X (compareOp op') r') (hg' : Snd2 X.K r' g') (ha : FX X np a fa) (hb : FX X np b fb) (hc : FX X np c fc)
    (hm : lastMarks [op, op'] [b, c] = false := by with_unfolding_all rfl) : FTX X np (.Compare a [op, op'] [b, c] pos) (fT (fChain g g' fa fb fc)) := by
  refine PT.weak (pt_chain ho ho' ha hb hc hm) fun σ H Q h => ?_
  exact chain_read (np := np) (a := a) (b := b) (c := c) hg hg' (asTest h)
end
end Fx

end

set_option maxHeartbeats 1000000
/-! Fx13: list(iterator): list(reversed(x)), list(zip(x, y)) -/
noncomputable section
namespace Fx
open PySem PySem.Spec PyProof.Rows L2

abbrev listAt (h : Heap) (S : Addr) (acc : Array Value) (c : Nat) : Prop := h.get? S = some { cls := .type "list", dict := none, data := .seq acc c, slots := #[] }
/-- what list(..) asks of an iterator at r; fp: what it lives in -/
structure Src (prog : Program) (w : World) (T : String) (r : Addr) (fp : List Addr) (St : Heap → Prop) : Prop where
  ty : ∀ t : Shared, St t.heap → t.TypeIs (.ref r) T
  mem : r ∈ fp
  lt : ∀ g, St g → ∀ b ∈ fp, b < g.objs.size
  kp : ∀ g g', St g → (∀ b ∈ fp, ∀ o, g.get? b = some o → g'.get? b = some o) → St g'
  nl : (Value.type T == Value.type "list") = false
  nt : (Value.type T == Value.type "tuple") = false
  it : ∀ (B : Around) (F : Value → Shared → Prop) (t : Shared) (Q : Value → Shared → Prop), St t.heap → Q (.ref r) t → wpAny (model prog w) B (pyIter (.ref r)) Q F t
  hi : ∀ (B : Around) (F : Value → Shared → Prop) (t : Shared) (Q : Bool → Shared → Prop), St t.heap → (∀ b, Q b t) → wpAny (model prog w) B (Builtin.List.listLengthHint (.ref r)) Q F t
section
variable {prog : Program} {w : World} {A : Around} {E : Value → Shared → Prop} {s : Shared} {T : String} {r S : Addr} {fp : List Addr} {St : Heap → Prop} {R : Result → Shared → Prop}
def loopCode (S r : Addr) (res : Value) : Code := .builtin "list.extend.loop" ⟨[.ref S, .ref r, res], []⟩
theorem src_extend (C : Src prog w T r fp St) (st : St s.heap) (hS : S ∉ fp) (res : Value) {c0 : Nat} (at0 : listAt s.heap S #[] c0)
    (lp : ∀ (g : Heap) (c : Nat), St g → (∀ b o, b ≠ S → s.heap.get? b = some o → g.get? b = some o) → listAt g S #[] c → codeAny (model prog w) A (loopCode S r res) R { s with heap := g }) :
    wpAny (model prog w) A.in1 (Builtin.List.listExtendWith (.ref S) (.ref r) res) (fun fin t => match fin with | .done f => R (.ok f) t | .again c' => c'.quiet = true ∧ codeAny (model prog w) A c' R t) (fun e t => R (.error e) t) s := by
  have ne : S ≠ r := fun z => hS (z ▸ C.mem)
  unfold Builtin.List.listExtendWith
  refine wpAny_bind (wpAny_typeOf (T := T) (C.ty s st) ?_)
  have e1 : Builtin.List.listSameRef (.ref S) (.ref r) = false := by simp [Builtin.List.listSameRef, ne]
  simp only [e1, C.nl, C.nt, Bool.or_false, Bool.false_eq_true, if_false]
  refine wpAny_bind (C.it _ _ _ _ st ?_)
  refine wpAny_bind (wpAny_holding (C.hi _ _ _ _ st fun roomy => ?_))
  have q0 : (PySem.Code.builtin "list.extend.loop" ⟨[.ref S, .ref r, res], []⟩).quiet = true := plainId_quiet PySem.F.plain_extend_loop _
  refine wpAny_ite_split (fun _ => ?_) (fun _ => wpAny_pure ⟨q0, lp s.heap c0 st (fun _ _ _ e => e) at0⟩)
  refine wpAny_bind (wpAny_rule ?_)
  refine wpAny_bind ?_
  show wpAny _ _ (updateSeq S (fun a => a.push .none) >>= fun _ => updateSeq S (fun a => a.pop)) _ _ _
  refine wpAny_bind (wpAny_updateSeq at0 rfl ?_)
  have at1 := Heap.get?_update_self (Obj.mapSeq (fun a => a.push Value.none)) at0 rfl
  refine wpAny_updateSeq (hz := by seq_fits) at1 rfl ?_
  have at2 := Heap.get?_update_self (Obj.mapSeq (fun a => a.pop)) at1 rfl
  have kp2 : ∀ b o, b ≠ S → s.heap.get? b = some o → ((s.heap.update S (Obj.mapSeq (fun a => a.push Value.none))).update S (Obj.mapSeq (fun a => a.pop))).get? b = some o := fun b o nb e =>
    (Heap.get?_update_other _ _ nb.symm).trans ((Heap.get?_update_other _ _ nb.symm).trans e)
  exact wpAny_pure ⟨q0, lp _ _ (C.kp _ _ st fun b hb o e => kp2 b o (fun z => hS (z ▸ hb)) e) kp2 at2⟩
theorem src_call {Q : Value → Shared → Prop} (C : Src prog w T r fp St) (st : St s.heap)
    (lp : ∀ (R : Result → Shared → Prop) (g : Heap) (c : Nat), St g → (∀ b o, s.heap.get? b = some o → g.get? b = some o) → listAt g s.heap.objs.size #[] c → (∀ t, Q (.ref s.heap.objs.size) t → R (.ok (.ret .none)) t) →
      codeAny (model prog w) A.in1 (loopCode s.heap.objs.size r .none) R { s with heap := g }) :
    wpAny (model prog w) A (call (.type "list") [.ref r]) Q E s := by
  refine callType_codes (Q₁ := fun ob t => ob = .ref s.heap.objs.size ∧ t = { s with heap := s.heap.push { cls := .type "list", data := .seq #[] } }) PySem.F.called_list (PySem.F.typeCall_list_1 _) PySem.F.entry_list_init
    (code_list_new _ ⟨rfl, rfl⟩) fun ob t ht => ?_
  obtain ⟨e1, e2⟩ := ht
  subst e1 e2
  have at0 : (s.heap.push { cls := .type "list", data := .seq #[] }).get? s.heap.objs.size = some { cls := .type "list", data := .seq #[] } := Heap.get?_push_size _ rfl
  have hS : s.heap.objs.size ∉ fp := fun z => Nat.lt_irrefl _ (C.lt _ st _ z)
  refine ⟨⟨_, at0, rfl⟩, PySem.F.args_list_init_2 _ _, ?_⟩
  show wpAny _ _ (do let old ← Builtin.List.listItems (.ref s.heap.objs.size); Builtin.List.listUpdate (.ref s.heap.objs.size) (fun _ => #[]); letGo old.toList.reverse; Builtin.List.listExtendWith (.ref s.heap.objs.size) (.ref r) .none) _ _ _
  refine wpAny_bind ?_
  unfold Builtin.List.listItems
  refine wpAny_bind (wpAny_seqItems at0 rfl (wpAny_pure ?_))
  show wpAny _ _ (updateSeq s.heap.objs.size (fun _ => #[]) >>= fun _ => letGo (#[] : Array Value).toList.reverse >>= fun _ => Builtin.List.listExtendWith (.ref s.heap.objs.size) (.ref r) .none) _ _ _
  refine wpAny_bind (wpAny_updateSeq at0 rfl ?_)
  have at1 := Heap.get?_update_self (Obj.mapSeq (fun _ => (#[] : Array Value))) at0 rfl
  have k0 : ∀ b o, s.heap.get? b = some o → ((s.heap.push { cls := .type "list", data := .seq #[] }).update s.heap.objs.size (Obj.mapSeq (fun _ => (#[] : Array Value)))).get? b = some o := fun b o e =>
    (Heap.get?_update_other _ _ (Nat.ne_of_gt (Heap.lt_size e))).trans (Heap.get?_push_of_some _ e)
  refine wpAny_bind (wpAny_letGo ?_)
  refine src_extend (A := A.in1) C (C.kp _ _ st fun b hb o e => k0 b o e) hS .none at1 fun g c sg kg ag => ?_
  exact lp _ g c sg (fun b o e => kg b o (Nat.ne_of_lt (Heap.lt_size e)) (k0 b o e)) ag fun t q => ⟨rfl, q⟩
/-- one turn of the loop -/
theorem loop_turn {res : Value} {acc : Array Value} {c : Nat} (hz : acc.size < sizeLine) (hn : wpAny (model prog w) A.in1 (pyNext (.ref r)) (fun v t => ∃ x, v = some x ∧ listAt t.heap S acc c ∧ ∀ (g : Heap) (c' : Nat), (∀ b o, b ≠ S → t.heap.get? b = some o → g.get? b = some o) → listAt g S (acc.push x) c' → codeAny (model prog w) A (loopCode S r res) R { t with heap := g }) (fun e t => R (.error e) t) s) :
    codeAny (model prog w) A (loopCode S r res) R s := by
  refine codeAny_builtin F.entry_extend_loop ?_
  rw [Around.under_plainId F.plain_extend_loop _]
  show wpAny _ A.in1 (pyNext (.ref r) >>= _) _ _ s
  refine wpAny_bind (wpAny_mono hn (fun v t h => ?_) fun _ _ h => h)
  obtain ⟨x, ev, hl, k⟩ := h
  subst ev
  show wpAny _ A.in1 (updateSeq S (fun a => a.push x) >>= _) _ _ _
  refine wpAny_bind ?_
  refine wpAny_updateSeq hl rfl (wpAny_pure ⟨plainId_quiet F.plain_extend_loop _, k _ _ (fun b o nb e => (Heap.get?_update_other _ _ nb.symm).trans e) (Heap.get?_update_self _ hl rfl)⟩) (by omega) (by show (acc.push x).size ≤ sizeLine + 1; rw [Array.size_push]; omega)
theorem loop_last {res : Value} (hn : wpAny (model prog w) A.in1 (pyNext (.ref r)) (fun v t => v = none ∧ R (.ok (.ret res)) t) (fun e t => R (.error e) t) s) : codeAny (model prog w) A (loopCode S r res) R s := by
  refine codeAny_builtin F.entry_extend_loop ?_
  rw [Around.under_plainId F.plain_extend_loop _]
  show wpAny _ A.in1 (pyNext (.ref r) >>= _) _ _ s
  refine wpAny_bind (wpAny_mono hn (fun v t h => ?_) fun _ _ h => h)
  obtain ⟨ev, k⟩ := h
  subst ev
  exact wpAny_pure k

/-! ### reversed(list) -/
theorem src_rev {it l : Addr} {items : Array Value} {i : Int} : Src prog w "list_reverseiterator" it [it, l] (fun g => g.IsRevIter it l i ∧ g.IsList l items) where
  ty := fun t st => Heap.IsRevIter.typeIs (s := t) st.1
  mem := by simp
  lt := fun g st b hb => by
    obtain ⟨⟨o1, h1, _⟩, ⟨o2, h2, _⟩⟩ := st
    have e : b = it ∨ b = l := by simpa using hb
    rcases e with e | e
    · rw [e]; exact Heap.lt_size h1
    · rw [e]; exact Heap.lt_size h2
  kp := fun g g' st k => ⟨st.1.at fun o e => k it (by simp) o e, st.2.at fun o e => k l (by simp) o e⟩
  nl := by decide +kernel
  nt := by decide +kernel
  it := fun B F t Q st q => wpAny_pyIter_revIter (s := t) st.1 q
  hi := fun B F t Q st q => by
    have ht : t.TypeIs (.ref it) "list_reverseiterator" := Heap.IsRevIter.typeIs (s := t) st.1
    unfold Builtin.List.listLengthHint
    refine wpAny_bind (wpAny_specialOf ht RT.nolen_lri ?_)
    show wpAny _ B (specialOf (Value.ref it) (Str.ofString "__length_hint__") >>= _) _ _ _
    refine wpAny_bind (wpAny_specialOf ht RT.hint_lri ?_)
    generalize hid : ("list_reverseiterator.__length_hint__" : String) = z
    wp_delta
    rw [show splitId z = some ("list_reverseiterator", "__length_hint__") from by subst hid; decide +kernel]
    subst hid
    refine wpAny_bind (wpAny_isInstance (b := true) ht (by rw [isSubtype_type]; kernel_rfl) ?_)
    exact wpAny_pure (q _)
theorem call_list_rev {it l : Addr} {items : Array Value} {Q : Value → Shared → Prop} (hh : A.handled = none) (hi : s.heap.IsRevIter it l ((items.size : Int) - 1)) (hl : s.heap.IsList l items) (hne : l ≠ it) (hz : items.size ≤ sizeLine)
    (q : ∀ (g : Heap) (tk : Nat) (acc : Array Value) (c : Nat), (∀ b o, b ≠ it → s.heap.get? b = some o → g.get? b = some o) → listAt g s.heap.objs.size acc c → ItemsOf (fun i v => items[items.size - 1 - i]? = some v) acc items.size → Q (.ref s.heap.objs.size) { s with heap := g, toks := tk }) :
    wpAny (model prog w) A (call (.type "list") [.ref it]) Q E s := by
  have C : Src prog w "list_reverseiterator" it [it, l] (fun g => g.IsRevIter it l ((items.size : Int) - 1) ∧ g.IsList l items) := src_rev
  refine src_call C ⟨hi, hl⟩ fun R g c st kg ag fin => ?_
  have W := (Walks.listRev (prog := prog) (w := w) (A := A.in1.in1) hh it l hne items).toS
  have hSf : s.heap.objs.size ∉ [it, l] := fun z => Nat.lt_irrefl _ (C.lt _ ⟨hi, hl⟩ _ z)
  have e0 : ((items.size : Nat) : Int) - 1 - ((0 : Nat) : Int) = (items.size : Int) - 1 := by omega
  refine codeAny_extend_loopS W hz _ hSf _ items.size 0 _ _ _ rfl (Nat.zero_le _) ⟨Nat.zero_le _, by rw [e0]; exact st.1, st.2⟩ ag (ItemsOf.nil _) fun t acc c' hm ht hacc => fin t ?_
  rw [Moved.eq_with hm]
  refine q t.heap t.toks acc c' (fun b o hb e => hm.heap b o (fun hmem => ?_) (kg b o e)) ht hacc
  rcases List.mem_cons.mp hmem with e' | hmem
  · exact absurd (Heap.lt_size e) (by rw [e']; exact Nat.lt_irrefl _)
  · exact hb (List.mem_singleton.mp hmem)
end
section
variable {X : Cx}
/-- list(reversed(x)), x a list -/
def tListRev (K : PySem.W.Frag) (te : TE) : TE := fun σ H Q => te σ H fun v H1 => ∃ (a : Addr) (xs : List V), v = .ref a ∧ SqL K H1 a xs ∧ ∀ q, H1 q = none → Q (.ref q) (upd H1 q (.lst xs.reverse))
theorem pe_listRev {e : Expr} {te : TE} {p p2 pos pos2 : Pos} (hc : X.calm = true) (hm : X.mg "list" = none) (hm2 : X.mg "reversed" = none) (he : PE X e te) (hg : Gl X "list" := by rfl) (hg2 : Gl X "reversed" := by rfl)
    (n1 : starEach [e] X.env = (false, eval e X.env) :: starEach [] X.env := by rfl) (n2 : starEach [.Call (.Name "reversed" p2) [e] [] pos2] X.env = (false, eval (.Call (.Name "reversed" p2) [e] [] pos2) X.env) :: starEach [] X.env := by rfl) :
    PE X (.Call (.Name "list" p) [.Call (.Name "reversed" p2) [e] [] pos2] [] pos) (tListRev X.K te) := by
  refine ⟨fun pins s σ H Q I h => Call_ (ld_blt I hg hm boot_list (PyProof.Rows.callWith_type1 (args_cons (Call_ (ld_blt I hg2 hm2 PyProof.Rows.boot_reversed (PyProof.Rows.callWith_type1 (args_cons (thn (he.run pins s σ H _ I h) fun u t ⟨v, H1, J, rv, q⟩ => args_nil ?_) n1) n1 rfl))) n2) n2 rfl))⟩
  obtain ⟨a, xs, ev, hq, q⟩ := q
  subst ev
  obtain rfl : u = Value.ref a := rv
  obtain ⟨its, rl, pl, hz⟩ := J.list hq
  refine call_reversed_list pl.isList (args_nil ?_)
  have J2 : Inv X pins σ H1 { t with heap := t.heap.push (revObj a ((its.toArray.size : Int) - 1)) } := J.kept (t' := t.toks) fun b o e => Heap.get?_push_of_some _ e
  obtain ⟨f0, f1, f2, f3, f4, f5⟩ := J.fpOk (H' := H1) (b := t.heap.objs.size) (Nat.le_refl _) (J.hok.fresh (Nat.le_refl _))
  have hl := pl.isList
  obtain ⟨ol, hol, _⟩ := id hl
  refine call_list_rev (s := { t with heap := t.heap.push (revObj a ((its.toArray.size : Int) - 1)) }) (J.ok.hd hc) ⟨_, Heap.get?_push_size _ rfl, rfl, rfl⟩ (hl.push _) (Nat.ne_of_lt (Heap.lt_size hol)) (by rw [List.size_toArray, ← rl.length]; exact hz) fun g tk acc c kg ag ha => ?_
  have hz1 : (t.heap.push (revObj a ((its.toArray.size : Int) - 1))).objs.size = t.heap.objs.size + 1 := Heap.size_push ..
  refine ⟨.ref (t.heap.push (revObj a ((its.toArray.size : Int) - 1))).objs.size, _, J2.turnedNew (t' := tk) (ob := .lst xs.reverse) (ch := [t.heap.objs.size]) (fun b o hb e => kg b o (by simpa using hb) e) (fun b hb => ?_) (Nat.le_refl _) ?_, rfl, q _ (J2.hok.fresh (Nat.le_refl _))⟩
  · have e : b = t.heap.objs.size := by simpa using hb
    rw [e]
    exact ⟨f0, f1, f2, f3, f4, f5⟩
  · refine ⟨by rw [List.length_reverse]; exact hz, acc.toList, c, RT.vals_rev rl ha, ?_⟩
    rw [Array.toArray_toList]
    exact ag
end
end Fx

end

/-! Fx14: list(zip(x, y)) -/
noncomputable section
namespace Fx
open PySem PySem.Spec PyProof.Rows L2

section
variable {prog : Program} {w : World} {A : Around} {E : Value → Shared → Prop} {s : Shared}
theorem nolen_zip : typeLookup (.type "zip") "__len__" = pure none := by rw [typeLookup_type, builtinLookup_eq_fast]; kernel_rfl
theorem nohint_zip : typeLookup (.type "zip") "__length_hint__" = pure none := by rw [typeLookup_type, builtinLookup_eq_fast]; kernel_rfl
theorem hint_zip {z : Addr} {Q : Bool → Shared → Prop} (ht : s.TypeIs (.ref z) "zip") (q : ∀ b, Q b s) : wpAny (model prog w) A (Builtin.List.listLengthHint (.ref z)) Q E s := by
  unfold Builtin.List.listLengthHint
  refine wpAny_bind (wpAny_specialOf ht nolen_zip ?_)
  show wpAny _ A (specialOf (Value.ref z) (Str.ofString "__length_hint__") >>= _) _ _ _
  refine wpAny_bind (wpAny_specialOf ht nohint_zip ?_)
  exact wpAny_pure (q _)
/-- an iterator over a list or a tuple, as zip pulls it -/
structure Nx (prog : Program) (w : World) (i l : Addr) (xs : Array Value) (St : Nat → Heap → Prop) : Prop where
  fr : ∀ (k : Nat) (g g' : Heap), St k g → (∀ o, g.get? i = some o → g'.get? i = some o) → (∀ o, g.get? l = some o → g'.get? l = some o) → St k g'
  lt : ∀ (k : Nat) (g : Heap), St k g → i < g.objs.size ∧ l < g.objs.size
  item : ∀ (B : Around) (F : Value → Shared → Prop) (t : Shared) (k : Nat) (x : Value) (Q : Value → Shared → Prop), St k t.heap → xs[k]? = some x → (∀ g, St (k + 1) g → Heap.SameBut i t.heap g → Q x { t with heap := g }) →
    wpAny (model prog w) B (Builtin.SmallTypes.nextOf (.ref i)) Q F t
  stop : ∀ (B : Around) (F : Value → Shared → Prop) (t : Shared) (k : Nat) (Q : Value → Shared → Prop), B.handled = none → St k t.heap → xs[k]? = none → (∀ g e, Heap.ExtBut i t.heap g → (∃ o, g.get? e = some o ∧ o.cls = .type "StopIteration") → F (.ref e) { t with heap := g }) →
    wpAny (model prog w) B (Builtin.SmallTypes.nextOf (.ref i)) Q F t
theorem nx_list {i l : Addr} {xs : Array Value} (ne : l ≠ i) : Nx prog w i l xs fun k g => g.IsListIter i l k ∧ g.IsList l xs where
  fr := fun k g g' st h1 h2 => ⟨st.1.at h1, st.2.at h2⟩
  lt := fun k g st => by
    obtain ⟨⟨o1, e1, _⟩, ⟨o2, e2, _⟩⟩ := st
    exact ⟨Heap.lt_size e1, Heap.lt_size e2⟩
  item := fun B F t k x Q st hx q => wpAny_nextOf_list_item st.1 st.2 hx fun g hg sb => q g ⟨hg, st.2.extBut sb.extBut ne⟩ sb
  stop := fun B F t k Q hh st hx q => wpAny_nextOf_list_end hh st.1 st.2 hx q
theorem nx_tup {i l : Addr} {xs : Array Value} (ne : l ≠ i) : Nx prog w i l xs fun k g => g.IsTupleIter i l k ∧ g.IsTuple l xs where
  fr := fun k g g' st h1 h2 => ⟨st.1.at h1, st.2.at h2⟩
  lt := fun k g st => by
    obtain ⟨⟨o1, e1, _⟩, ⟨o2, e2, _⟩⟩ := st
    exact ⟨Heap.lt_size e1, Heap.lt_size e2⟩
  item := fun B F t k x Q st hx q => RZ.nextOf_tuple_item st.1 st.2 hx fun g hg sb => q g ⟨hg, st.2.extBut sb.extBut ne⟩ sb
  stop := fun B F t k Q hh st hx q => RZ.nextOf_tuple_end hh st.1 st.2 hx q
variable {z TI TO T i1 i2 l1 l2 : Addr} {f : Bool} {oT : Obj} {xs ys : Array Value} {x y a b : Value} {k : Nat} {S1 S2 : Nat → Heap → Prop}
theorem zh_item {Q : Value → Shared → Prop} (D : ZipApart z TI TO i1 i2 l1 l2) (N1 : Nx prog w i1 l1 xs S1) (N2 : Nx prog w i2 l2 ys S2) (hz : IsZipHeld s.heap z TI TO T f) (hT : s.heap.get? T = some oT) (hTI : IsPair s.heap TI (.ref i1) (.ref i2))
    (h1 : S1 k s.heap) (h2 : S2 k s.heap) (hx : xs[k]? = some x) (hy : ys[k]? = some y)
    (q : ∀ g, IsZipHeld g z TI TO T true → S1 (k + 1) g → S2 (k + 1) g → IsPair g s.heap.objs.size x y → g.objs.size = s.heap.objs.size + 1 → (∀ c o, c ≠ z → c ≠ i1 → c ≠ i2 → s.heap.get? c = some o → g.get? c = some o) → Q (.ref s.heap.objs.size) { s with heap := g }) :
    wpAny (model prog w) A (Builtin.«zip.__next__» ⟨[.ref z], []⟩) (fun fin t => ∃ v, fin = .done (.ret v) ∧ Q v t) E s := by
  show wpAny _ _ (field (.ref z) 2 >>= _) _ _ _
  refine wpAny_bind (wpAny_field hz rfl (x := .bool false) rfl ?_)
  show wpAny _ _ (field (.ref z) 3 >>= _) _ _ _
  refine wpAny_bind (wpAny_field hz rfl (x := .ref TI) rfl ?_)
  refine wpAny_bind (wpAny_seqItems hTI rfl ?_)
  show wpAny _ _ (Builtin.SmallTypes.ownedTupleIsFree (.ref z) >>= _) _ _ _
  refine wpAny_bind (wpAny_tupleHeld_zip hz hT fun g1 z1 b1 => ?_)
  simp only [Bool.false_eq_true, if_false]
  refine wpAny_bind ?_
  rw [← Array.forIn_toList]
  simp only [List.forIn_cons, List.forIn_nil]
  refine wpAny_bind (wpAny_bind (wpAny_holding ?_))
  show wpAny _ _ (Builtin.SmallTypes.nextOf (.ref i1) >>= _) _ _ _
  have a1 : S1 k g1 := N1.fr k _ _ h1 (fun o e => b1.extBut _ _ D.i1z e) fun o e => b1.extBut _ _ D.l1z e
  have a2 : S2 k g1 := N2.fr k _ _ h2 (fun o e => b1.extBut _ _ D.i2z e) fun o e => b1.extBut _ _ D.l2z e
  refine wpAny_bind (N1.item _ _ { s with heap := g1 } k x _ a1 hx fun g2 c1 b2 => wpAny_pure ?_)
  refine wpAny_pure ?_
  refine wpAny_bind (wpAny_bind (wpAny_holding ?_))
  show wpAny _ _ (Builtin.SmallTypes.nextOf (.ref i2) >>= _) _ _ _
  have a3 : S2 k g2 := N2.fr k _ _ a2 (fun o e => b2.extBut _ _ D.i12.symm e) fun o e => b2.extBut _ _ D.l2i1 e
  refine wpAny_bind (N2.item _ _ { s with heap := g2 } k y _ a3 hy fun g3 c2 b3 => wpAny_pure ?_)
  refine wpAny_pure (wpAny_pure ?_)
  show wpAny _ _ (newTuple [x, y] >>= _) _ _ _
  refine wpAny_bind (wpAny_newTuple ?_)
  have sz : g3.objs.size = s.heap.objs.size := by rw [b3.1, b2.1, b1.1]
  have z3 : IsZipHeld g3 z TI TO T true := b3.extBut _ _ D.i2z.symm (b2.extBut _ _ D.i1z.symm z1)
  have kp : ∀ c o, c ≠ z → c ≠ i1 → c ≠ i2 → s.heap.get? c = some o → g3.get? c = some o := fun c o n1 n2 n3 e => b3.extBut _ _ n3 (b2.extBut _ _ n2 (b1.extBut _ _ n1 e))
  have a4 : S1 (k + 1) g3 := N1.fr _ _ _ c1 (fun o e => b3.extBut _ _ D.i12 e) fun o e => b3.extBut _ _ D.l1i2 e
  refine wpAny_pure ⟨_, rfl, ?_⟩
  show Q (.ref g3.objs.size) _
  have hp : IsPair (g3.push { cls := .type "tuple", data := .seq #[x, y] }) g3.objs.size x y := Heap.get?_push_size _ rfl
  have hs : (g3.push { cls := .type "tuple", data := .seq #[x, y] }).objs.size = g3.objs.size + 1 := Heap.size_push ..
  rw [sz] at hp hs ⊢
  exact q _ (Heap.get?_push_of_some _ z3) (N1.fr _ _ _ a4 (fun o e => Heap.get?_push_of_some _ e) fun o e => Heap.get?_push_of_some _ e) (N2.fr _ _ _ c2 (fun o e => Heap.get?_push_of_some _ e) fun o e => Heap.get?_push_of_some _ e) hp hs fun c o n1 n2 n3 e => Heap.get?_push_of_some _ (kp c o n1 n2 n3 e)
theorem zh_stop {Q : Fin → Shared → Prop} (hh : A.handled = none) (D : ZipApart z TI TO i1 i2 l1 l2) (N1 : Nx prog w i1 l1 xs S1) (N2 : Nx prog w i2 l2 ys S2) (hz : IsZipHeld s.heap z TI TO T f) (hT : s.heap.get? T = some oT) (hTI : IsPair s.heap TI (.ref i1) (.ref i2))
    (h1 : S1 k s.heap) (h2 : S2 k s.heap) (hend : xs[k]? = none ∨ ys[k]? = none)
    (q : ∀ g e, (∀ c o, c ≠ z → c ≠ i1 → c ≠ i2 → s.heap.get? c = some o → g.get? c = some o) → (∃ o, g.get? e = some o ∧ o.cls = .type "StopIteration") → E (.ref e) { s with heap := g }) :
    wpAny (model prog w) A (Builtin.«zip.__next__» ⟨[.ref z], []⟩) Q E s := by
  show wpAny _ _ (field (.ref z) 2 >>= _) _ _ _
  refine wpAny_bind (wpAny_field hz rfl (x := .bool false) rfl ?_)
  show wpAny _ _ (field (.ref z) 3 >>= _) _ _ _
  refine wpAny_bind (wpAny_field hz rfl (x := .ref TI) rfl ?_)
  refine wpAny_bind (wpAny_seqItems hTI rfl ?_)
  show wpAny _ _ (Builtin.SmallTypes.ownedTupleIsFree (.ref z) >>= _) _ _ _
  refine wpAny_bind (wpAny_tupleHeld_zip hz hT fun g1 z1 b1 => ?_)
  simp only [Bool.false_eq_true, if_false]
  refine wpAny_bind ?_
  rw [← Array.forIn_toList]
  simp only [List.forIn_cons, List.forIn_nil]
  refine wpAny_bind (wpAny_bind (wpAny_holding ?_))
  show wpAny _ _ (Builtin.SmallTypes.nextOf (.ref i1) >>= _) _ _ _
  have a1 : S1 k g1 := N1.fr k _ _ h1 (fun o e => b1.extBut _ _ D.i1z e) fun o e => b1.extBut _ _ D.l1z e
  have a2 : S2 k g1 := N2.fr k _ _ h2 (fun o e => b1.extBut _ _ D.i2z e) fun o e => b1.extBut _ _ D.l2z e
  cases hx : xs[k]? with
  | none => exact wpAny_bind (N1.stop _ _ { s with heap := g1 } k _ hh a1 hx fun g2 e b2 he => q g2 e (fun c o n1 n2 _ u => b2 _ _ n2 (b1.extBut _ _ n1 u)) he)
  | some x =>
    have hy : ys[k]? = none := hend.resolve_left (by rw [hx]; exact fun u => nomatch u)
    refine wpAny_bind (N1.item _ _ { s with heap := g1 } k x _ a1 hx fun g2 c1 b2 => wpAny_pure ?_)
    refine wpAny_pure ?_
    refine wpAny_bind (wpAny_bind (wpAny_holding ?_))
    show wpAny _ _ (Builtin.SmallTypes.nextOf (.ref i2) >>= _) _ _ _
    have a3 : S2 k g2 := N2.fr k _ _ a2 (fun o e => b2.extBut _ _ D.i12.symm e) fun o e => b2.extBut _ _ D.l2i1 e
    exact wpAny_bind (N2.stop _ _ { s with heap := g2 } k _ hh a3 hy fun g3 e b3 he => q g3 e (fun c o n1 n2 n3 u => b3 _ _ n3 (b2.extBut _ _ n2 (b1.extBut _ _ n1 u))) he)
theorem zf_item {Q : Value → Shared → Prop} (D : ZipApart z TI TO i1 i2 l1 l2) (N1 : Nx prog w i1 l1 xs S1) (N2 : Nx prog w i2 l2 ys S2) (hz : IsZip s.heap z TI TO .none) (hTI : IsPair s.heap TI (.ref i1) (.ref i2)) (hTO : IsPair s.heap TO a b)
    (h1 : S1 k s.heap) (h2 : S2 k s.heap) (hx : xs[k]? = some x) (hy : ys[k]? = some y)
    (q : ∀ g, IsZipHeld g z TI TO s.heap.objs.size false → S1 (k + 1) g → S2 (k + 1) g → IsPair g s.heap.objs.size x y → g.objs.size = s.heap.objs.size + 1 → (∀ c o, c ≠ z → c ≠ TO → c ≠ i1 → c ≠ i2 → s.heap.get? c = some o → g.get? c = some o) → Q (.ref s.heap.objs.size) { s with heap := g }) :
    wpAny (model prog w) A (Builtin.«zip.__next__» ⟨[.ref z], []⟩) (fun fin t => ∃ v, fin = .done (.ret v) ∧ Q v t) E s := by
  show wpAny _ _ (field (.ref z) 2 >>= _) _ _ _
  refine wpAny_bind (wpAny_field hz rfl (x := .bool false) rfl ?_)
  show wpAny _ _ (field (.ref z) 3 >>= _) _ _ _
  refine wpAny_bind (wpAny_field hz rfl (x := .ref TI) rfl ?_)
  refine wpAny_bind (wpAny_seqItems hTI rfl ?_)
  show wpAny _ _ (Builtin.SmallTypes.ownedTupleIsFree (.ref z) >>= _) _ _ _
  refine wpAny_bind ?_
  unfold Builtin.SmallTypes.ownedTupleIsFree
  refine wpAny_bind (wpAny_field hz rfl (x := .none) rfl (wpAny_pure ?_))
  simp only [if_true]
  refine wpAny_bind (wpAny_rule ?_)
  refine wpAny_bind (wpAny_field hz rfl (x := .ref TO) rfl ?_)
  refine wpAny_bind (wpAny_setField_rec hz (by simp) fun g1 z1 b1 => ?_)
  replace z1 : IsZip g1 z TI TO .ellipsis := z1
  refine wpAny_bind ?_
  simp only [List.zipIdx_cons, List.zipIdx_nil, List.forIn_cons, List.forIn_nil]
  refine wpAny_bind (wpAny_bind (wpAny_onRaise ?_))
  show wpAny _ _ (Builtin.SmallTypes.nextOf (.ref i1) >>= _) _ _ _
  have a1 : S1 k g1 := N1.fr k _ _ h1 (fun o e => b1.extBut _ _ D.i1z e) fun o e => b1.extBut _ _ D.l1z e
  have a2 : S2 k g1 := N2.fr k _ _ h2 (fun o e => b1.extBut _ _ D.i2z e) fun o e => b1.extBut _ _ D.l2z e
  refine wpAny_bind (N1.item _ _ { s with heap := g1 } k x _ a1 hx fun g2 c1 b2 => wpAny_pure ?_)
  have t2 : IsPair g2 TO a b := b2.extBut _ _ D.TOi1 (b1.extBut _ _ D.TOz hTO)
  refine wpAny_bind (wpAny_seqItems t2 rfl ?_)
  refine wpAny_bind (wpAny_updateSeq_pair t2 fun g3 t3 b3 => ?_)
  replace t3 : IsPair g3 TO x b := t3
  refine wpAny_bind (wpAny_letGo (wpAny_pure ?_))
  refine wpAny_bind (wpAny_bind (wpAny_onRaise ?_))
  show wpAny _ _ (Builtin.SmallTypes.nextOf (.ref i2) >>= _) _ _ _
  have a3 : S2 k g3 := N2.fr k _ _ (N2.fr k _ _ a2 (fun o e => b2.extBut _ _ D.i12.symm e) fun o e => b2.extBut _ _ D.l2i1 e) (fun o e => b3.extBut _ _ D.TOi2.symm e) fun o e => b3.extBut _ _ D.l2TO e
  refine wpAny_bind (N2.item _ _ { s with heap := g3 } k y _ a3 hy fun g4 c2 b4 => wpAny_pure ?_)
  have t4 : IsPair g4 TO x b := b4.extBut _ _ D.TOi2 t3
  refine wpAny_bind (wpAny_seqItems t4 rfl ?_)
  refine wpAny_bind (wpAny_updateSeq_pair t4 fun g5 t5 b5 => ?_)
  replace t5 : IsPair g5 TO x y := t5
  refine wpAny_bind (wpAny_letGo (wpAny_pure (wpAny_pure ?_)))
  refine wpAny_bind (wpAny_seqItems t5 rfl ?_)
  refine wpAny_bind (wpAny_newTuple ?_)
  have sz : g5.objs.size = s.heap.objs.size := by rw [b5.1, b4.1, b3.1, b2.1, b1.1]
  have z5 : IsZip g5 z TI TO .ellipsis := b5.extBut _ _ D.TOz.symm (b4.extBut _ _ D.i2z.symm (b3.extBut _ _ D.TOz.symm (b2.extBut _ _ D.i1z.symm z1)))
  have k5 : ∀ c o, c ≠ z → c ≠ TO → c ≠ i1 → c ≠ i2 → s.heap.get? c = some o → g5.get? c = some o := fun c o n1 n2 n3 n4 e => b5.extBut _ _ n2 (b4.extBut _ _ n4 (b3.extBut _ _ n2 (b2.extBut _ _ n3 (b1.extBut _ _ n1 e))))
  have d1 : S1 (k + 1) g5 := N1.fr _ _ _ (N1.fr _ _ _ (N1.fr _ _ _ c1 (fun o e => b3.extBut _ _ D.TOi1.symm e) fun o e => b3.extBut _ _ D.l1TO e) (fun o e => b4.extBut _ _ D.i12 e) fun o e => b4.extBut _ _ D.l1i2 e) (fun o e => b5.extBut _ _ D.TOi1.symm e) fun o e => b5.extBut _ _ D.l1TO e
  have d2 : S2 (k + 1) g5 := N2.fr _ _ _ c2 (fun o e => b5.extBut _ _ D.TOi2.symm e) fun o e => b5.extBut _ _ D.l2TO e
  have zl : z < g5.objs.size := Heap.lt_size z5
  show wpAny _ _ (Builtin.SmallTypes.ownedTupleHandOut (.ref z) (.ref g5.objs.size) >>= _) _ _ _
  refine wpAny_bind ?_
  unfold Builtin.SmallTypes.ownedTupleHandOut
  have z6 : IsZip (g5.push { cls := .type "tuple", data := .seq #[x, y] }) z TI TO .ellipsis := Heap.get?_push_of_some _ z5
  refine wpAny_bind (wpAny_setField_rec z6 (by simp) fun g7 z7 b7 => ?_)
  replace z7 : IsZip g7 z TI TO (rawInt g5.objs.size) := z7
  refine wpAny_setField_rec z7 (by simp) fun g8 z8 b8 => ?_
  replace z8 : IsZip g8 z TI TO (rawInt g5.objs.size) := z8
  have rise : ∀ c o, c ≠ z → g5.get? c = some o → g8.get? c = some o := fun c o n1 e => b8.extBut _ _ n1 (b7.extBut _ _ n1 (Heap.get?_push_of_some _ e))
  have p8 : IsPair g8 g5.objs.size x y := b8.extBut _ _ (Nat.ne_of_gt zl) (b7.extBut _ _ (Nat.ne_of_gt zl) (Heap.get?_push_size _ rfl))
  have s8 : g8.objs.size = g5.objs.size + 1 := by rw [b8.1, b7.1, Heap.size_push]
  rw [sz] at z8 p8 s8
  refine wpAny_pure ⟨_, rfl, ?_⟩
  show Q (.ref g5.objs.size) _
  rw [sz]
  exact q g8 z8 (N1.fr _ _ _ d1 (fun o e => rise _ o D.i1z e) fun o e => rise _ o D.l1z e) (N2.fr _ _ _ d2 (fun o e => rise _ o D.i2z e) fun o e => rise _ o D.l2z e) p8 s8 fun c o n1 n2 n3 n4 e => rise c o n1 (k5 c o n1 n2 n3 n4 e)
theorem zf_stop {Q : Fin → Shared → Prop} (hh : A.handled = none) (D : ZipApart z TI TO i1 i2 l1 l2) (N1 : Nx prog w i1 l1 xs S1) (N2 : Nx prog w i2 l2 ys S2) (hz : IsZip s.heap z TI TO .none) (hTI : IsPair s.heap TI (.ref i1) (.ref i2)) (hTO : IsPair s.heap TO a b)
    (h1 : S1 k s.heap) (h2 : S2 k s.heap) (hend : xs[k]? = none ∨ ys[k]? = none)
    (q : ∀ g e, (∀ c o, c ≠ z → c ≠ TO → c ≠ i1 → c ≠ i2 → s.heap.get? c = some o → g.get? c = some o) → (∃ o, g.get? e = some o ∧ o.cls = .type "StopIteration") → E (.ref e) { s with heap := g }) :
    wpAny (model prog w) A (Builtin.«zip.__next__» ⟨[.ref z], []⟩) Q E s := by
  show wpAny _ _ (field (.ref z) 2 >>= _) _ _ _
  refine wpAny_bind (wpAny_field hz rfl (x := .bool false) rfl ?_)
  show wpAny _ _ (field (.ref z) 3 >>= _) _ _ _
  refine wpAny_bind (wpAny_field hz rfl (x := .ref TI) rfl ?_)
  refine wpAny_bind (wpAny_seqItems hTI rfl ?_)
  show wpAny _ _ (Builtin.SmallTypes.ownedTupleIsFree (.ref z) >>= _) _ _ _
  refine wpAny_bind ?_
  unfold Builtin.SmallTypes.ownedTupleIsFree
  refine wpAny_bind (wpAny_field hz rfl (x := .none) rfl (wpAny_pure ?_))
  simp only [if_true]
  refine wpAny_bind (wpAny_rule ?_)
  refine wpAny_bind (wpAny_field hz rfl (x := .ref TO) rfl ?_)
  refine wpAny_bind (wpAny_setField_rec hz (by simp) fun g1 z1 b1 => ?_)
  replace z1 : IsZip g1 z TI TO .ellipsis := z1
  refine wpAny_bind ?_
  simp only [List.zipIdx_cons, List.zipIdx_nil, List.forIn_cons, List.forIn_nil]
  refine wpAny_bind (wpAny_bind (wpAny_onRaise ?_))
  show wpAny _ _ (Builtin.SmallTypes.nextOf (.ref i1) >>= _) _ _ _
  have a1 : S1 k g1 := N1.fr k _ _ h1 (fun o e => b1.extBut _ _ D.i1z e) fun o e => b1.extBut _ _ D.l1z e
  have a2 : S2 k g1 := N2.fr k _ _ h2 (fun o e => b1.extBut _ _ D.i2z e) fun o e => b1.extBut _ _ D.l2z e
  cases hx : xs[k]? with
  | none =>
    refine wpAny_bind (N1.stop _ _ { s with heap := g1 } k _ hh a1 hx fun g2 e b2 he => ?_)
    obtain ⟨oe, hoe, hce⟩ := he
    have z2 : IsZip g2 z TI TO .ellipsis := b2 _ _ D.i1z.symm z1
    have ez : e ≠ z := fun u => by subst u; rw [z2] at hoe; cases hoe; simp at hce
    exact wpAny_setField_rec z2 (by simp) fun g3 _ b3 => q g3 e (fun c o n1 _ n3 _ u => b3.extBut _ _ n1 (b2 _ _ n3 (b1.extBut _ _ n1 u))) ⟨oe, b3.extBut _ _ ez hoe, hce⟩
  | some x =>
    have hy : ys[k]? = none := hend.resolve_left (by rw [hx]; exact fun u => nomatch u)
    refine wpAny_bind (N1.item _ _ { s with heap := g1 } k x _ a1 hx fun g2 c1 b2 => wpAny_pure ?_)
    have t2 : IsPair g2 TO a b := b2.extBut _ _ D.TOi1 (b1.extBut _ _ D.TOz hTO)
    refine wpAny_bind (wpAny_seqItems t2 rfl ?_)
    refine wpAny_bind (wpAny_updateSeq_pair t2 fun g3 t3 b3 => ?_)
    refine wpAny_bind (wpAny_letGo (wpAny_pure ?_))
    refine wpAny_bind (wpAny_bind (wpAny_onRaise ?_))
    show wpAny _ _ (Builtin.SmallTypes.nextOf (.ref i2) >>= _) _ _ _
    have a3 : S2 k g3 := N2.fr k _ _ (N2.fr k _ _ a2 (fun o e => b2.extBut _ _ D.i12.symm e) fun o e => b2.extBut _ _ D.l2i1 e) (fun o e => b3.extBut _ _ D.TOi2.symm e) fun o e => b3.extBut _ _ D.l2TO e
    refine wpAny_bind (N2.stop _ _ { s with heap := g3 } k _ hh a3 hy fun g4 e b4 he => ?_)
    obtain ⟨oe, hoe, hce⟩ := he
    have z4 : IsZip g4 z TI TO .ellipsis := b4 _ _ D.i2z.symm (b3.extBut _ _ D.TOz.symm (b2.extBut _ _ D.i1z.symm z1))
    have ez : e ≠ z := fun u => by subst u; rw [z4] at hoe; cases hoe; simp at hce
    exact wpAny_setField_rec z4 (by simp) fun g5 _ b5 => q g5 e (fun c o n1 n2 n3 n4 u => b5.extBut _ _ n1 (b4 _ _ n4 (b3.extBut _ _ n2 (b2.extBut _ _ n3 (b1.extBut _ _ n1 u))))) ⟨oe, b5.extBut _ _ ez hoe, hce⟩

/-- a zip that has given k pairs out; S: the list that holds them -/
def ZAt (z TI TO i1 i2 l1 l2 S : Addr) (S1 S2 : Nat → Heap → Prop) (k : Nat) (g : Heap) : Prop :=
  IsPair g TI (.ref i1) (.ref i2) ∧ S1 k g ∧ S2 k g ∧ ((IsZip g z TI TO .none ∧ ∃ a b, IsPair g TO a b) ∨ ∃ T f o, (T ≠ S ∧ T ≠ z ∧ T ≠ i1 ∧ T ≠ i2) ∧ IsZipHeld g z TI TO T f ∧ g.get? T = some o)
variable {S : Addr}
theorem ZAt.kp {g g' : Heap} (N1 : Nx prog w i1 l1 xs S1) (N2 : Nx prog w i2 l2 ys S2) (st : ZAt z TI TO i1 i2 l1 l2 S S1 S2 k g) (nS : S ∉ [z, TI, TO, i1, i2, l1, l2]) (kp : ∀ b o, b ≠ S → g.get? b = some o → g'.get? b = some o) : ZAt z TI TO i1 i2 l1 l2 S S1 S2 k g' := by
  simp only [List.mem_cons, List.not_mem_nil, or_false, not_or] at nS
  obtain ⟨n1, n2, n3, n4, n5, n6, n7⟩ := nS
  obtain ⟨p, s1, s2, hz⟩ := st
  refine ⟨kp _ _ (Ne.symm n2) p, N1.fr _ _ _ s1 (fun o e => kp _ _ (Ne.symm n4) e) fun o e => kp _ _ (Ne.symm n6) e, N2.fr _ _ _ s2 (fun o e => kp _ _ (Ne.symm n5) e) fun o e => kp _ _ (Ne.symm n7) e, ?_⟩
  rcases hz with ⟨hz, a, b, ht⟩ | ⟨T, f, o, nT, hz, ht⟩
  · exact .inl ⟨kp _ _ (Ne.symm n1) hz, a, b, kp _ _ (Ne.symm n3) ht⟩
  · exact .inr ⟨T, f, o, nT, kp _ _ (Ne.symm n1) hz, kp _ _ nT.1 ht⟩
theorem za_next {Q : Option Value → Shared → Prop} (D : ZipApart z TI TO i1 i2 l1 l2) (N1 : Nx prog w i1 l1 xs S1) (N2 : Nx prog w i2 l2 ys S2) (st : ZAt z TI TO i1 i2 l1 l2 S S1 S2 k s.heap) (hS : S < s.heap.objs.size) (hx : xs[k]? = some x) (hy : ys[k]? = some y)
    (q : ∀ g, ZAt z TI TO i1 i2 l1 l2 S S1 S2 (k + 1) g → IsPair g s.heap.objs.size x y → g.objs.size = s.heap.objs.size + 1 → (∀ c o, c ∉ [z, TO, i1, i2] → s.heap.get? c = some o → g.get? c = some o) → Q (some (.ref s.heap.objs.size)) { s with heap := g }) :
    wpAny (model prog w) A (pyNext (.ref z)) Q E s := by
  obtain ⟨p, s1, s2, hz⟩ := st
  have nS : s.heap.objs.size ≠ S := Nat.ne_of_gt hS
  have m1 : s.heap.objs.size ≠ i1 := Nat.ne_of_gt (N1.lt _ _ s1).1
  have m2 : s.heap.objs.size ≠ i2 := Nat.ne_of_gt (N2.lt _ _ s2).1
  rcases hz with ⟨hz, a, b, ht⟩ | ⟨T, f, o, nT, hz, ht⟩
  · have hty : s.TypeIs (.ref z) "zip" := ⟨_, hz, rfl⟩
    have m0 : s.heap.objs.size ≠ z := Nat.ne_of_gt (Heap.lt_size hz)
    unfold pyNext
    refine wpAny_bind (wpAny_attempt (wpAny_callSpecial?_slot (name := Str.ofString "__next__") hty F.slot_zip_next (wpAny_call_entry F.slot_zip_next hty F.entry_zip_next (zf_item D N1 N2 hz p ht s1 s2 hx hy fun g z1 c1 c2 pp sz kp => wpAny_pure (q g ⟨?_, c1, c2, .inr ⟨_, _, _, ⟨nS, m0, m1, m2⟩, z1, pp⟩⟩ pp sz fun c o hc e => ?_)) (F.args_zip_next_1 _))))
    · exact kp _ _ D.TIz D.TITO D.TIi1 D.TIi2 p
    · simp only [List.mem_cons, List.not_mem_nil, or_false, not_or] at hc
      exact kp c o hc.1 hc.2.1 hc.2.2.1 hc.2.2.2 e
  · have hty : s.TypeIs (.ref z) "zip" := ⟨_, hz, rfl⟩
    unfold pyNext
    refine wpAny_bind (wpAny_attempt (wpAny_callSpecial?_slot (name := Str.ofString "__next__") hty F.slot_zip_next (wpAny_call_entry F.slot_zip_next hty F.entry_zip_next (zh_item D N1 N2 hz ht p s1 s2 hx hy fun g z1 c1 c2 pp sz kp => wpAny_pure (q g ⟨?_, c1, c2, .inr ⟨T, true, o, nT, z1, kp _ _ nT.2.1 nT.2.2.1 nT.2.2.2 ht⟩⟩ pp sz fun c o hc e => ?_)) (F.args_zip_next_1 _))))
    · exact kp _ _ D.TIz D.TIi1 D.TIi2 p
    · simp only [List.mem_cons, List.not_mem_nil, or_false, not_or] at hc
      exact kp c o hc.1 hc.2.2.1 hc.2.2.2 e
theorem za_stop {Q : Option Value → Shared → Prop} (hh : A.handled = none) (D : ZipApart z TI TO i1 i2 l1 l2) (N1 : Nx prog w i1 l1 xs S1) (N2 : Nx prog w i2 l2 ys S2) (st : ZAt z TI TO i1 i2 l1 l2 S S1 S2 k s.heap) (hend : xs[k]? = none ∨ ys[k]? = none)
    (q : ∀ g, (∀ c o, c ∉ [z, TO, i1, i2] → s.heap.get? c = some o → g.get? c = some o) → Q none { s with heap := g }) :
    wpAny (model prog w) A (pyNext (.ref z)) Q E s := by
  obtain ⟨p, s1, s2, hz⟩ := st
  rcases hz with ⟨hz, a, b, ht⟩ | ⟨T, f, o, nT, hz, ht⟩
  · have hty : s.TypeIs (.ref z) "zip" := ⟨_, hz, rfl⟩
    unfold pyNext
    refine wpAny_bind (wpAny_attempt (wpAny_callSpecial?_slot (name := Str.ofString "__next__") hty F.slot_zip_next (wpAny_call_entry F.slot_zip_next hty F.entry_zip_next (zf_stop hh D N1 N2 hz p ht s1 s2 hend fun g e kp he => ?_) (F.args_zip_next_1 _))))
    obtain ⟨o, ho, hc⟩ := he
    refine wpAny_bind (wpAny_isInstance (T := "StopIteration") (b := true) ⟨o, ho, hc⟩ isSubtype_stop (wpAny_pure (q g fun c o hc e => ?_)))
    simp only [List.mem_cons, List.not_mem_nil, or_false, not_or] at hc
    exact kp c o hc.1 hc.2.1 hc.2.2.1 hc.2.2.2 e
  · have hty : s.TypeIs (.ref z) "zip" := ⟨_, hz, rfl⟩
    unfold pyNext
    refine wpAny_bind (wpAny_attempt (wpAny_callSpecial?_slot (name := Str.ofString "__next__") hty F.slot_zip_next (wpAny_call_entry F.slot_zip_next hty F.entry_zip_next (zh_stop hh D N1 N2 hz ht p s1 s2 hend fun g e kp he => ?_) (F.args_zip_next_1 _))))
    obtain ⟨o, ho, hc⟩ := he
    refine wpAny_bind (wpAny_isInstance (T := "StopIteration") (b := true) ⟨o, ho, hc⟩ isSubtype_stop (wpAny_pure (q g fun c o hc e => ?_)))
    simp only [List.mem_cons, List.not_mem_nil, or_false, not_or] at hc
    exact kp c o hc.1 hc.2.2.1 hc.2.2.2 e
/-- the list's items: references to new pairs, one behind the other -/
def PairsAt (g : Heap) (B : Nat) (Ts : List Addr) (ps : List (Value × Value)) : Prop := Ts.Pairwise (fun a b => a < b) ∧ (∀ t ∈ Ts, B ≤ t) ∧ Paired (fun t p => IsPair g t p.1 p.2) Ts ps
theorem Paired.snoc {α β : Type} {R : α → β → Prop} {a : α} {b : β} : ∀ {l : List α} {m : List β}, Paired R l m → R a b → Paired R (l ++ [a]) (m ++ [b])
  | _, _, .nil, r => .cons r .nil
  | _, _, .cons r t, q => .cons r (Paired.snoc t q)
theorem Paired.memL {α β : Type} {R : α → β → Prop} {a : α} : ∀ {l : List α} {m : List β}, Paired R l m → a ∈ l → ∃ b, R a b
  | _, _, .nil, h => by cases h
  | _, _, .cons r t, h => by
    rcases List.mem_cons.mp h with e | h
    · subst e; exact ⟨_, r⟩
    · exact Paired.memL t h
theorem PairsAt.kp {g g' : Heap} {B : Nat} {Ts : List Addr} {ps : List (Value × Value)} (h : PairsAt g B Ts ps) (kp : ∀ b o, B ≤ b → g.get? b = some o → g'.get? b = some o) : PairsAt g' B Ts ps := by
  refine ⟨h.1, h.2.1, ?_⟩
  obtain ⟨h1, h2, h3⟩ := h
  clear h1
  induction h3 with
  | nil => exact .nil
  | cons r t ih => exact .cons (kp _ _ (h2 _ List.mem_cons_self) r) (ih fun t ht => h2 t (List.mem_cons_of_mem _ ht))
theorem PairsAt.lt {g : Heap} {B : Nat} {Ts : List Addr} {ps : List (Value × Value)} (h : PairsAt g B Ts ps) : ∀ t ∈ Ts, t < g.objs.size := fun t ht => by
  obtain ⟨p, r⟩ := Paired.memL h.2.2 ht
  exact Heap.lt_size r
theorem zip_loop {res : Value} {R : Result → Shared → Prop} {B : Nat} (hh : A.handled = none) (D : ZipApart z TI TO i1 i2 l1 l2) (N1 : Nx prog w i1 l1 xs S1) (N2 : Nx prog w i2 l2 ys S2) (nS : S ∉ [z, TI, TO, i1, i2, l1, l2]) (hz : xs.size ≤ sizeLine) :
    ∀ (n k : Nat) (s : Shared) (acc : Array Value) (c : Nat) (Ts : List Addr), (xs.toList.zip ys.toList).length - k = n → k ≤ (xs.toList.zip ys.toList).length → B ≤ s.heap.objs.size → S < B → (∀ b ∈ [z, TO, i1, i2], b < B) → ZAt z TI TO i1 i2 l1 l2 S S1 S2 k s.heap → listAt s.heap S acc c →
      acc.toList = Ts.map Value.ref → PairsAt s.heap B Ts ((xs.toList.zip ys.toList).take k) →
      (∀ g acc' c' Ts', (∀ b o, b ∉ [S, z, TO, i1, i2] → s.heap.get? b = some o → g.get? b = some o) → listAt g S acc' c' → acc'.toList = Ts'.map Value.ref → PairsAt g B Ts' (xs.toList.zip ys.toList) → R (.ok (.ret res)) { s with heap := g }) →
      codeAny (model prog w) A (loopCode S z res) R s := by
  intro n
  induction n with
  | zero =>
    intro k s acc c Ts hn hk hB hSB hfp st at0 ea pa fin
    have ek : k = (xs.toList.zip ys.toList).length := by omega
    have hend : xs[k]? = none ∨ ys[k]? = none := by
      rw [List.length_zip] at ek
      rcases Nat.le_total xs.toList.length ys.toList.length with h | h
      · refine .inl (Array.getElem?_eq_none ?_)
        rw [← Array.length_toList]; omega
      · refine .inr (Array.getElem?_eq_none ?_)
        rw [← Array.length_toList]; omega
    refine loop_last (za_stop (A := A.in1) hh D N1 N2 st hend fun g kp => ⟨rfl, ?_⟩)
    have hSz : S ∉ [z, TO, i1, i2] := fun h => nS (by simp only [List.mem_cons, List.not_mem_nil, or_false] at h ⊢; rcases h with h | h | h | h <;> simp [h])
    refine fin g acc c Ts (fun b o hb e => kp b o (fun h => hb (List.mem_cons_of_mem _ h)) e) (kp _ _ hSz at0) ea ?_
    have et : (xs.toList.zip ys.toList).take k = xs.toList.zip ys.toList := by rw [ek, List.take_length]
    rw [et] at pa
    exact pa.kp fun b o hb e => kp b o (fun h => Nat.lt_irrefl _ (Nat.lt_of_lt_of_le (hfp b h) hb)) e
  | succ n ih =>
    intro k s acc c Ts hn hk hB hSB hfp st at0 ea pa fin
    have hlt : k < (xs.toList.zip ys.toList).length := by omega
    have hl := hlt
    rw [List.length_zip] at hl
    have hkx : k < xs.size := by rw [← Array.length_toList]; omega
    have hky : k < ys.size := by rw [← Array.length_toList]; omega
    have hx : xs[k]? = some xs[k] := Array.getElem?_eq_getElem hkx
    have hy : ys[k]? = some ys[k] := Array.getElem?_eq_getElem hky
    have hp : (xs.toList.zip ys.toList)[k]? = some (xs[k], ys[k]) := by
      rw [List.getElem?_zip_eq_some]
      exact ⟨by rw [Array.getElem?_toList]; exact hx, by rw [Array.getElem?_toList]; exact hy⟩
    have et : (xs.toList.zip ys.toList).take (k + 1) = (xs.toList.zip ys.toList).take k ++ [(xs[k], ys[k])] := by rw [List.take_add_one, hp]; rfl
    have hSz : S ∉ [z, TO, i1, i2] := fun h => nS (by simp only [List.mem_cons, List.not_mem_nil, or_false] at h ⊢; rcases h with h | h | h | h <;> simp [h])
    have la : acc.size = k := by
      rw [← Array.length_toList, ea, List.length_map, Paired.len2 pa.2.2, List.length_take]
      omega
    refine loop_turn (by omega) (za_next (A := A.in1) D N1 N2 st (Nat.lt_of_lt_of_le hSB hB) hx hy fun g st1 pp sz kp => ⟨_, rfl, kp _ _ hSz at0, fun g' c' kp' at' => ?_⟩)
    have hg : s.heap.objs.size + 1 ≤ g'.objs.size := Heap.lt_size (kp' _ _ (Nat.ne_of_gt (Nat.lt_of_lt_of_le hSB hB)) pp)
    have kB : ∀ b o, B ≤ b → s.heap.get? b = some o → g.get? b = some o := fun b o hb e => kp b o (fun h => Nat.lt_irrefl _ (Nat.lt_of_lt_of_le (hfp b h) hb)) e
    have kS : ∀ b o, B ≤ b → g.get? b = some o → g'.get? b = some o := fun b o hb e => kp' b o (fun h => Nat.lt_irrefl _ (Nat.lt_of_lt_of_le (h ▸ hSB) hb)) e
    refine ih (k + 1) { s with heap := g' } (acc.push (.ref s.heap.objs.size)) c' (Ts ++ [s.heap.objs.size]) (by omega) hlt (by show B ≤ g'.objs.size; omega) hSB hfp (st1.kp N1 N2 nS kp') at' (by rw [Array.toList_push, ea, List.map_append]; rfl) ?_ fun g2 acc2 c2 Ts2 kp2 at2 ea2 pa2 => ?_
    · rw [et]
      have pa' := (pa.kp kB).kp kS
      refine ⟨List.pairwise_append.mpr ⟨pa.1, List.pairwise_singleton _ _, fun a ha b hb => ?_⟩, fun t ht => ?_, Paired.snoc pa'.2.2 (kS _ _ hB pp)⟩
      · have eb : b = s.heap.objs.size := by simpa using hb
        rw [eb]
        exact pa.lt a ha
      · rcases List.mem_append.mp ht with h | h
        · exact pa.2.1 t h
        · have eb : t = s.heap.objs.size := by simpa using h
          rw [eb]; exact hB
    · refine fin g2 acc2 c2 Ts2 (fun b o hb e => kp2 b o hb (kp' b o (fun h => hb (by simp [h])) (kp b o (fun h => hb (List.mem_cons_of_mem _ h)) e))) at2 ea2 pa2
/-- list(a zip that is new) -/
theorem call_list_zip {Q : Value → Shared → Prop} (hh : A.handled = none) (D : ZipApart z TI TO i1 i2 l1 l2) (N1 : Nx prog w i1 l1 xs S1) (N2 : Nx prog w i2 l2 ys S2) (hzi : IsZip s.heap z TI TO .none) (hTI : IsPair s.heap TI (.ref i1) (.ref i2)) (hTO : IsPair s.heap TO a b) (h1 : S1 0 s.heap) (h2 : S2 0 s.heap) (hz : xs.size ≤ sizeLine)
    (q : ∀ g acc c Ts, (∀ b o, b ∉ [z, TO, i1, i2] → s.heap.get? b = some o → g.get? b = some o) → listAt g s.heap.objs.size acc c → acc.toList = Ts.map Value.ref → PairsAt g (s.heap.objs.size + 1) Ts (xs.toList.zip ys.toList) → Q (.ref s.heap.objs.size) { s with heap := g }) :
    wpAny (model prog w) A (call (.type "list") [.ref z]) Q E s := by
  have l1' := N1.lt _ _ h1
  have l2' := N2.lt _ _ h2
  have lz : z < s.heap.objs.size := Heap.lt_size hzi
  have lI : TI < s.heap.objs.size := Heap.lt_size hTI
  have lO : TO < s.heap.objs.size := Heap.lt_size hTO
  have hlt : ∀ b ∈ [z, TI, TO, i1, i2, l1, l2], b < s.heap.objs.size := fun b hb => by
    simp only [List.mem_cons, List.not_mem_nil, or_false] at hb
    rcases hb with h | h | h | h | h | h | h <;> rw [h]
    · exact lz
    · exact lI
    · exact lO
    · exact l1'.1
    · exact l2'.1
    · exact l1'.2
    · exact l2'.2
  have nS : s.heap.objs.size ∉ [z, TI, TO, i1, i2, l1, l2] := fun h => Nat.lt_irrefl _ (hlt _ h)
  have C : Src prog w "zip" z [z, TI, TO, i1, i2, l1, l2] (fun g => IsZip g z TI TO .none ∧ IsPair g TI (.ref i1) (.ref i2) ∧ IsPair g TO a b ∧ S1 0 g ∧ S2 0 g) := {
    ty := fun t st => ⟨_, st.1, rfl⟩
    mem := by simp
    lt := fun g st b hb => by
      obtain ⟨g1, g2, g3, g4, g5⟩ := st
      simp only [List.mem_cons, List.not_mem_nil, or_false] at hb
      rcases hb with h | h | h | h | h | h | h <;> rw [h]
      · exact Heap.lt_size g1
      · exact Heap.lt_size g2
      · exact Heap.lt_size g3
      · exact (N1.lt _ _ g4).1
      · exact (N2.lt _ _ g5).1
      · exact (N1.lt _ _ g4).2
      · exact (N2.lt _ _ g5).2
    kp := fun g g' st k => ⟨k z (by simp) _ st.1, k TI (by simp) _ st.2.1, k TO (by simp) _ st.2.2.1, N1.fr _ _ _ st.2.2.2.1 (fun o e => k i1 (by simp) o e) fun o e => k l1 (by simp) o e, N2.fr _ _ _ st.2.2.2.2 (fun o e => k i2 (by simp) o e) fun o e => k l2 (by simp) o e⟩
    nl := by decide +kernel
    nt := by decide +kernel
    it := fun B F t Q st q => wpAny_pyIter_zip st.1 q
    hi := fun B F t Q st q => hint_zip ⟨_, st.1, rfl⟩ q }
  refine src_call C ⟨hzi, hTI, hTO, h1, h2⟩ fun R g c st kg ag fin => ?_
  have hg : s.heap.objs.size < g.objs.size := Heap.lt_size ag
  refine zip_loop (A := A.in1) (B := s.heap.objs.size + 1) hh D N1 N2 nS hz _ 0 { s with heap := g } #[] c [] rfl (Nat.zero_le _) hg (Nat.lt_succ_self _) (fun b hb => ?_) ⟨st.2.1, st.2.2.2.1, st.2.2.2.2, .inl ⟨st.1, a, b, st.2.2.1⟩⟩ ag rfl ⟨List.Pairwise.nil, fun t ht => (by cases ht), by rw [List.take_zero]; exact .nil⟩ fun g' acc c' Ts kp at' ea pa => fin _ (q g' acc c' Ts (fun b o hb e => kp b o (fun h => ?_) (kg b o e)) at' ea pa)
  · exact Nat.lt_succ_of_lt (hlt b (by simp only [List.mem_cons, List.not_mem_nil, or_false] at hb ⊢; rcases hb with h | h | h | h <;> simp [h]))
  · rcases List.mem_cons.mp h with h | h
    · exact absurd (Heap.lt_size e) (by rw [h]; exact Nat.lt_irrefl _)
    · exact hb h
end
end Fx

end

/-! Fx15: the rules for list(zip(x, y)), list(reversed(x)), ranges, enumerate, zip -/
noncomputable section
namespace Fx
open PySem PySem.Spec PyProof.Rows L2

def updL (H : Hp) : List (Addr × HO) → Hp
  | [] => H
  | p :: r => updL (upd H p.1 p.2) r
theorem updL_ne {b : Addr} : ∀ {l : List (Addr × HO)} {H : Hp}, b ∉ l.map (·.1) → updL H l b = H b
  | [], _, _ => rfl
  | p :: r, H, h => by
    have h' : b ≠ p.1 ∧ b ∉ r.map (·.1) := by simpa using h
    show updL (upd H p.1 p.2) r b = H b
    rw [updL_ne h'.2, upd_ne h'.1]
theorem updL_at {p : Addr × HO} : ∀ {l : List (Addr × HO)} {H : Hp}, (l.map (·.1)).Nodup → p ∈ l → updL H l p.1 = some p.2
  | q :: r, H, nd, h => by
    have nd' := List.nodup_cons.mp (show (q.1 :: r.map (·.1)).Nodup from nd)
    show updL (upd H q.1 q.2) r p.1 = some p.2
    rcases List.mem_cons.mp h with e | h
    · subst e
      rw [updL_ne nd'.1, upd_same]
    · exact updL_at nd'.2 h
section
variable {X : Cx} {pins : List (Addr × Obj)} {σ : L2.St}
/-- many new objects at once -/
theorem Inv.many {g : Heap} {tk : Nat} : ∀ (news : List (Addr × HO)) (s : Shared) (H : Hp), Inv X pins σ H s → (∀ b u, s.heap.get? b = some u → g.get? b = some u) → (news.map (·.1)).Nodup → (∀ p ∈ news, s.heap.get? p.1 = none ∧ H p.1 = none) →
    (∀ p ∈ news, ∀ (H' : Hp) (G : Heap), G.get? p.1 = g.get? p.1 → ObjOk X.prog X.w H' G p.1 p.2) → Inv X pins σ (updL H news) { s with heap := g, toks := tk }
  | [], s, H, I, k, _, _, _ => I.kept k
  | p :: r, s, H, I, k, nd, fr, ok => by
    have nd' := List.nodup_cons.mp (show (p.1 :: r.map (·.1)).Nodup from nd)
    obtain ⟨G, g1, g2⟩ := restrict g fun b => (s.heap.get? b).isSome || b == p.1
    have gp : G.get? p.1 = g.get? p.1 := g1 _ (by simp)
    have kG : ∀ b u, s.heap.get? b = some u → G.get? b = some u := fun b u e => by rw [g1 b (by simp [e])]; exact k b u e
    have I1 : Inv X pins σ (upd H p.1 p.2) { s with heap := G, toks := tk } := I.laidN kG (fr p List.mem_cons_self).1 (fr p List.mem_cons_self).2 (ok p List.mem_cons_self _ _ gp)
    have I2 := Inv.many (g := g) (tk := tk) r { s with heap := G, toks := tk } (upd H p.1 p.2) I1 (fun b u e => by
      by_cases h : ((s.heap.get? b).isSome || b == p.1) = true
      · rw [← g1 b h]; exact e
      · have := g2 b (by simpa using h)
        rw [show G.get? b = some u from e] at this
        cases this) nd'.2 (fun q hq => by
      have nq : q.1 ≠ p.1 := fun z => nd'.1 (z ▸ List.mem_map_of_mem hq)
      obtain ⟨f1, f2⟩ := fr q (List.mem_cons_of_mem _ hq)
      exact ⟨g2 _ (by simp [f1, nq]), by rw [upd_ne nq]; exact f2⟩) fun q hq => ok q (List.mem_cons_of_mem _ hq)
    exact I2
end
/-- a new list of new pairs -/
def NewPairs (H H2 : Hp) (p : Addr) (xs ys : List V) : Prop := H p = none ∧ (∀ b o, H b = some o → H2 b = some o) ∧ ∃ Ts : List Addr, H2 p = some (.lst (Ts.map V.ref)) ∧ Paired (fun t q => t ≠ p ∧ H t = none ∧ H2 t = some (.tup [q.1, q.2])) Ts (xs.zip ys)
def tListZip (K : PySem.W.Frag) (ta : TA) : TE := fun σ H Q => ta σ H fun vs H1 => ∃ a b xs ys, vs = [.ref a, .ref b] ∧ ((SqL K H1 a xs ∧ SqL K H1 b ys) ∨ (SqT K H1 a xs ∧ SqT K H1 b ys)) ∧ ∀ p H2, NewPairs H1 H2 p xs ys → Q (.ref p) H2
theorem vals_zip {xs ys : List V} {us ws : List Value} (r : Vals xs us) (r' : Vals ys ws) : Paired (fun (p : V × V) (q : Value × Value) => RelV p.1 q.1 ∧ RelV p.2 q.2) (xs.zip ys) (us.zip ws) := by
  induction r generalizing ys ws with
  | nil => exact .nil
  | cons h t ih =>
    cases r' with
    | nil => exact .nil
    | cons h' t' => exact .cons ⟨h, h'⟩ (ih t')
theorem Paired.comp {α β γ : Type} {R : α → β → Prop} {S : γ → β → Prop} : ∀ {l : List α} {m : List β} {n : List γ}, Paired R l m → Paired S n m → Paired (fun a c => ∃ b, R a b ∧ S c b) l n
  | _, _, _, .nil, h => by cases h; exact .nil
  | _, _, _, .cons r t, h => by
    cases h with
    | cons r' t' => exact .cons ⟨_, r, r'⟩ (Paired.comp t t')
theorem Paired.ofGet {α β : Type} {R : α → β → Prop} : ∀ {l : List α} {m : List β}, l.length = m.length → (∀ (i : Nat) (a : α) (b : β), l[i]? = some a → m[i]? = some b → R a b) → Paired R l m
  | [], [], _, _ => .nil
  | [], _ :: _, e, _ => by simp at e
  | _ :: _, [], e, _ => by simp at e
  | a :: l, b :: m, e, h => .cons (h 0 a b rfl rfl) (Paired.ofGet (by simpa using e) fun i a b h1 h2 => h (i + 1) a b (by simpa using h1) (by simpa using h2))
section
variable {X : Cx} {pins : List (Addr × Obj)} {σ : L2.St} {H1 : Hp} {t : Shared}
theorem newPairs_fin {Q : VK} {B : Addr} {xs ys : List V} {us ws : List Value} {g : Heap} {acc : Array Value} {c : Nat} {Ts : List Addr} {S : Addr} (J : Inv X pins σ H1 t) (kp : ∀ b o, t.heap.get? b = some o → g.get? b = some o) (hS : t.heap.objs.size ≤ S) (hz : xs.length ≤ sizeLine)
    (ag : listAt g S acc c) (ea : acc.toList = Ts.map Value.ref) (pa : PairsAt g (S + 1) Ts (us.zip ws)) (r : Vals xs us) (r' : Vals ys ws) (q : ∀ p H2, NewPairs H1 H2 p xs ys → Q (.ref p) H2) :
    EP X pins σ Q (.ref S) { t with heap := g } := by
  have pz := Paired.comp pa.2.2 (vals_zip r r')
  have hlen : Ts.length = (xs.zip ys).length := Paired.len2 pz
  let news : List (Addr × HO) := (S, .lst (Ts.map V.ref)) :: (Ts.zip (xs.zip ys)).map fun p => (p.1, .tup [p.2.1, p.2.2])
  have e1 : ((Ts.zip (xs.zip ys)).map fun p => ((p.1, HO.tup [p.2.1, p.2.2]) : Addr × HO)).map (·.1) = Ts := by
    rw [List.map_map]
    show (Ts.zip (xs.zip ys)).map Prod.fst = Ts
    exact List.map_fst_zip (by omega)
  have nd : (news.map (·.1)).Nodup := by
    show (S :: ((Ts.zip (xs.zip ys)).map fun p => ((p.1, HO.tup [p.2.1, p.2.2]) : Addr × HO)).map (·.1)).Nodup
    rw [e1]
    refine List.nodup_cons.mpr ⟨fun h => Nat.lt_irrefl _ (pa.2.1 S h), List.Pairwise.imp (fun {a b} (h : a < b) => Nat.ne_of_lt h) pa.1⟩
  have up : ∀ p ∈ news, t.heap.objs.size ≤ p.1 := fun p hp => by
    have hm : p.1 ∈ S :: Ts := by
      have := List.mem_map_of_mem (f := fun x : Addr × HO => x.1) hp
      have e2 : news.map (·.1) = S :: Ts := by
        show S :: ((Ts.zip (xs.zip ys)).map fun p => ((p.1, HO.tup [p.2.1, p.2.2]) : Addr × HO)).map (·.1) = _
        rw [e1]
      rw [← e2]; exact this
    rcases List.mem_cons.mp hm with h | h
    · rw [h]; exact hS
    · have := pa.2.1 _ h
      omega
  have fr : ∀ p ∈ news, t.heap.get? p.1 = none ∧ H1 p.1 = none := fun p hp => by
    refine ⟨?_, J.hok.fresh (up p hp)⟩
    cases e : t.heap.get? p.1 with
    | none => rfl
    | some o => exact absurd (Heap.lt_size e) (Nat.not_lt.mpr (up p hp))
  have J2 := Inv.many (g := g) (tk := t.toks) news t H1 J kp nd fr fun p hp H' G eg => by
    rcases List.mem_cons.mp hp with h | h
    · subst h
      refine ⟨?_, acc.toList, c, ?_, ?_⟩
      · rw [List.length_map, hlen, List.length_zip]; omega
      · rw [ea]; exact vals_refs _
      · rw [Array.toArray_toList]; exact eg.trans ag
    · obtain ⟨⟨T, x, y⟩, hm, rfl⟩ := List.mem_map.mp h
      obtain ⟨i, hi⟩ := List.mem_iff_getElem?.mp hm
      obtain ⟨h1, h2⟩ := List.getElem?_zip_eq_some.mp hi
      obtain ⟨T', eT, b, hp1, hr1, hr2⟩ := Paired.get2 pz h2
      have : T' = T := by rw [show Ts[i]? = some T' from eT] at h1; exact Option.some.inj h1
      subst this
      exact ⟨by show 2 ≤ sizeLine; decide, [b.1, b.2], .cons hr1 (.cons hr2 .nil), ⟨_, (show G.get? _ = _ from eg).trans hp1, rfl, _, rfl⟩⟩
  refine ⟨.ref S, updL H1 news, J2, rfl, q S _ ⟨J.hok.fresh hS, fun b o e => ?_, Ts, ?_, ?_⟩⟩
  · refine (updL_ne fun h => ?_).trans e
    obtain ⟨p, hp, hb⟩ := List.mem_map.mp h
    rw [← hb, (fr p hp).2] at e
    cases e
  · exact updL_at (p := (S, HO.lst (Ts.map V.ref))) nd List.mem_cons_self
  · refine Paired.ofGet hlen fun i T pq h1 h2 => ?_
    have hT : T ∈ Ts := List.mem_iff_getElem?.mpr ⟨i, h1⟩
    have hm : ((T, HO.tup [pq.1, pq.2]) : Addr × HO) ∈ news := by
      refine List.mem_cons_of_mem _ (List.mem_map.mpr ⟨(T, pq), ?_, rfl⟩)
      exact List.mem_iff_getElem?.mpr ⟨i, List.getElem?_zip_eq_some.mpr ⟨h1, h2⟩⟩
    have h3 := pa.2.1 T hT
    exact ⟨Nat.ne_of_gt h3, (fr _ hm).2, updL_at (p := (T, HO.tup [pq.1, pq.2])) nd hm⟩
theorem pe_listZip {e e2 : Expr} {ta : TA} {p p2 pos pos2 : Pos} (hc : X.calm = true) (hm : X.mg "list" = none) (hm2 : X.mg "zip" = none) (ha : PA X [e, e2] ta) (hg : Gl X "list" := by rfl) (hg2 : Gl X "zip" := by rfl)
    (hs : starEach [e, e2] X.env = (false, eval e X.env) :: starEach [e2] X.env := by rfl) (hpl : (backTo pos2 (starEach [e2] X.env)).any (·.1) = false := by rfl) (n2 : starEach [.Call (.Name "zip" p2) [e, e2] [] pos2] X.env = (false, eval (.Call (.Name "zip" p2) [e, e2] [] pos2) X.env) :: starEach [] X.env := by rfl) :
    PE X (.Call (.Name "list" p) [.Call (.Name "zip" p2) [e, e2] [] pos2] [] pos) (tListZip X.K ta) := by
  refine ⟨fun pins s σ H Q I h => Call_ (ld_blt I hg hm boot_list (PyProof.Rows.callWith_type1 (args_cons (Call_ (ld_blt I hg2 hm2 PyProof.Rows.boot_zip (PyProof.Rows.callWith_type1 (thn (ha.run pos2 pins s σ H _ I h) fun us t ⟨vs, H1, J, rv, q⟩ => ?_) hs hpl))) n2) n2 rfl))⟩
  obtain ⟨a, b, xs, ys, ev, hq, q⟩ := q
  subst ev
  cases rv with
  | cons r rr =>
    cases rr with
    | cons r' rr =>
      cases rr
      cases r
      cases r'
      rcases hq with ⟨qx, qy⟩ | ⟨qx, qy⟩
      · obtain ⟨us, rx, p1, z1⟩ := J.list qx
        obtain ⟨ws, ry, p3, z2⟩ := J.list qy
        refine call_zip_2 p1.isList p3.isList fun g hz hTI hTO h1 h2 hsz hk => args_nil ?_
        have J2 : Inv X pins σ H1 { t with heap := g } := J.kept (t' := t.toks) hk
        have ne1 : a ≠ t.heap.objs.size := Nat.ne_of_lt p1.lt
        have ne2 : b ≠ t.heap.objs.size + 1 := Nat.ne_of_lt (Nat.lt_succ_of_lt p3.lt)
        refine call_list_zip (s := { t with heap := g }) (J.ok.hd hc) (PySem.W.ktu_apart t.heap.objs.size a b p1.lt p3.lt) (nx_list (xs := us.toArray) ne1) (nx_list (xs := ws.toArray) ne2) hz hTI hTO ⟨h1, p1.isList.at fun o e => hk _ o e⟩ ⟨h2, p3.isList.at fun o e => hk _ o e⟩ (by rw [List.size_toArray, ← rx.length]; exact z1) fun g2 acc c Ts kp ag ea pa => ?_
        refine newPairs_fin (t := t) (g := g2) (B := a) (us := us) (ws := ws) J (fun b o e => kp b o (fun h => ?_) (hk b o e)) (by show t.heap.objs.size ≤ g.objs.size; omega) z1 ag ea pa rx ry q
        have := Heap.lt_size e
        simp only [List.mem_cons, List.not_mem_nil, or_false] at h
        rcases h with h | h | h | h <;> rw [h] at this
        · exact absurd this (Nat.not_lt.mpr (Nat.le_add_right _ _))
        · exact absurd this (Nat.not_lt.mpr (Nat.le_add_right _ _))
        · exact Nat.lt_irrefl _ this
        · exact absurd this (Nat.not_lt.mpr (Nat.le_add_right _ _))
      · obtain ⟨us, rx, p1, z1⟩ := J.tuple qx
        obtain ⟨ws, ry, p3, z2⟩ := J.tuple qy
        obtain ⟨o1, ho1, _⟩ := id p1
        obtain ⟨o2, ho2, _⟩ := id p3
        have p1' : t.heap.IsTuple a us.toArray := p1
        have p3' : t.heap.IsTuple b ws.toArray := p3
        refine RZ.call_zipT p1' p3' fun g hz hTI hTO h1 h2 hsz hk => args_nil ?_
        have ne1 : a ≠ t.heap.objs.size := Nat.ne_of_lt (Heap.lt_size ho1)
        have ne2 : b ≠ t.heap.objs.size + 1 := Nat.ne_of_lt (Nat.lt_succ_of_lt (Heap.lt_size ho2))
        refine call_list_zip (s := { t with heap := g }) (J.ok.hd hc) (PySem.W.ktu_apart t.heap.objs.size a b (Heap.lt_size ho1) (Heap.lt_size ho2)) (nx_tup (xs := us.toArray) ne1) (nx_tup (xs := ws.toArray) ne2) hz hTI hTO ⟨h1, p1'.at fun o e => hk _ o e⟩ ⟨h2, p3'.at fun o e => hk _ o e⟩ (by rw [List.size_toArray, ← rx.length]; exact z1) fun g2 acc c Ts kp ag ea pa => ?_
        refine newPairs_fin (t := t) (g := g2) (B := a) (us := us) (ws := ws) J (fun b o e => kp b o (fun h => ?_) (hk b o e)) (by show t.heap.objs.size ≤ g.objs.size; omega) z1 ag ea pa rx ry q
        have := Heap.lt_size e
        simp only [List.mem_cons, List.not_mem_nil, or_false] at h
        rcases h with h | h | h | h <;> rw [h] at this
        · exact absurd this (Nat.not_lt.mpr (Nat.le_add_right _ _))
        · exact absurd this (Nat.not_lt.mpr (Nat.le_add_right _ _))
        · exact Nat.lt_irrefl _ this
        · exact absurd this (Nat.not_lt.mpr (Nat.le_add_right _ _))
end
end Fx

end

/-! Fx16: list(reversed(x)), list(zip(x, y)), tuples and lists of ranges, enumerate, zip, sorted(set(x)) -/
noncomputable section
namespace Fx
open PySem PySem.Spec PyProof.Rows L2

section
variable {X : Cx} {np : Nat} {pos : Pos}
def fListRev (ow : Bool) (f : FE) : FE := fun Γ => (f Γ).bind fun p => (dv p.2 p.1).bind fun d => match d with
  | .list ds => some ((Res.new ds.reverse).fin ow, p.2)
  | _ => none
theorem fx_listRev {ow : Bool} {a : Expr} {fa : FE} {p p2 pos2 : Pos} (hc : X.calm = true) (ml : X.mg "list" = none) (mr : X.mg "reversed" = none) (ha : FX X np a fa) (hg : Gl X "list" := by rfl) (hg2 : Gl X "reversed" := by rfl)
    (n1 : starEach [a] X.env = (false, eval a X.env) :: starEach [] X.env := by rfl) (n2 : starEach [.Call (.Name "reversed" p2) [a] [] pos2] X.env = (false, eval (.Call (.Name "reversed" p2) [a] [] pos2) X.env) :: starEach [] X.env := by rfl) :
    FX X np (.Call (.Name "list" p) [.Call (.Name "reversed" p2) [a] [] pos2] [] pos) (fListRev ow fa) := by
  refine PE.weak (pe_listRev hc ml mr ha hg hg2 n1 n2) fun σ H Q h => ?_
  obtain ⟨W, Γ, vs, ts, t, Γ', c, e, q⟩ := h
  obtain ⟨⟨t1, Γ1⟩, e1, e⟩ := Option.bind_eq_some_iff.mp e
  obtain ⟨d, e2, e⟩ := Option.bind_eq_some_iff.mp e
  split at e
  · rename_i ds
    cases e
    refine ⟨W, Γ, vs, ts, _, Γ1, c, e1, fun x H1 c1 => ?_⟩
    obtain ⟨O, c1⟩ := c1
    obtain ⟨a, xs, rfl, ha, fa⟩ := c1.view c1.top e2
    exact ⟨a, xs, rfl, .of ha, fun p hp => okn (fun v H' ok => q v H' (c1.pop.res ok)) hp fa.reverse⟩
  · cases e
def fListZip (ow : Bool) (fs : FA) : FE := fun Γ => (fs Γ).bind fun p => (dvs p.2 p.1).bind fun ds => match ds with
  | [.list as, .list bs] => some ((Res.new (zipD as bs)).fin ow, p.2)
  | [.tuple as, .tuple bs] => some ((Res.new (zipD as bs)).fin ow, p.2)
  | _ => none
theorem zip_frozen {K : PySem.W.Frag} {O : Own} {H H2 : Hp} {p : Addr} {as bs : List PyData} {xs ys : List V} (fa : FzA K O H as xs) (fb : FzA K O H bs ys) (kp : Kp O H O H2) (hT : ∀ t, t ≠ p → H t = none → O t = none) : ∀ {Ts : List Addr}, Paired (fun t q => t ≠ p ∧ H t = none ∧ H2 t = some (.tup [q.1, q.2])) Ts (xs.zip ys) → FzA K O H2 (zipD as bs) (Ts.map V.ref) := by
  intro Ts h
  have hl : Ts.length = (xs.zip ys).length := Paired.len2 h
  refine FzA.of_get ?_ fun i d v e1 e2 => ?_
  · unfold zipD
    rw [List.length_map, List.length_map, hl, List.length_zip, List.length_zip, fa.length, fb.length]
  · obtain ⟨x, y, g1, g2, rfl⟩ := zipD_get e1
    obtain ⟨u, eu, ru⟩ := fa.get g1
    obtain ⟨w, ew, rw'⟩ := fb.get g2
    have ez : (xs.zip ys)[i]? = some (u, w) := List.getElem?_zip_eq_some.mpr ⟨eu, ew⟩
    obtain ⟨T, eT, h0, h1, h2⟩ := Paired.get2 h ez
    rw [List.getElem?_map, show Ts[i]? = some T from eT] at e2
    cases e2
    exact .tup (.inl h2) (hT T h0 h1) (.cons (Fz.kp kp _ _ ru) (.cons (Fz.kp kp _ _ rw') .nil))
theorem Cf.newZip {K : PySem.W.Frag} {W : Wd} {O : Own} {σ : L2.St} {H H2 : Hp} {Γ : Gm} {vs : List V} {ts : List TV} {ow : Bool} {p : Addr} {as bs : List PyData} {xs ys : List V} (c : Cf K np W O σ H Γ vs ts) (fa : FzA K O H as xs) (fb : FzA K O H bs ys) (n : NewPairs H H2 p xs ys) :
    Cfg K np W σ H2 Γ (.ref p :: vs) ((Res.new (zipD as bs)).fin ow :: ts) := by
  obtain ⟨hp, kp, Ts, h2, pr⟩ := n
  have k0 : Kp O H O H2 := fun b o e n => ⟨kp b o e, n⟩
  have dom2 : ∀ b t, O b = some t → H2 b ≠ none := fun b t q => by
    cases z : H b with
    | none => exact absurd z (c.dom b t q)
    | some o => rw [kp b o z]; exact fun z => by cases z
  cases ow with
  | false =>
    have a0 : Ev J0 O H O H2 := ⟨fun b o e _ => ⟨kp b o e, rfl⟩, dom2, fun _ h => h⟩
    exact ⟨O, (c.ev0 a0).push (.lst h2 (own_none c.dom hp) (zip_frozen fa fb k0 (fun t _ h => own_none c.dom h) pr))⟩
  | true =>
    have n1 : ∀ b o, H b = some o → put O p (.tmp ts.length) b = O b := fun b o e => put_ne (ne_of_none e hp)
    have k1 : Kp O H (put O p (.tmp ts.length)) H := fun b o e n => ⟨e, (n1 b o e).trans n⟩
    have a1 : Ev J0 O H (put O p (.tmp ts.length)) H2 := by
      refine ⟨fun b o e _ => ⟨kp b o e, n1 b o e⟩, fun b t q => ?_, fun b q => ?_⟩
      · by_cases e : b = p
        · rw [e, h2]; exact fun z => by cases z
        · rw [put_ne e] at q; exact dom2 b t q
      · by_cases e : b = p
        · rw [e, put_same] at q; cases q
        · rwa [put_ne e] at q
    refine ⟨_, (c.ev0 a1).push ⟨p, _, rfl, put_same, h2, ?_⟩⟩
    exact zip_frozen (p := p) (FzA.kp k1 _ _ fa) (FzA.kp k1 _ _ fb) (fun b o e n => ⟨kp b o e, n⟩) (fun t h0 h => by rw [put_ne h0]; exact own_none c.dom h) pr
theorem fx_listZip {ow : Bool} {e e2 : Expr} {fs : FA} {p p2 pos2 : Pos} (hc : X.calm = true) (ml : X.mg "list" = none) (mz : X.mg "zip" = none) (ha : FAX X np [e, e2] fs) (hg : Gl X "list" := by rfl) (hg2 : Gl X "zip" := by rfl)
    (hs : starEach [e, e2] X.env = (false, eval e X.env) :: starEach [e2] X.env := by rfl) (hpl : (backTo pos2 (starEach [e2] X.env)).any (·.1) = false := by rfl) (n2 : starEach [.Call (.Name "zip" p2) [e, e2] [] pos2] X.env = (false, eval (.Call (.Name "zip" p2) [e, e2] [] pos2) X.env) :: starEach [] X.env := by rfl) :
    FX X np (.Call (.Name "list" p) [.Call (.Name "zip" p2) [e, e2] [] pos2] [] pos) (fListZip ow fs) := by
  refine PE.weak (pe_listZip hc ml mz ha hg hg2 hs hpl n2) fun σ H Q h => ?_
  obtain ⟨W, Γ, vs, ts, t, Γ', c, e, q⟩ := h
  obtain ⟨⟨us, Γ1⟩, e1, e⟩ := Option.bind_eq_some_iff.mp e
  obtain ⟨ds, e2, e⟩ := Option.bind_eq_some_iff.mp e
  refine ⟨W, Γ, vs, ts, us, Γ1, c, e1, fun xs H1 c1 el => ?_⟩
  obtain ⟨O, c1⟩ := c1
  obtain ⟨pr, c2⟩ := c1.args el
  have vw := c2.views pr e2
  split at e
  · cases e
    obtain ⟨x, y, rfl, ⟨a, us, rfl, ha, fa⟩, ⟨b, ws, rfl, hb, fb⟩⟩ := vw.two
    exact ⟨a, b, us, ws, rfl, .inl ⟨.of ha, .of hb⟩, fun p H2 n => q _ H2 (c2.newZip fa fb n)⟩
  · cases e
    obtain ⟨x, y, rfl, h1, h2⟩ := vw.two
    obtain ⟨a, us, rfl, ha, fa⟩ := Fz.sqT h1
    obtain ⟨b, ws, rfl, hb, fb⟩ := Fz.sqT h2
    exact ⟨a, b, us, ws, rfl, .inr ⟨ha, hb⟩, fun p H2 n => q _ H2 (c2.newZip fa fb n)⟩
  · cases e

/-! ### ranges -/
def fTupR1 (f : FE) : FE := fun Γ => (f Γ).bind fun p => (intT p.1).bind fun n => (rgA n).map fun l => (.md (.dat (.tuple l)), p.2)
theorem fx_tupR1 {a : Expr} {p pr pc : Pos} {fa : FE} (hc : X.calm = true) (ml : X.mg "tuple" = none) (mr : X.mg "range" = none) (ha : FX X np a fa) (gl : Gl X "tuple" := by rfl) (gr : Gl X "range" := by rfl)
    (n1 : starEach [a] X.env = (false, eval a X.env) :: starEach [] X.env := by rfl) (n2 : starEach [.Call (.Name "range" pr) [a] [] pc] X.env = (false, eval (.Call (.Name "range" pr) [a] [] pc) X.env) :: starEach [] X.env := by rfl) :
    FX X np (.Call (.Name "tuple" p) [.Call (.Name "range" pr) [a] [] pc] [] pos) (fTupR1 fa) := by
  refine PE.weak (pe_tupRg hc gl ml (prg_1 gr mr ha n1) n2) fun σ H Q h => ?_
  obtain ⟨W, Γ, vs, ts, t, Γ', c, e, q⟩ := h
  obtain ⟨⟨t1, Γ1⟩, e1, e⟩ := Option.bind_eq_some_iff.mp e
  obtain ⟨n, e2, e⟩ := Option.bind_eq_some_iff.mp e
  obtain ⟨l, e3, e4⟩ := Option.map_eq_some_iff.mp e
  cases e4
  have ht : t1 = .md (.dat (.int n)) := intT_to e2
  subst ht
  obtain ⟨hn, el⟩ := rgA_to e3
  subst el
  refine ⟨W, Γ, vs, ts, _, Γ1, c, e1, fun x H1 c1 => ?_⟩
  obtain ⟨O, c1⟩ := c1
  have r : Fz X.K O H1 (.int n) x := c1.top
  cases r
  refine ⟨n, rfl, rg2Ok_to hn, fun p hp => ?_⟩
  have fz := rangeV (K := X.K) (O := O) (H := H1) 0 n
  rw [Int.sub_zero] at fz
  exact okt c1.dom (fun v H' ok => q v H' (c1.pop.res (ow := false) ok)) hp fz
def fTupR2 (fa fb : FE) : FE := fun Γ => (fa Γ).bind fun p => (fb p.2).bind fun p2 => (intT p.1).bind fun i => (intT p2.1).bind fun j => (rgB i j).map fun l => (.md (.dat (.tuple l)), p2.2)
def fListR2 (ow : Bool) (fa fb : FE) : FE := fun Γ => (fa Γ).bind fun p => (fb p.2).bind fun p2 => (intT p.1).bind fun i => (intT p2.1).bind fun j => (rgB i j).map fun l => ((Res.new l).fin ow, p2.2)
section
variable {a b : Expr} {p pr pc : Pos} {fa fb : FE}
theorem fx_tupR2 (hc : X.calm = true) (ml : X.mg "tuple" = none) (mr : X.mg "range" = none) (ha : FX X np a fa) (hb : FX X np b fb) (gl : Gl X "tuple" := by rfl) (gr : Gl X "range" := by rfl)
    (n0 : starEach [a, b] X.env = (false, eval a X.env) :: starEach [b] X.env := by rfl) (n1 : starEach [b] X.env = (false, eval b X.env) :: starEach [] X.env := by rfl) (hp : (backTo pc (starEach [b] X.env)).any (·.1) = false := by rfl) (n2 : starEach [.Call (.Name "range" pr) [a, b] [] pc] X.env = (false, eval (.Call (.Name "range" pr) [a, b] [] pc) X.env) :: starEach [] X.env := by rfl) :
    FX X np (.Call (.Name "tuple" p) [.Call (.Name "range" pr) [a, b] [] pc] [] pos) (fTupR2 fa fb) := by
  refine PE.weak (pe_tupRg hc gl ml (prg_2 gr mr ha hb n0 n1 hp) n2) fun σ H Q h => ?_
  obtain ⟨W, Γ, vs, ts, t, Γ', c, e, q⟩ := h
  obtain ⟨⟨t1, Γ1⟩, e1, e⟩ := Option.bind_eq_some_iff.mp e
  obtain ⟨⟨t2, Γ2⟩, e2, e⟩ := Option.bind_eq_some_iff.mp e
  obtain ⟨i, e3, e⟩ := Option.bind_eq_some_iff.mp e
  obtain ⟨j, e4, e5⟩ := Option.bind_eq_some_iff.mp e
  have h1 : t1 = .md (.dat (.int i)) := intT_to e3
  have h2 : t2 = .md (.dat (.int j)) := intT_to e4
  subst h1 h2
  obtain ⟨l, e6, e7⟩ := Option.map_eq_some_iff.mp e5
  cases e7
  obtain ⟨hn, el⟩ := rgB_to e6
  subst el
  refine ⟨W, Γ, vs, ts, _, Γ1, c, e1, fun x H1 c1 => ⟨W, Γ1, _, _, _, Γ2, c1, e2, fun y H2 c2 => ?_⟩⟩
  obtain ⟨O, c2⟩ := c2
  have r : Fz X.K O H2 (.int j) y := c2.top
  have r' : Fz X.K O H2 (.int i) x := c2.pop.top
  cases r
  cases r'
  exact ⟨i, j, rfl, rfl, rg2Ok_to hn, fun p hp => okt c2.dom (fun v H' ok => q v H' (c2.pop.pop.res (ow := false) ok)) hp (rangeV i j)⟩
theorem fx_listR2 {ow : Bool} (hc : X.calm = true) (ml : X.mg "list" = none) (mr : X.mg "range" = none) (ha : FX X np a fa) (hb : FX X np b fb) (gl : Gl X "list" := by rfl) (gr : Gl X "range" := by rfl)
    (n0 : starEach [a, b] X.env = (false, eval a X.env) :: starEach [b] X.env := by rfl) (n1 : starEach [b] X.env = (false, eval b X.env) :: starEach [] X.env := by rfl) (hp : (backTo pc (starEach [b] X.env)).any (·.1) = false := by rfl) (n2 : starEach [.Call (.Name "range" pr) [a, b] [] pc] X.env = (false, eval (.Call (.Name "range" pr) [a, b] [] pc) X.env) :: starEach [] X.env := by rfl) :
    FX X np (.Call (.Name "list" p) [.Call (.Name "range" pr) [a, b] [] pc] [] pos) (fListR2 ow fa fb) := by
  refine PE.weak (pe_listRg hc gl ml (prg_2 gr mr ha hb n0 n1 hp) n2) fun σ H Q h => ?_
  obtain ⟨W, Γ, vs, ts, t, Γ', c, e, q⟩ := h
  obtain ⟨⟨t1, Γ1⟩, e1, e⟩ := Option.bind_eq_some_iff.mp e
  obtain ⟨⟨t2, Γ2⟩, e2, e⟩ := Option.bind_eq_some_iff.mp e
  obtain ⟨i, e3, e⟩ := Option.bind_eq_some_iff.mp e
  obtain ⟨j, e4, e5⟩ := Option.bind_eq_some_iff.mp e
  have h1 : t1 = .md (.dat (.int i)) := intT_to e3
  have h2 : t2 = .md (.dat (.int j)) := intT_to e4
  subst h1 h2
  obtain ⟨l, e6, e7⟩ := Option.map_eq_some_iff.mp e5
  cases e7
  obtain ⟨hn, el⟩ := rgB_to e6
  subst el
  refine ⟨W, Γ, vs, ts, _, Γ1, c, e1, fun x H1 c1 => ⟨W, Γ1, _, _, _, Γ2, c1, e2, fun y H2 c2 => ?_⟩⟩
  obtain ⟨O, c2⟩ := c2
  have r : Fz X.K O H2 (.int j) y := c2.top
  have r' : Fz X.K O H2 (.int i) x := c2.pop.top
  cases r
  cases r'
  exact ⟨i, j, rfl, rfl, rg2Ok_to hn, fun p hp => okn (fun v H' ok => q v H' (c2.pop.pop.res ok)) hp (rangeV i j)⟩
end

/-! ### zip that is walked -/
def fZip (fs : FA) : FI := fun Γ => (fs Γ).bind fun p => match p.1 with
  | [.md (.dat (.list as)), .md (.dat (.list bs))] => some (zipD as bs, p.2)
  | [.md (.dat (.tuple as)), .md (.dat (.tuple bs))] => some (zipD as bs, p.2)
  | _ => none
theorem fi_zip {e e2 : Expr} {fs : FA} {p tpos : Pos} {elts : List Expr} {kk : Nat} (hm : X.mg "zip" = none) (ha : FAX X np [e, e2] fs) (hg : Gl X "zip" := by rfl) (hs : starEach [e, e2] X.env = (false, eval e X.env) :: starEach [e2] X.env := by rfl) (hpl : (backTo pos (starEach [e2] X.env)).any (·.1) = false := by rfl) :
    FIX X np (.Tuple elts kk tpos) (.Call (.Name "zip" p) [e, e2] [] pos) (fZip fs) := by
  refine PI.weak (RZ.pi_zipA hg hm ha hs hpl) fun σ H R h => ?_
  obtain ⟨W, Γ, vs, ts, items, Γ', c, e, q⟩ := h
  obtain ⟨⟨us, Γ1⟩, e1, e⟩ := Option.bind_eq_some_iff.mp e
  refine ⟨W, Γ, vs, ts, us, Γ1, c, e1, fun xs H1 c1 el => ?_⟩
  obtain ⟨O, c1⟩ := c1
  dsimp only at e
  split at e
  · cases e
    match xs, el with
    | [x, y], _ =>
      have cc : Cf X.K np W O σ H1 Γ' (y :: x :: vs) (.md (.dat (.list _)) :: .md (.dat (.list _)) :: ts) := c1
      have r1 : Fz X.K O H1 _ y := cc.top
      have r2 : Fz X.K O H1 _ x := cc.pop.top
      obtain ⟨a, us, rfl, ha, fa, _⟩ := r2.sqL
      obtain ⟨b, ws, rfl, hb, fb, _⟩ := r1.sqL
      exact ⟨a, b, us, ws, rfl, .inl ⟨.of ha, .of hb, q _ _ _ cc.pop.pop (itf_zip r2 r1)⟩⟩
  · cases e
    match xs, el with
    | [x, y], _ =>
      have cc : Cf X.K np W O σ H1 Γ' (y :: x :: vs) (.md (.dat (.tuple _)) :: .md (.dat (.tuple _)) :: ts) := c1
      have r1 : Fz X.K O H1 _ y := cc.top
      have r2 : Fz X.K O H1 _ x := cc.pop.top
      obtain ⟨a, us, rfl, ha, fa⟩ := r2.sqT
      obtain ⟨b, ws, rfl, hb, fb⟩ := r1.sqT
      exact ⟨a, b, us, ws, rfl, .inr ⟨ha, hb, q _ _ _ cc.pop.pop (itf_zipT r2 r1)⟩⟩
  · cases e
end
end Fx

end

/-! Fx17: dicts with whole numbers and texts as keys; sorted(set(x)) -/
noncomputable section
namespace Fx
open PySem PySem.Spec PyProof.Rows L2

def kD : Key → PyData
  | .inl i => .int i
  | .inr x => .str x
def kOf : PyData → Option Key
  | .int i => some (.inl i)
  | .str x => some (.inr x)
  | _ => none
theorem kOf_kD (k : Key) : kOf (kD k) = some k := by cases k <;> rfl
theorem kOf_to {d : PyData} {k : Key} (h : kOf d = some k) : d = kD k := by
  unfold kOf at h
  split at h
  · cases h; rfl
  · cases h; rfl
  · cases h
def valD (kvs : List (Key × PyData)) (k : Key) : Option PyData := (kvs.find? fun p => decide (p.1 = k)).map (·.2)
def putD (kvs : List (Key × PyData)) (k : Key) (d : PyData) : List (Key × PyData) := if (kvs.any fun p => decide (p.1 = k)) = true then kvs.map (fun p => if p.1 = k then (p.1, d) else p) else kvs ++ [(k, d)]
def pairsD (kvs : List (Key × PyData)) : List (PyData × PyData) := kvs.map fun p => (kD p.1, p.2)
def keysD : List (PyData × PyData) → Option (List (Key × PyData))
  | [] => some []
  | p :: r => (kOf p.1).bind fun k => (keysD r).map fun l => (k, p.2) :: l
theorem keysD_pairs (kvs : List (Key × PyData)) : keysD (pairsD kvs) = some kvs := by
  induction kvs with
  | nil => rfl
  | cons p r ih =>
    show (kOf (kD p.1)).bind (fun k => (keysD (pairsD r)).map fun l => (k, p.2) :: l) = _
    rw [kOf_kD, ih]
    rfl
section
variable {K : PySem.W.Frag} {O : Own} {H : Hp} {kvs : List (Key × PyData)} {ws : List (Key × V)}
theorem kD_fz {k : Key} {v : V} (h : Fz K O H (kD k) v) : v = kV k := by
  cases k with
  | inl i => cases h; rfl
  | inr x => cases h; rfl
theorem fz_kD (k : Key) : Fz K O H (kD k) (kV k) := by
  cases k with
  | inl i => exact .int i
  | inr x => exact .str x
theorem kV_inj {a b : Key} (h : kV a = kV b) : a = b := by
  cases a <;> cases b <;> cases h <;> rfl
theorem PDict.val (h : PDict K O H kvs ws) (k : Key) : (∀ d, valD kvs k = some d → ∃ v, valV ws k = some v ∧ Fz K O H d v) ∧ (valD kvs k = none → valV ws k = none) := by
  unfold PDict at h
  induction h with
  | nil => exact ⟨fun d e => (by cases e), fun _ => rfl⟩
  | @cons p q l m r t ih =>
    by_cases e : p.1 = k
    · have e' : q.1 = k := r.1.symm.trans e
      have a1 : valD (p :: l) k = some p.2 := by simp [valD, e]
      rw [a1, valV_pos e']
      exact ⟨fun d h => (by cases h; exact ⟨_, rfl, r.2⟩), fun h => (by cases h)⟩
    · have e' : ¬ q.1 = k := fun z => e (r.1.trans z)
      have a1 : valD (p :: l) k = valD l k := by simp [valD, e]
      rw [a1, valV_neg e']
      exact ih
theorem PDict.any (h : PDict K O H kvs ws) (k : Key) : (kvs.any fun p => decide (p.1 = k)) = (ws.any fun p => decide (p.1 = k)) := by
  unfold PDict at h
  induction h with
  | nil => rfl
  | @cons p q l m r t ih => rw [List.any_cons, List.any_cons, ih, r.1]
theorem PDict.put (h : PDict K O H kvs ws) (k : Key) {d : PyData} {v : V} (r : Fz K O H d v) : PDict K O H (putD kvs k d) (putK ws k v) := by
  unfold putD putK
  rw [h.any k]
  split
  · unfold PDict at h ⊢
    rename_i hh
    clear hh
    induction h with
    | nil => exact .nil
    | @cons p q l m r0 t ih =>
      rw [List.map_cons, List.map_cons]
      refine .cons ?_ ih
      by_cases e : p.1 = k
      · rw [if_pos e, if_pos (r0.1.symm.trans e)]
        exact ⟨r0.1, r⟩
      · rw [if_neg e, if_neg fun z => e (r0.1.trans z)]
        exact r0
  · unfold PDict at h ⊢
    exact Paired.snoc h ⟨rfl, r⟩
theorem PDict.frz (h : PDict K O H kvs ws) : FzD K O H (pairsD kvs) ws := by
  unfold PDict at h
  induction h with
  | nil => exact .nil
  | @cons p q l m r t ih =>
    show FzD K O H ((kD p.1, p.2) :: pairsD l) _
    obtain ⟨q1, q2⟩ := q
    obtain ⟨rfl, r2⟩ := r
    exact .cons (fz_kD _) r2 ih
theorem pdict_of : ∀ {ds : List (PyData × PyData)} {ws : List (Key × V)} {kvs : List (Key × PyData)}, FzD K O H ds ws → keysD ds = some kvs → PDict K O H kvs ws
  | [], _, _, h, e => by
    cases h
    cases e
    exact .nil
  | p :: r, _, _, h, e => by
    obtain ⟨e0, d0⟩ := p
    obtain ⟨k, e1, e⟩ := Option.bind_eq_some_iff.mp e
    obtain ⟨l, e2, e⟩ := Option.map_eq_some_iff.mp e
    cases e
    have e1' := kOf_to e1
    dsimp only at e1'
    subst e1'
    cases h with
    | cons h1 h2 h3 => exact .cons ⟨(kV_inj (kD_fz h1)).symm, h2⟩ (pdict_of h3 e2)
theorem PDict.length (h : PDict K O H kvs ws) : kvs.length = ws.length := Paired.len2 h
theorem PDict.keys (h : PDict K O H kvs ws) : ws.map (·.1) = kvs.map (·.1) := by
  unfold PDict at h
  induction h with
  | nil => rfl
  | @cons p q l m r t ih => rw [List.map_cons, List.map_cons, ih, r.1]
end
/-- what a value holds as a dict -/
def dkM : MD → Option (List (Key × PyData))
  | .dcK kvs => some kvs
  | .dat (.dict ds) => keysD ds
  | _ => none
def dkT (Γ : Gm) : TV → Option (List (Key × PyData))
  | .md m => dkM m
  | .al i => match Γ[i]? with
    | some (some m) => dkM m
    | _ => none
section
variable {K : PySem.W.Frag} {np : Nat} {W : Wd} {O O' : Own} {σ σ' : L2.St} {H H' : Hp} {Γ Γ' : Gm} {vs : List V} {ts : List TV}
theorem dkM_at {t : Tag} {m : MD} {v : V} {kvs : List (Key × PyData)} (r : MR K O H t m v) (e : dkM m = some kvs) : ∃ a ws, v = .ref a ∧ Rd H a (.dK ws) ∧ PDict K O H kvs ws := by
  cases m with
  | dcK l =>
    cases e
    obtain ⟨a, ws, rfl, _, h1, h2⟩ := r
    exact ⟨a, ws, rfl, .inl h1, h2⟩
  | dat d =>
    cases d with
    | dict ds =>
      have r' : Fz K O H (.dict ds) v := r
      cases r' with
      | dct hr n fd => exact ⟨_, _, rfl, .inr ⟨_, hr⟩, pdict_of fd e⟩
    | _ => cases e
  | _ => cases e
theorem Cf.dkAt (c : Cf K np W O σ H Γ vs ts) {t : TV} {g : Tag} {v : V} {kvs : List (Key × PyData)} (r : TR K O H σ Γ g t v) (e : dkT Γ t = some kvs) : ∃ a ws, v = .ref a ∧ Rd H a (.dK ws) ∧ PDict K O H kvs ws := by
  cases t with
  | md m => exact dkM_at r e
  | al i =>
    obtain ⟨e1, m, e2, _⟩ := r
    obtain ⟨v', e3, r'⟩ := c.sl i m e2
    rw [e1] at e3
    cases e3
    simp only [dkT, e2] at e
    exact dkM_at r' e
end
section
variable {X : Cx} {np : Nat} {pos pos' apos : Pos} {o i x : Expr} {fo fi fx : FE}
/-- {} -/
def fDNewK : FE := fun Γ => some (.md (.dcK []), Γ)
theorem fx_dnewK : FX X np (.Dict [] [] pos) fDNewK := by
  refine PE.weak pe_dnewK fun σ H Q h => ?_
  obtain ⟨W, Γ, vs, ts, t, Γ', ⟨O, c⟩, e, q⟩ := h
  cases e
  intro p hp
  have n := Ev.newOwn (o := .dK []) (t := .tmp ts.length) (by simp) c.dom hp
  exact q _ _ ⟨_, (c.ev0 n).push ⟨p, [], rfl, put_same, upd_same, .nil⟩⟩
/-- d[k] -/
def fDGet (fo fi : FE) : FE := fun Γ => (fo Γ).bind fun p => (fi p.2).bind fun p2 => (dkT p2.2 p.1).bind fun kvs => (frz p2.1).bind fun kd => (kOf kd).bind fun k => (valD kvs k).map fun d => (.md (.dat d), p2.2)
theorem fx_dget (hu : X.A.units + 1 < cLine) (ho : FX X np o fo) (hi : FX X np i fi) (hs : NoSl i := by intro _ _; rfl) : FX X np (.Subscript o i pos) (fDGet fo fi) := by
  refine PE.weak (pe_dget hu ho hi hs) fun σ H Q h => ?_
  obtain ⟨W, Γ, vs, ts, t, Γ', c, e, q⟩ := h
  obtain ⟨⟨t1, Γ1⟩, e1, e⟩ := Option.bind_eq_some_iff.mp e
  obtain ⟨⟨t2, Γ2⟩, e2, e⟩ := Option.bind_eq_some_iff.mp e
  obtain ⟨kvs, e3, e⟩ := Option.bind_eq_some_iff.mp e
  obtain ⟨kd, e4, e⟩ := Option.bind_eq_some_iff.mp e
  obtain ⟨k, e5, e⟩ := Option.bind_eq_some_iff.mp e
  obtain ⟨d, e6, e⟩ := Option.map_eq_some_iff.mp e
  cases e
  refine ⟨W, Γ, vs, ts, t1, Γ1, c, e1, fun x H1 c1 => ⟨W, Γ1, _, _, t2, Γ2, c1, e2, fun y H2 c2 => ?_⟩⟩
  obtain ⟨O, c2⟩ := c2
  have h2 : t2 = .md (.dat kd) := frz_to e4
  subst h2
  have h3 := kOf_to e5
  subst h3
  obtain ⟨a, ws, rfl, ha, pd⟩ := c2.dkAt c2.pop.top e3
  obtain ⟨v, ev, rv⟩ := (pd.val k).1 d e6
  exact ⟨a, v, rfl, .inl ⟨ws, k, ha, kD_fz c2.top, ev.symm⟩, q v H2 ⟨O, c2.pop.pop.push (t := .md (.dat d)) rv⟩⟩
/-- k in d, k not in d -/
def fDIn (neg : Bool) (fi fo : FE) : FE := fun Γ => (fi Γ).bind fun p => (fo p.2).bind fun p2 => (dkT p2.2 p2.1).bind fun kvs => (frz p.1).bind fun kd => (kOf kd).map fun k => (.md (.dat (.bool ((valD kvs k).isSome != neg))), p2.2)
theorem din_read {neg : Bool} {σ : L2.St} {H : Hp} {Q : VK} (h : up X.K np (fDIn neg fi fo) σ H Q) : up X.K np fi σ H fun y H1 => up X.K np fo σ H1 fun x H2 => ∃ a o, x = .ref a ∧ DGet H2 a y o ∧ Q (.bl (o.isSome != neg)) H2 := by
  obtain ⟨W, Γ, vs, ts, t, Γ', c, e, q⟩ := h
  obtain ⟨⟨t1, Γ1⟩, e1, e⟩ := Option.bind_eq_some_iff.mp e
  obtain ⟨⟨t2, Γ2⟩, e2, e⟩ := Option.bind_eq_some_iff.mp e
  obtain ⟨kvs, e3, e⟩ := Option.bind_eq_some_iff.mp e
  obtain ⟨kd, e4, e⟩ := Option.bind_eq_some_iff.mp e
  obtain ⟨k, e5, e⟩ := Option.map_eq_some_iff.mp e
  cases e
  refine ⟨W, Γ, vs, ts, t1, Γ1, c, e1, fun y H1 c1 => ⟨W, Γ1, _, _, t2, Γ2, c1, e2, fun x H2 c2 => ?_⟩⟩
  obtain ⟨O, c2⟩ := c2
  have h2 : t1 = .md (.dat kd) := frz_to e4
  subst h2
  have h3 := kOf_to e5
  subst h3
  obtain ⟨a, ws, rfl, ha, pd⟩ := c2.dkAt c2.top e3
  have es : (valV ws k).isSome = (valD kvs k).isSome := by
    cases z : valD kvs k with
    | none => rw [(pd.val k).2 z]; rfl
    | some d => obtain ⟨v, ev, _⟩ := (pd.val k).1 d z; rw [ev]; rfl
  refine ⟨a, valV ws k, rfl, .inl ⟨ws, k, ha, kD_fz c2.pop.top, rfl⟩, ?_⟩
  rw [es]
  exact q _ H2 ⟨O, c2.pop.pop.push (t := .md (.dat (.bool ((valD kvs k).isSome != neg)))) (.bl _)⟩
theorem fx_din (hu : X.A.units + 1 < cLine) (hi : FX X np i fi) (ho : FX X np o fo) (hm : behindInMarks .In o = false := by rfl) : FX X np (.Compare i [.In] [o] pos) (fDIn false fi fo) :=
  PE.weak (pe_cmp (pc_din hu hi ho) hm) fun _ _ _ h => by
    have := din_read (neg := false) h
    simp only [Bool.bne_false] at this
    exact this
theorem ft_din (hu : X.A.units + 1 < cLine) (hi : FX X np i fi) (ho : FX X np o fo) (hm : behindInMarks .In o = false := by rfl) : FTX X np (.Compare i [.In] [o] pos) (fT (fDIn false fi fo)) :=
  PT.weak (pt_cmp (pc_din hu hi ho) hm) fun _ _ _ h => by
    have := din_read (neg := false) (np := np) (asTest h)
    simp only [Bool.bne_false] at this
    exact this
theorem fx_dnotin (hu : X.A.units + 1 < cLine) (hi : FX X np i fi) (ho : FX X np o fo) (hm : behindInMarks .NotIn o = false := by rfl) : FX X np (.Compare i [.NotIn] [o] pos) (fDIn true fi fo) :=
  PE.weak (pe_cmp (pc_dnotin hu hi ho) hm) fun _ _ _ h => by
    have := din_read (neg := true) h
    simp only [Bool.bne_true] at this
    exact this
theorem ft_dnotin (hu : X.A.units + 1 < cLine) (hi : FX X np i fi) (ho : FX X np o fo) (hm : behindInMarks .NotIn o = false := by rfl) : FTX X np (.Compare i [.NotIn] [o] pos) (fT (fDIn true fi fo)) :=
  PT.weak (pt_cmp (pc_dnotin hu hi ho) hm) fun _ _ _ h => by
    have := din_read (neg := true) (np := np) (asTest h)
    simp only [Bool.bne_true] at this
    exact this
/-- d.get(k, x) -/
def fDGet2 (fo fi fx : FE) : FE := fun Γ => (fo Γ).bind fun p => (dkT p.2 p.1).bind fun _ => (fi p.2).bind fun p2 => (fx p2.2).bind fun p3 => (dkT p3.2 p.1).bind fun kvs => (frz p2.1).bind fun kd => (frz p3.1).bind fun xd => (kOf kd).map fun k => (.md (.dat ((valD kvs k).getD xd)), p3.2)
theorem fx_dget2 (hu : X.A.units + 1 < cLine) (ho : FX X np o fo) (hi : FX X np i fi) (hx : FX X np x fx) (m : M2 X o "get" apos i x pos := by exact ⟨rfl, rfl, rfl, rfl⟩) : FX X np (.Call (.Attribute o "get" apos) [i, x] [] pos) (fDGet2 fo fi fx) := by
  refine PE.weak (pe_dget2 hu ho hi hx m) fun σ H Q h => ?_
  obtain ⟨W, Γ, vs, ts, t, Γ', c, e, q⟩ := h
  obtain ⟨⟨t1, Γ1⟩, e1, e⟩ := Option.bind_eq_some_iff.mp e
  obtain ⟨kvs0, e0, e⟩ := Option.bind_eq_some_iff.mp e
  obtain ⟨⟨t2, Γ2⟩, e2, e⟩ := Option.bind_eq_some_iff.mp e
  obtain ⟨⟨t3, Γ3⟩, e3, e⟩ := Option.bind_eq_some_iff.mp e
  obtain ⟨kvs, e4, e⟩ := Option.bind_eq_some_iff.mp e
  obtain ⟨kd, e5, e⟩ := Option.bind_eq_some_iff.mp e
  obtain ⟨xd, e6, e⟩ := Option.bind_eq_some_iff.mp e
  obtain ⟨k, e7, e⟩ := Option.map_eq_some_iff.mp e
  cases e
  have h2 : t2 = .md (.dat kd) := frz_to e5
  have h3 : t3 = .md (.dat xd) := frz_to e6
  subst h2 h3
  have h4 := kOf_to e7
  subst h4
  refine ⟨W, Γ, vs, ts, t1, Γ1, c, e1, fun z H1 c1 => ?_⟩
  obtain ⟨O1, c1⟩ := c1
  obtain ⟨a, ws, rfl, ha, pd⟩ := c1.dkAt c1.top e0
  refine ⟨a, rfl, .inl ⟨ws, ha⟩, W, Γ1, _, _, _, Γ2, ⟨O1, c1⟩, e2, fun y H2 c2 => ⟨W, Γ2, _, _, _, Γ3, c2, e3, fun w H3 c3 => ?_⟩⟩
  obtain ⟨O, c3⟩ := c3
  obtain ⟨a', ws', ea, ha', pd'⟩ := c3.dkAt c3.pop.pop.top e4
  cases ea
  refine ⟨valV ws' k, .inl ⟨ws', k, ha', kD_fz c3.pop.top, rfl⟩, ?_⟩
  cases z : valD kvs k with
  | none =>
    rw [(pd'.val k).2 z]
    exact q _ H3 ⟨O, by rw [z]; exact c3.pop.pop.pop.push (t := .md (.dat xd)) c3.top⟩
  | some d =>
    obtain ⟨v, ev, rv⟩ := (pd'.val k).1 d z
    rw [ev]
    exact q _ H3 ⟨O, by rw [z]; exact c3.pop.pop.pop.push (t := .md (.dat d)) rv⟩
def dcS (Γ : Gm) (i : Nat) : Option (List (Key × PyData)) := match Γ[i]? with
  | some (some (.dcK kvs)) => some kvs
  | _ => none
theorem dcS_to {Γ : Gm} {i : Nat} {kvs : List (Key × PyData)} (e : dcS Γ i = some kvs) : Γ[i]? = some (some (.dcK kvs)) := by
  unfold dcS at e
  split at e
  · rename_i h
    cases e
    exact h
  · cases e
/-- d[k] = x, d a slot's own -/
def fDPut (j : Nat) (fx fi : FE) : FS := fun Γ => (fx Γ).bind fun p => (dcS p.2 j).bind fun _ => (fi p.2).bind fun p2 => (frz p.1).bind fun xd => (frz p2.1).bind fun kd => (kOf kd).bind fun k => (dcS p2.2 j).bind fun kvs => if kvs.length < sizeLine then some (.nx (p2.2.set j (some (.dcK (putD kvs k xd))))) else none
theorem fs_dput (j : Nat) {n : Str} {px : Pos} (hu : X.A.units + 1 < cLine) (hx : FX X np x fx) (hi : FX X np i fi) (hN : X.N[j]? = some n := by rfl) (hv : Vis X.env.scope n := by first | exact Or.inl rfl | exact Or.inr (Or.inl rfl) | exact Or.inr (Or.inr rfl)) (hd : (n == ("__debug__" : Str)) = false := by decide) (hcd : (n == ("__classdict__" : Str)) = false := by decide)
    (hs : swapsWith x (some (.Subscript (.Name n px) i pos')) pos.line X.env = pure false := by rfl) : FSX X np (.Assign [.Subscript (.Name n px) i pos'] x pos) (fDPut j fx fi) := by
  refine PS.weak (ps_dput hu (pe_var hN hv hd hcd) hi hx hs) fun D σ H h => ?_
  obtain ⟨W, Γ, vs, ds, o, c, e, q⟩ := h
  obtain ⟨⟨t1, Γ1⟩, e1, e⟩ := Option.bind_eq_some_iff.mp e
  obtain ⟨kvs0, e0, e⟩ := Option.bind_eq_some_iff.mp e
  obtain ⟨⟨t2, Γ2⟩, e2, e⟩ := Option.bind_eq_some_iff.mp e
  obtain ⟨xd, e3, e⟩ := Option.bind_eq_some_iff.mp e
  obtain ⟨kd, e4, e⟩ := Option.bind_eq_some_iff.mp e
  obtain ⟨k, e5, e⟩ := Option.bind_eq_some_iff.mp e
  obtain ⟨kvs, e6, e7⟩ := Option.bind_eq_some_iff.mp e
  have h1 : t1 = .md (.dat xd) := frz_to e3
  have h2 : t2 = .md (.dat kd) := frz_to e4
  subst h1 h2
  have h4 := kOf_to e5
  subst h4
  split at e7
  · rename_i hl
    cases e7
    refine ⟨W, Γ, vs, tsd ds, _, Γ1, c, e1, fun y H1 c1 => ?_⟩
    obtain ⟨O1, c1⟩ := c1
    obtain ⟨v0, hv0, a, _, rfl, _, _, _⟩ := c1.sl j _ (dcS_to e0)
    refine ⟨.ref a, hv0, W, Γ1, y :: vs, _ :: tsd ds, _, Γ2, ⟨O1, c1⟩, e2, fun z H2 c2 => ?_⟩
    obtain ⟨O2, c2⟩ := c2
    obtain ⟨v, ev, a', ws, rfl, oa, ha, pd⟩ := c2.sl j _ (dcS_to e6)
    rw [hv0] at ev
    cases ev
    refine ⟨a, _, rfl, .inl ⟨ws, k, ha, kD_fz c2.top, by rw [← pd.length]; exact hl, rfl⟩, ?_⟩
    have w := Ev.write (o := .dK (putK ws k y)) c2.dom oa
    exact q σ _ ⟨O2, c2.pop.pop.mutS (dcS_to e6) rfl w hv0 ⟨a, _, rfl, oa, upd_same, (pd.put k c2.pop.top).kp w.k⟩ rfl⟩
  · cases e7
/-- a dict of a slot that is changed no more (no step of the program) -/
def fFrzD (i : Nat) (g : FS) : FS := fun Γ => (dcS Γ i).bind fun kvs => g (Γ.set i (some (.dat (.dict (pairsD kvs)))))
theorem PSs.lockS {ss : List Stmt} {t : TS} (h : PSs X ss t) : PSs X ss (fun D σ H => t D σ H ∨ ∃ d kvs, H d = some (.dK kvs) ∧ ∀ od, t D σ (upd H d (.frz od (.dK kvs)))) := by
  refine ⟨fun pins s σ H D I hw => ?_⟩
  rcases hw with hw | ⟨d, kvs, hd, hw⟩
  · exact h.run pins s σ H D I hw
  · obtain ⟨od, I1⟩ := I.lock hd True.intro
    exact h.run pins s σ _ D I1 (hw od)
theorem Cf.freezeD {K : PySem.W.Frag} {W : Wd} {O : Own} {σ : L2.St} {H : Hp} {Γ : Gm} {vs : List V} {ds : List PyData} {i : Nat} {kvs : List (Key × PyData)} (c : Cf K np W O σ H Γ vs (tsd ds)) (e : Γ[i]? = some (some (.dcK kvs))) :
    ∃ a ws, H a = some (.dK ws) ∧ ∀ od, Cfg K np W σ (upd H a (.frz od (.dK ws))) (Γ.set i (some (.dat (.dict (pairsD kvs))))) vs (tsd ds) := by
  obtain ⟨v, hv, a, ws, rfl, oa, ha, pd⟩ := c.sl i _ e
  refine ⟨a, ws, ha, fun od => ?_⟩
  have hl : i < Γ.length := (List.getElem?_eq_some_iff.mp e).1
  have ev : Ev (· = .slot i) O H (retag O (.slot i) none) (upd H a (.frz od (.dK ws))) := (Ev.write (o := .frz od (.dK ws)) c.dom oa).trans (Ev.retag (by simp) (Ev.write (o := .frz od (.dK ws)) c.dom oa).dom)
  refine ⟨_, ev.dom, fun j m' e' => ?_, Tm.evD ev.k c.tm, fun b o h n => ?_, fun b hb => c.out b (ev.out b hb), c.wt, fun j m' hj e' ho => ?_, by rw [List.length_set]; exact c.len⟩
  · by_cases ji : i = j
    · subst ji
      rw [List.getElem?_set_self hl] at e'
      cases e'
      exact ⟨_, hv, .dct upd_same (retag_of oa) (pd.kp ev.k).frz⟩
    · rw [List.getElem?_set_ne ji] at e'
      obtain ⟨w, e1, r1⟩ := c.sl j m' e'
      exact ⟨w, e1, r1.ev ev (by simpa using fun z => ji z.symm)⟩
  · obtain ⟨h1, e1⟩ := c.keep b o h n
    obtain ⟨h2, e2⟩ := ev.kp b o h1 fun t q z => by
      subst z
      rw [e1] at q
      exact n i q
    exact ⟨h2, e2.trans e1⟩
  · by_cases ji : i = j
    · subst ji
      rw [List.getElem?_set_self hl] at e'
      cases e'
      cases ho
    · rw [List.getElem?_set_ne ji] at e'
      exact c.arg j m' hj e' ho
theorem fss_frzD (i : Nat) {ss : List Stmt} {g : FS} (h1 : FSsX X np ss g) : FSsX X np ss (fFrzD i g) := by
  refine PSs.weak (PSs.lockS h1) fun D σ H h => ?_
  obtain ⟨W, Γ, vs, ds, o, ⟨O, c⟩, e, q⟩ := h
  obtain ⟨kvs, e1, e⟩ := Option.bind_eq_some_iff.mp e
  obtain ⟨a, ws, ha, cc⟩ := c.freezeD (dcS_to e1)
  exact .inr ⟨a, ws, ha, fun od => ⟨W, _, vs, ds, o, cc od, e, q⟩⟩
/-- for k in d, d changed no more -/
def fKeys (f : FE) : FI := fun Γ => (f Γ).bind fun p => match p.1 with
  | .md (.dat (.dict ds)) => some (ds.map (·.1), p.2)
  | _ => none
theorem fi_keys {tg e : Expr} {f : FE} (he : FX X np e f) : FIX X np tg e (fKeys f) := by
  refine PI.weak (pi_keys he) fun σ H R h => ?_
  obtain ⟨W, Γ, vs, ts, items, Γ', c, e, q⟩ := h
  obtain ⟨⟨t, Γ1⟩, e1, e⟩ := Option.bind_eq_some_iff.mp e
  dsimp only at e
  split at e
  · rename_i ds
    cases e
    refine ⟨W, Γ, vs, ts, _, _, c, e1, fun v H1 c1 => ?_⟩
    obtain ⟨O, c1⟩ := c1
    have r : Fz X.K O H1 (.dict ds) v := c1.top
    cases r with
    | @dct a od kvs _ hr n fd =>
      exact ⟨a, od, rfl, .inl ⟨kvs, hr, q _ _ _ c1.pop (itf_keys hr n fd)⟩⟩
  · cases e
end
end Fx

end

set_option maxHeartbeats 3200000
/-! Fx18: sorted(set(x)), x a list of whole numbers; sorted(d), len(d) -/
noncomputable section
namespace Fx
open PySem PySem.Spec PyProof.Rows L2

/-- each once, where it is met first -/
def dd (ns : List Int) : List Int := ns.foldl (fun acc k => if k ∈ acc then acc else acc ++ [k]) []
theorem dd_snoc (ns : List Int) (k : Int) : dd (ns ++ [k]) = if k ∈ dd ns then dd ns else dd ns ++ [k] := by
  unfold dd
  rw [List.foldl_append]
  rfl
theorem snoc_ind {α : Type} {P : List α → Prop} (h0 : P []) (h1 : ∀ l a, P l → P (l ++ [a])) (l : List α) : P l := by
  have go : ∀ l : List α, P l.reverse := by
    intro l
    induction l with
    | nil => exact h0
    | cons a l ih => rw [List.reverse_cons]; exact h1 _ _ ih
  have := go l.reverse
  rwa [List.reverse_reverse] at this
theorem dd_nodup_mem (ns : List Int) : (dd ns).Nodup ∧ (∀ k, k ∈ dd ns ↔ k ∈ ns) := by
  refine snoc_ind (P := fun ns => (dd ns).Nodup ∧ (∀ k, k ∈ dd ns ↔ k ∈ ns)) ⟨List.nodup_nil, fun k => Iff.rfl⟩ (fun ns k ih => ?_) ns
  obtain ⟨h1, h2⟩ := ih
  rw [dd_snoc]
  split
  · rename_i hk
    refine ⟨h1, fun j => ?_⟩
    rw [h2, List.mem_append, List.mem_singleton]
    exact ⟨.inl, fun h => h.elim id fun e => e ▸ (h2 k).mp hk⟩
  · rename_i hk
    refine ⟨List.nodup_append.mpr ⟨h1, List.nodup_cons.mpr ⟨by simp, List.nodup_nil⟩, fun a ha b hb => by rw [List.mem_singleton.mp hb]; exact fun z => hk (z ▸ ha)⟩, fun j => ?_⟩
    rw [List.mem_append, List.mem_append, h2]
/-- the members in order -/
def srtS (ns : List Int) : List Int := srtI (dd ns)
theorem srtS_of {ns ys : List Int} (h1 : ys.Pairwise (· < ·)) (h2 : ∀ k, k ∈ ys ↔ k ∈ ns) : ys = srtS ns := by
  obtain ⟨d1, d2⟩ := dd_nodup_mem ns
  have nd : ys.Nodup := List.Pairwise.imp (fun {a b} (h : a < b) => Int.ne_of_lt h) h1
  have pm : ys.Perm (dd ns) := (List.perm_ext_iff_of_nodup nd d1).mpr fun k => (h2 k).trans (d2 k).symm
  exact up_unique (pm.trans (srtI_perm _).symm) (List.Pairwise.imp (fun {a b} (h : a < b) => Int.le_of_lt h) h1) (srtI_up _)
section
variable {P : Program} {w : World} {A : Around} {E : Value → Shared → Prop} {s : Shared}
abbrev newSet (w : World) : Obj := { cls := .type "set", dict := none, data := .set #[] 0 (.fresh 0 0 (!w.params.followText "set-order")) }
/-- set(a list of whole numbers) -/
theorem call_setI {l : Addr} {items : Array Value} {ns : List Int} {Q : Value → Shared → Prop} (hh : A.handled = none) (hl : s.heap.IsList l items) (hi : Vals (ns.map V.int) items.toList) (hb : ns.length + 1 < scanBound)
    (q : ∀ (g : Heap) (tk c : Nat), SetR w g s.heap.objs.size (fun k => decide (k ∈ ns)) c → c ≤ ns.length → (∀ b o, s.heap.get? b = some o → g.get? b = some o) → Q (.ref s.heap.objs.size) { s with heap := g, toks := tk }) :
    wpAny (model P w) A (call (.type "set") [.ref l]) Q E s := by
  have sz : items.size = ns.length := by
    have := hi.length
    rw [List.length_map, Array.length_toList] at this
    exact this.symm
  obtain ⟨c, tl, hmro⟩ := F.called_set.mro
  have hmade := F.called_set.made
  have hsub := F.called_set.sub
  refine wpAny_call (codeAny_of_tree ?_)
  show wpAny _ _ (callAny (.type "set") _) _ _ _
  refine wpAny_pure ⟨Code.quiet_builtin _ (by decide +kernel), codeAny_builtin F.entry_type_call ?_⟩
  rw [Around.under_plain (weight_type_call_type "set" [.ref l] []) rfl]
  have n1 := F.called_set.notType
  have n2 := F.called_set.canCreate
  have n3 := F.typeCall_set_1 (.ref l)
  repeat (any_goals (first | assumption | wp_step))
  refine codeAny_mono (L2.code_set_led1 (.ref l) (E := E) (Q₁ := fun ob t => ob = .ref s.heap.objs.size ∧ t = { s with heap := s.heap.push (newSet w) }) ⟨rfl, rfl⟩) fun r t hr => ?_
  cases r with
  | error e => exact hr
  | ok fl =>
    cases fl with
    | ret ob =>
      obtain ⟨e1, e2⟩ := hr
      subst e1 e2
      have at0 : (s.heap.push (newSet w)).get? s.heap.objs.size = some (newSet w) := Heap.get?_push_size _ rfl
      have ty0 : Shared.TypeIs { s with heap := s.heap.push (newSet w) } (.ref s.heap.objs.size) "set" := ⟨_, at0, rfl⟩
      have hli := F.called_set.init.lookup
      have hbi := F.called_set.init.bind (.ref s.heap.objs.size)
      repeat (any_goals (first | assumption | wp_step))
      refine codeAny_mono (codeAny_call_builtin (R := wants (fun r t => r = .none ∧ ∃ g tk c, t = { s with heap := g, toks := tk } ∧ SetR w g s.heap.objs.size (fun k => decide (k ∈ ns)) c ∧ c ≤ ns.length ∧ (∀ b o, s.heap.get? b = some o → g.get? b = some o)) E) F.called_set.init.plain F.entry_set_init (check_set_init_1 ty0 ?_)) fun r2 t2 hr2 => ?_
      · obtain ⟨ol, hol, hcl, nl, hdl⟩ := hl
        obtain ⟨oc, od, odat, osl⟩ := ol
        simp only at hcl hdl
        subst hcl hdl
        have hol1 : (s.heap.push (newSet w)).get? l = some { cls := .type "list", dict := od, data := .seq items nl, slots := osl } := Heap.get?_push_of_some _ hol
        have m1 := F.sub_list_set
        have m2 := F.sub_list_frozenset
        have m3 : (Value.type "list" == Value.type "dict") = false := by decide
        have hl1 : (s.heap.push (newSet w)).IsList l items := ⟨_, hol1, rfl, nl, rfl⟩
        unfold Builtin.«set.__init__» noKeywords Builtin.Frozenset.updateFrom
        generalize hPI : pyIter = PI
        wp_walk
        subst hPI
        refine wpAny_pyIter_list hl1 ?_
        refine wpAny_bind (wpAny_runValue ?_)
        have lS : l < s.heap.objs.size := Heap.lt_size hol
        have h3 : A.in1.in1.in1.handled = none := by simp [hh]
        have z1 : (s.heap.push (newSet w)).objs.size = s.heap.objs.size + 1 := Heap.size_push ..
        have ne : l ≠ (s.heap.push (newSet w)).objs.size := by rw [z1]; exact Nat.ne_of_lt (Nat.lt_succ_of_lt lS)
        have nin : s.heap.objs.size ∉ [(s.heap.push (newSet w)).objs.size, l] := by
          rw [z1]
          simp only [List.mem_cons, List.not_mem_nil, or_false, not_or]
          exact ⟨Nat.ne_of_lt (Nat.lt_succ_self _), Nat.ne_of_gt lS⟩
        have hv : ∀ (i : Nat) (v : Value), items[i]? = some v → ∃ k t, ns[i]? = some k ∧ v = .int k t := fun i v e => by
          have e' : items.toList[i]? = some v := by rw [Array.getElem?_toList]; exact e
          cases z : (ns.map V.int)[i]? with
          | none =>
            have := hi.none_of z
            rw [e'] at this
            cases this
          | some x =>
            obtain ⟨u, eu, ru⟩ := hi.get z
            rw [e'] at eu
            cases eu
            rw [List.getElem?_map] at z
            obtain ⟨k, ek, ekx⟩ := Option.map_eq_some_iff.mp z
            subst ekx
            obtain ⟨t, et⟩ := ru
            exact ⟨k, t, ek, et⟩
        refine L2.set_update_ints ((Walks.list h3 _ l ne items).toS) s.heap.objs.size nin ns sz hb hv (items.size - 0) 0 _ (by omega) (Nat.zero_le _) ⟨⟨_, Heap.get?_push_size _ rfl, rfl, rfl⟩, (hl1.push _)⟩ ⟨0, Nat.le_refl 0, L2.setR_new_at (Heap.get?_push_of_some _ at0)⟩ fun t3 c3 mv hc3 hS3 => ?_
        obtain ⟨g3, gn, dr, tk3, os3⟩ := t3
        have eg : gn = s.gens := mv.gens
        have ed : dr = s.drawn := mv.drawn
        have eo : os3 = s.os := mv.os
        subst eg ed eo
        show wpAny _ _ _ _ _ _
        refine wpAny_pure ?_
        show wpAny _ _ (ret Value.none) _ _ _
        rw [sz] at hc3
        refine wpAny_pure ⟨rfl, g3, tk3, c3, rfl, hS3, hc3, fun b o e => ?_⟩
        have b0 : b < s.heap.objs.size := Heap.lt_size e
        have b2 : b ≠ (s.heap.push (newSet w)).objs.size := by rw [z1]; exact Nat.ne_of_lt (Nat.lt_succ_of_lt b0)
        exact mv.heap b o (by simp only [List.mem_cons, List.mem_singleton, List.not_mem_nil, or_false, not_or]; exact ⟨Nat.ne_of_lt b0, b2⟩) (Heap.get?_push_of_some _ (Heap.get?_push_of_some _ e))
      · cases r2 with
        | error e => exact hr2
        | ok fl2 =>
          cases fl2 with
          | ret r =>
            obtain ⟨e1, g, tk, c3, e2, hS, hc3, hk⟩ := hr2
            subst e1 e2
            repeat (any_goals (first | assumption | wp_step))
            exact q _ _ _ hS hc3 hk
          | _ => exact hr2.elim
    | _ => exact hr.elim
end
section
variable {X : Cx}
def rSetL (K : PySem.W.Frag) (w : World) : List V → Hp → VK → Prop := fun xs H Q => ∃ (a : Addr) (ns : List Int), xs = [V.ref a] ∧ SqL K H a (ns.map V.int) ∧ ns.length + 1 < scanBound ∧
  ∀ p c, c ≤ ns.length → H p = none → Q (.ref p) (upd H p (SetO w p (fun k => decide (k ∈ ns)) c))
theorem cr_setL (hc : X.calm = true) : CallR X (.type "set") (rSetL X.K X.w) := by
  intro pins s σ H xs us Q I r h
  obtain ⟨a, ns, rfl, hl, hb, q⟩ := h
  rw [Vals.ref1 r]
  obtain ⟨its, rv, p', hz⟩ := I.list hl
  refine call_setI (I.ok.hd hc) p'.isList (by simpa using rv) hb fun g tk c hS hc' k => ?_
  exact ⟨.ref _, _, I.laid (t' := tk) k (Nat.le_refl _) (setO_new hS), rfl, q _ c hc' (I.hok.fresh (Nat.le_refl _))⟩
end
end Fx

end

/-! Fx19: sorted of sets and dicts, len of a dict, many names at once, calls with an owned value, try -/
noncomputable section
namespace Fx
open PySem PySem.Spec PyProof.Rows L2

section
variable {X : Cx} {np : Nat} {pos : Pos} {e : Expr} {f : FE}
/-- sorted(set(x)) -/
def fSortSet (ow : Bool) (f : FE) : FE := fun Γ => (f Γ).bind fun p => (dv p.2 p.1).bind fun d => match d with
  | .list ds => (intsOf ds).bind fun ns => if ns.length < 64 then some ((Res.new ((srtS ns).map .int)).fin ow, p.2) else none
  | _ => none
theorem fx_sortSet {ow : Bool} {p p2 pos2 : Pos} (hc : X.calm = true) (ms : X.mg "sorted" = none) (mt : X.mg "set" = none) (he : FX X np e f) (gs : Gl X "sorted" := by rfl) (gt : Gl X "set" := by rfl)
    (n1 : starEach [e] X.env = (false, eval e X.env) :: starEach [] X.env := by rfl) (n2 : starEach [.Call (.Name "set" p2) [e] [] pos2] X.env = (false, eval (.Call (.Name "set" p2) [e] [] pos2) X.env) :: starEach [] X.env := by rfl) :
    FX X np (.Call (.Name "sorted" p) [.Call (.Name "set" p2) [e] [] pos2] [] pos) (fSortSet ow f) := by
  refine PE.weak (pe_callB (cr_sortedSet hc) gs ms (by decide +kernel) (pa_cons (pe_callTy (cr_setL hc) gt mt (by decide +kernel) (pa_cons he pa_nil n1) (by decide) (by decide) n1 rfl) pa_nil n2) (by decide) (by decide) n2 rfl) fun σ H Q h => ?_
  obtain ⟨W, Γ, vs, ts, t, Γ', c, e, q⟩ := h
  obtain ⟨⟨t1, Γ1⟩, e1, e⟩ := Option.bind_eq_some_iff.mp e
  obtain ⟨d, e2, e⟩ := Option.bind_eq_some_iff.mp e
  split at e
  · rename_i ds
    obtain ⟨ns, e3, e⟩ := Option.bind_eq_some_iff.mp e
    split at e
    · rename_i hl
      cases e
      refine ⟨W, Γ, vs, ts, t1, Γ1, c, e1, fun v H1 c1 => ?_⟩
      obtain ⟨O, c1⟩ := c1
      obtain ⟨a, xs, rfl, ha, fa⟩ := c1.view c1.top e2
      rw [intsOf_to e3] at fa
      rw [fa.intsV] at ha
      refine ⟨a, ns, rfl, .of ha, by unfold scanBound; omega, fun s c hcl hs => ?_⟩
      have n := Ev.new (o := SetO X.w s (fun k => decide (k ∈ ns)) c) c1.dom hs
      refine ⟨s, _, c, rfl, upd_same, by omega, fun ys r hy hm _ hr => ?_⟩
      have ey : ys = srtS ns := srtS_of hy fun k => by rw [hm]; exact decide_eq_true_iff
      rw [ey]
      exact okn (fun v H' ok => q v H' ((c1.pop.ev0 n).res ok)) hr (FzA.ints _)
    · cases e
  · cases e
/-- sorted(d), len(d) -/
def intK : List (Key × PyData) → Option (List Int)
  | [] => some []
  | (.inl i, _) :: r => (intK r).map fun l => i :: l
  | _ :: _ => none
theorem intK_to : ∀ {kvs : List (Key × PyData)} {ns : List Int}, intK kvs = some ns → kvs.map (·.1) = ns.map Sum.inl
  | [], ns, e => by cases e; rfl
  | (.inl i, d) :: r, ns, e => by
    obtain ⟨l, e1, e2⟩ := Option.map_eq_some_iff.mp e
    subst e2
    rw [List.map_cons, List.map_cons, intK_to e1]
  | (.inr _, _) :: _, _, e => by cases e
def fSortD (ow : Bool) (f : FE) : FE := fun Γ => (f Γ).bind fun p => (dkT p.2 p.1).bind fun kvs => (intK kvs).bind fun ns => if ns.length < 64 then some ((Res.new ((srtI ns).map .int)).fin ow, p.2) else none
theorem fx_sortD {ow : Bool} {p : Pos} (hc : X.calm = true) (ms : X.mg "sorted" = none) (he : FX X np e f) (gs : Gl X "sorted" := by rfl) (n1 : starEach [e] X.env = (false, eval e X.env) :: starEach [] X.env := by rfl) :
    FX X np (.Call (.Name "sorted" p) [e] [] pos) (fSortD ow f) := by
  refine PE.weak (pe_callB (call_sortedDI hc) gs ms (by decide +kernel) (pa_cons he pa_nil n1) (by decide) (by decide) n1 rfl) fun σ H Q h => ?_
  obtain ⟨W, Γ, vs, ts, t, Γ', c, e, q⟩ := h
  obtain ⟨⟨t1, Γ1⟩, e1, e⟩ := Option.bind_eq_some_iff.mp e
  obtain ⟨kvs, e2, e⟩ := Option.bind_eq_some_iff.mp e
  obtain ⟨ns, e3, e⟩ := Option.bind_eq_some_iff.mp e
  split at e
  · rename_i hl
    cases e
    refine ⟨W, Γ, vs, ts, t1, Γ1, c, e1, fun v H1 c1 => ?_⟩
    obtain ⟨O, c1⟩ := c1
    obtain ⟨a, ws, rfl, ha, pd⟩ := c1.dkAt c1.top e2
    refine ⟨a, ws, ns, rfl, ha, pd.keys.trans (intK_to e3), hl, fun ys r hp hy hr => ?_⟩
    have ey : ys = srtI ns := up_unique (hp.trans (srtI_perm _).symm) hy (srtI_up _)
    rw [ey]
    exact okn (fun v H' ok => q v H' (c1.pop.res ok)) hr (FzA.ints _)
  · cases e
def rLenD : List V → Hp → VK → Prop := fun xs H Q => ∃ a kvs, xs = [V.ref a] ∧ Rd H a (.dK kvs) ∧ Q (.int kvs.length) H
theorem cr_lenD : CallR X (.builtin "len") rLenD := by
  intro pins s σ H xs us Q I r h
  obtain ⟨a, kvs, rfl, ha, q⟩ := h
  rw [Vals.ref1 r]
  exact d_len I ha fun t s' I' => ⟨.int kvs.length, H, I', ⟨t, rfl⟩, q⟩
def fLenD (f : FE) : FE := fun Γ => (f Γ).bind fun p => (dkT p.2 p.1).map fun kvs => (.md (.dat (.int kvs.length)), p.2)
theorem fx_lenD {p : Pos} (ms : X.mg "len" = none) (he : FX X np e f) (gs : Gl X "len" := by rfl) (n1 : starEach [e] X.env = (false, eval e X.env) :: starEach [] X.env := by rfl) :
    FX X np (.Call (.Name "len" p) [e] [] pos) (fLenD f) := by
  refine PE.weak (pe_callB cr_lenD gs ms (by decide +kernel) (pa_cons he pa_nil n1) (by decide) (by decide) n1 rfl) fun σ H Q h => ?_
  obtain ⟨W, Γ, vs, ts, t, Γ', c, e, q⟩ := h
  obtain ⟨⟨t1, Γ1⟩, e1, e⟩ := Option.bind_eq_some_iff.mp e
  obtain ⟨kvs, e2, e⟩ := Option.map_eq_some_iff.mp e
  cases e
  refine ⟨W, Γ, vs, ts, t1, Γ1, c, e1, fun v H1 c1 => ?_⟩
  obtain ⟨O, c1⟩ := c1
  obtain ⟨a, ws, rfl, ha, pd⟩ := c1.dkAt c1.top e2
  refine ⟨a, ws, rfl, ha, ?_⟩
  rw [← pd.length]
  exact q _ _ ⟨O, c1.pop.push (t := .md (.dat (.int kvs.length))) (.int _)⟩

/-! ### many names at once -/
def setAll : List Nat → List V → L2.St → L2.St
  | i :: is, v :: vs, σ => setAll is vs (σ.set i (some v))
  | _, _, σ => σ
theorem setAll_comm {i : Nat} {v : V} : ∀ {is : List Nat} {vs : List V} {σ : L2.St}, i ∉ is → setAll is vs (σ.set i (some v)) = (setAll is vs σ).set i (some v)
  | [], _, _, _ => rfl
  | j :: is, [], _, _ => rfl
  | j :: is, w :: vs, σ, h => by
    have h' : i ≠ j ∧ i ∉ is := by simpa using h
    show setAll is vs ((σ.set i (some v)).set j (some w)) = _
    rw [List.set_comm _ _ h'.1, setAll_comm h'.2]
    rfl
theorem setAll_snoc {i : Nat} {v : V} : ∀ {is : List Nat} {vs : List V} {σ : L2.St}, is.length = vs.length → setAll (is ++ [i]) (vs ++ [v]) σ = (setAll is vs σ).set i (some v)
  | [], [], _, _ => rfl
  | j :: is, w :: vs, σ, h => by
    show setAll (is ++ [i]) (vs ++ [v]) (σ.set j (some w)) = _
    rw [setAll_snoc (by simpa using h)]
    rfl
  | [], _ :: _, _, h => by simp at h
  | _ :: _, [], _, h => by simp at h
theorem setAll_rev : ∀ {is : List Nat} {vs : List V} {σ : L2.St}, is.Nodup → is.length = vs.length → setAll is.reverse vs.reverse σ = setAll is vs σ
  | [], [], _, _, _ => rfl
  | i :: is, v :: vs, σ, nd, h => by
    have nd' := List.nodup_cons.mp nd
    have hl : is.length = vs.length := by simpa using h
    rw [List.reverse_cons, List.reverse_cons, setAll_snoc (by rw [List.length_reverse, List.length_reverse]; exact hl), setAll_rev nd'.2 hl]
    show _ = setAll is vs (σ.set i (some v))
    rw [setAll_comm nd'.1]
  | [], _ :: _, _, _, h => by simp at h
  | _ :: _, [], _, _, h => by simp at h
def putM (np : Nat) : List Nat → List TV → Gm → Option Gm
  | [], [], Γ => some Γ
  | i :: is, .md m :: us, Γ => if m.own = true ∧ i < np then none else putM np is us (Γ.set i (some m))
  | _, _, _ => none
theorem putM_noAl {np : Nat} : ∀ {is : List Nat} {us : List TV} {Γ Γ' : Gm}, putM np is us Γ = some Γ' → noAl us = true ∧ is.length = us.length
  | [], [], _, _, _ => ⟨rfl, rfl⟩
  | i :: is, .md m :: us, Γ, Γ', e => by
    unfold putM at e
    split at e
    · cases e
    · obtain ⟨h1, h2⟩ := putM_noAl e
      exact ⟨h1, by simp [h2]⟩
  | [], _ :: _, _, _, e => by cases e
  | _ :: _, [], _, _, e => by cases e
  | _ :: _, .al _ :: _, _, _, e => by cases e
theorem noAl_append : ∀ {us ts : List TV}, noAl us = true → noAl ts = true → noAl (us ++ ts) = true
  | [], _, _, h => h
  | .md m :: us, _, h, g => noAl_append (us := us) h g
  | .al _ :: _, _, h, _ => by cases h
theorem Cf.storeAll {K : PySem.W.Frag} {W : Wd} {H : Hp} {vs : List V} {ds : List PyData} : ∀ {is : List Nat} {us : List TV} {xs : List V} {O : Own} {σ : L2.St} {Γ Γ' : Gm}, Cf K np W O σ H Γ (xs ++ vs) (us ++ tsd ds) → xs.length = us.length → putM np is us Γ = some Γ' → Cfg K np W (setAll is xs σ) H Γ' vs (tsd ds)
  | [], [], [], O, σ, Γ, Γ', c, _, e => by cases e; exact ⟨O, c⟩
  | i :: is, .md m :: us, x :: xs, O, σ, Γ, Γ', c, hl, e => by
    unfold putM at e
    split at e
    · cases e
    · rename_i hno
      obtain ⟨na, _⟩ := putM_noAl e
      obtain ⟨O2, c2⟩ := (show Cf K np W O σ H Γ (x :: (xs ++ vs)) (.md m :: (us ++ tsd ds)) from c).storeT (noAl_append na (noAl_tsd ds)) hno
      exact Cf.storeAll (is := is) (us := us) (xs := xs) c2 (by simpa using hl) e
  | [], [], _ :: _, _, _, _, _, _, hl, _ => by simp at hl
  | [], _ :: _, _, _, _, _, _, _, _, e => by cases e
  | _ :: _, [], _, _, _, _, _, _, _, e => by cases e
  | _ :: _, .al _ :: _, _, _, _, _, _, _, _, e => by cases e
  | _ :: _, .md _ :: _, [], _, _, _, _, _, hl, _ => by simp at hl
def fMulti (np : Nat) (is : List Nat) (fs : FA) : FS := fun Γ => (fs Γ).bind fun p => (putM np is.reverse p.1.reverse p.2).map .nx
def FMX (X : Cx) (es : List Expr) (is : List Nat) : Prop := PGs X es (fun vs σ H Q => vs.length = is.length ∧ Q (setAll is vs σ) H)
theorem fm_nil : FMX X [] [] := PGs.weak pgs_nil fun vs σ H Q h => by
  obtain ⟨hl, q⟩ := h
  have : vs = [] := List.length_eq_zero_iff.mp (by simpa using hl)
  subst this
  exact ⟨rfl, q⟩
theorem fm_cons {i : Nat} {is : List Nat} {x : Str} {es : List Expr} (h : FMX X es is) (hN : X.N.Nodup) (hi : X.N[i]? = some x := by rfl) (hx : Loc X.env.scope x := by first | exact Or.inl rfl | exact Or.inr rfl) (hf : X.fn x = true ∨ X.env.scope.names.lookup x = some .local := by first | exact .inl rfl | exact .inr rfl | assumption)
    (hs : (assignEach (.Name x pos :: es) X.env).map (·.2) = assign (.Name x pos) X.env :: (assignEach es X.env).map (·.2) := by rfl) : FMX X (.Name x pos :: es) (i :: is) :=
  PGs.weak (pgs_cons (pg_name hN hi hx hf) h hs) fun vs σ H Q hh => by
    obtain ⟨hl, q⟩ := hh
    cases vs with
    | nil => simp at hl
    | cons v vs => exact ⟨v, vs, rfl, by simpa using hl, q⟩
theorem fs_multi {es as : List Expr} {is : List Nat} {fs : FA} {pt pt2 : Pos} {kt k2} (hc : X.calm = true) (ha : FAX X np as fs) (hm : FMX X es is) (nd : is.Nodup := by decide) (hn : (assignEach es X.env).length = is.length := by rfl) (hst : (assignEach es X.env).findIdx? (·.1) = none := by rfl) (h64 : is.length ≤ 64 := by decide)
    (hs : swapsWithSole [.Tuple es kt pt] (.Tuple as k2 pt2) pos.line X.env = pure false := by rfl) (hw : swappedStores [.Tuple es kt pt] (.Tuple as k2 pt2) X.env = pure none := by rfl) (h1 : (assignEach [.Tuple es kt pt] X.env).map (·.2) = [assign (.Tuple es kt pt) X.env] := by rfl) :
    FSX X np (.Assign [.Tuple es kt pt] (.Tuple as k2 pt2) pos) (fMulti np is fs) := by
  refine PS.weak (ps_asg (pe_tup ha) (pg_tup hc hm hn hst) hs hw h1) fun D σ H h => ?_
  obtain ⟨W, Γ, vs, ds, o, c, e, q⟩ := h
  obtain ⟨⟨us, Γ1⟩, e1, e⟩ := Option.bind_eq_some_iff.mp e
  obtain ⟨Γ2, e2, e⟩ := Option.map_eq_some_iff.mp e
  cases e
  refine ⟨W, Γ, vs, tsd ds, us, Γ1, c, e1, fun xs H1 c1 el => ?_⟩
  obtain ⟨O, c1⟩ := c1
  have hlen := (putM_noAl e2).2
  rw [List.length_reverse, List.length_reverse] at hlen
  refine ⟨by rw [el, ← hlen, sizeLine_eq]; omega, fun p hp => ⟨p, xs, rfl, .inl (.inl upd_same), by rw [el, hlen], ?_⟩⟩
  have n := Ev.new (o := .tup xs) c1.dom hp
  refine ⟨by rw [el, hlen], ?_⟩
  have r := Cf.storeAll (c1.ev0 n) (by rw [List.length_reverse, List.length_reverse]; exact el) e2
  rw [setAll_rev nd (by rw [el, hlen])] at r
  exact q _ _ r
theorem fs_par3 {i j l : Nat} {x y z : Str} {a b c : Expr} {fs : FA} {px py pz pt : Pos} {kt k2 pt2} (hc : X.calm = true) (hN : X.N.Nodup) (ha : FAX X np [a, b, c] fs) (hi : X.N[i]? = some x := by rfl) (hj : X.N[j]? = some y := by rfl) (hl : X.N[l]? = some z := by rfl) (nd : [i, j, l].Nodup := by decide)
    (hx : X.env.scope.names.lookup x = some .local := by rfl) (hy : X.env.scope.names.lookup y = some .local := by rfl) (hz : X.env.scope.names.lookup z = some .local := by rfl)
    (hw : swappedStores [.Tuple [.Name x px, .Name y py, .Name z pz] kt pt] (.Tuple [a, b, c] k2 pt2) X.env = pure (some [x, y, z]) := by rfl)
    (hs : swapsWithSole [.Tuple [.Name x px, .Name y py, .Name z pz] kt pt] (.Tuple [a, b, c] k2 pt2) pos.line X.env = pure false := by rfl) :
    FSX X np (.Assign [.Tuple [.Name x px, .Name y py, .Name z pz] kt pt] (.Tuple [a, b, c] k2 pt2) pos) (fMulti np [i, j, l] fs) := by
  have d := nd
  simp only [List.nodup_cons, List.mem_cons, List.not_mem_nil, or_false, not_or] at d
  refine PS.weak (ps_par3 hc hN hi hj hl d.1.1 d.1.2 d.2.1 hx hy hz ha hw hs) fun D σ H h => ?_
  obtain ⟨W, Γ, vs, ds, o, c, e, q⟩ := h
  obtain ⟨⟨us, Γ1⟩, e1, e⟩ := Option.bind_eq_some_iff.mp e
  obtain ⟨Γ2, e2, e⟩ := Option.map_eq_some_iff.mp e
  cases e
  refine ⟨W, Γ, vs, tsd ds, us, Γ1, c, e1, fun xs H1 c1 el => ?_⟩
  obtain ⟨O, c1⟩ := c1
  have hlen := (putM_noAl e2).2
  rw [List.length_reverse, List.length_reverse] at hlen
  have r := Cf.storeAll c1 (by rw [List.length_reverse, List.length_reverse]; exact el) e2
  rw [setAll_rev nd (by rw [el, hlen])] at r
  match xs, (el.trans hlen.symm : xs.length = 3) with
  | [u, v, w], _ => exact ⟨u, v, w, rfl, q _ _ r⟩

/-! ### a call whose one argument is a value that nobody else has -/
def bk1 : List (Option MD) → Bool
  | [some m] => m.own
  | _ => false
def fCallO (np : Nat) (F : FF) (f : FE) : FE := fun Γ => (f Γ).bind fun p => match p.1 with
  | .md m => (F [m]).bind fun r => if m.own = true ∧ bk1 r.2 = true ∧ np ≤ p.2.length then some (.md r.1, p.2) else none
  | _ => none
section
variable {K : PySem.W.Frag} {W : Wd} {O O' : Own} {σ : L2.St} {H H' : Hp} {Γ Γ' : Gm} {vs : List V} {ts : List TV}
theorem Tm.alLt : ∀ {vs : List V} {ts : List TV} {i : Nat}, Tm K O H σ Γ vs ts → TV.al i ∈ ts → i < Γ.length
  | _, [], _, _, h => by cases h
  | v :: vs, t :: ts, i, hh, h => by
    rcases List.mem_cons.mp h with e | h
    · subst e
      obtain ⟨_, m, e, _⟩ := hh.1
      exact (List.getElem?_eq_some_iff.mp e).1
    · exact Tm.alLt hh.2 h
  | [], _ :: _, _, hh, _ => hh.elim
theorem Tm.wider {x : Option V} {y : Option MD} (hl : Γ.length = σ.length) : ∀ {vs : List V} {ts : List TV}, Tm K O H σ Γ vs ts → Tm K O H (σ ++ [x]) (Γ ++ [y]) vs ts
  | [], [], _ => True.intro
  | v :: vs, t :: ts, h => by
    refine ⟨?_, Tm.wider hl h.2⟩
    have h1 := h.1
    cases t with
    | md m => exact h1
    | al i =>
      obtain ⟨e, m, e1, e2⟩ := h1
      exact ⟨by rw [List.getElem?_append_left (List.getElem?_eq_some_iff.mp e).1]; exact e, m, by rw [List.getElem?_append_left (List.getElem?_eq_some_iff.mp e1).1]; exact e1, e2⟩
  | [], _ :: _, h => h.elim
  | _ :: _, [], h => h.elim
theorem Tm.slim {x : Option V} {y : Option MD} (hl : Γ.length = σ.length) : ∀ {vs : List V} {ts : List TV}, (∀ i, TV.al i ∈ ts → i < Γ.length) → Tm K O H (σ ++ [x]) (Γ ++ [y]) vs ts → Tm K O H σ Γ vs ts
  | [], [], _, _ => True.intro
  | v :: vs, t :: ts, hi, h => by
    refine ⟨?_, Tm.slim hl (fun i hm => hi i (List.mem_cons_of_mem _ hm)) h.2⟩
    have h1 := h.1
    cases t with
    | md m => exact h1
    | al i =>
      have hlt := hi i List.mem_cons_self
      obtain ⟨e, m, e1, e2⟩ := h1
      rw [List.getElem?_append_left (by omega)] at e e1
      exact ⟨e, m, e1, e2⟩
  | [], _ :: _, _, h => h.elim
  | _ :: _, [], _, h => h.elim
/-- the top temporary goes to a slot that the def doesn't have -/
theorem Cf.lend {m : MD} {v : V} (c : Cf K np W O σ H Γ (v :: vs) (.md m :: ts)) (hnp : np ≤ Γ.length) : ∃ O', Cf K np W O' (σ ++ [some v]) H (Γ ++ [some m]) vs ts := by
  have a : Ev (· = .tmp ts.length) O H (retag O (.tmp ts.length) (some (.slot Γ.length))) H := Ev.retag (by simp) c.dom
  have c2 := c.pop.ev a (by simp) (by simp) (fun k z => by injection z with z; omega)
  refine ⟨_, c2.dom, fun j m' e => ?_, c2.tm.wider c2.len, c2.keep, c2.out, c2.wt, fun j m' hj e ho => ?_, by rw [List.length_append, List.length_append, c2.len]; rfl⟩
  · rcases Nat.lt_or_ge j Γ.length with h | h
    · rw [List.getElem?_append_left h] at e
      obtain ⟨w, e1, r⟩ := c2.sl j m' e
      exact ⟨w, by rw [List.getElem?_append_left (by rw [← c2.len]; exact h)]; exact e1, r⟩
    · rw [List.getElem?_append_right h] at e
      have e0 : j = Γ.length := by
        have := (List.getElem?_eq_some_iff.mp e).1
        simp at this
        omega
      subst e0
      rw [Nat.sub_self] at e
      cases e
      exact ⟨v, by rw [List.getElem?_append_right (by rw [c2.len]; exact Nat.le_refl _), c2.len, Nat.sub_self]; rfl, MR.move c.dom (by simp) c.top⟩
  · have h : j < Γ.length := by omega
    rw [List.getElem?_append_left h] at e
    rw [List.getElem?_append_left (by rw [← c2.len]; exact h)]
    exact c2.arg j m' hj e ho
theorem Cf.unlend {x : Option V} {y : Option MD} (hl : Γ.length = σ.length) (hi : ∀ i, TV.al i ∈ ts → i < Γ.length) (c : Cf K np W O (σ ++ [x]) H (Γ ++ [y]) vs ts) : Cf K np W O σ H Γ vs ts where
  dom := c.dom
  sl := fun j m e => by
    have h := (List.getElem?_eq_some_iff.mp e).1
    obtain ⟨w, e1, r⟩ := c.sl j m (by rw [List.getElem?_append_left h]; exact e)
    rw [List.getElem?_append_left (by omega)] at e1
    exact ⟨w, e1, r⟩
  tm := c.tm.slim hl hi
  keep := c.keep
  out := c.out
  wt := c.wt
  arg := fun j m hj e ho => by
    have h := (List.getElem?_eq_some_iff.mp e).1
    have := c.arg j m hj (by rw [List.getElem?_append_left h]; exact e) ho
    rwa [List.getElem?_append_left (by omega)] at this
  len := hl
end
theorem fx_callO {k : Nat} {st : Stmt} {ps : List Str} {x : Str} {p : Pos} {F : FF} (D : Def X.prog X.w X.K X.mg X.base k x st ps F) (hr : RoomG k X.A) (he0 : FX X np e f) (hg : Gl X x := by rfl) (hdb : (x == ("__debug__" : Str)) = false := by decide)
    (he : starEach [e] X.env = (false, eval e X.env) :: starEach [] X.env := by rfl) (hpl : (backTo pos (starEach [] X.env)).any (·.1) = false := by rfl) :
    FX X np (.Call (.Name x p) [e] [] pos) (fCallO np F f) := by
  obtain ⟨⟨fa, fd, Fn, G, hm⟩, bd⟩ := D
  refine PE.weak (pe_callG G hr hg hm Fn.kp (Fn.binds bd) (pa_cons he0 pa_nil he) hdb he hpl) fun σ H Q h => ?_
  obtain ⟨W, Γ, vs, ts, t, Γ', c, e, q⟩ := h
  obtain ⟨⟨t1, Γ1⟩, e1, e⟩ := Option.bind_eq_some_iff.mp e
  refine ⟨W, Γ, vs, ts, t1, Γ1, c, e1, fun v H1 c1 => ?_⟩
  obtain ⟨O, c1⟩ := c1
  cases t1 with
  | al i => cases e
  | md m =>
    obtain ⟨⟨r, ms'⟩, e2, e⟩ := Option.bind_eq_some_iff.mp e
    dsimp only at e
    split at e
    · rename_i hh
      cases e
      obtain ⟨hm1, hm2, hnp⟩ := hh
      obtain ⟨m', rfl, ho'⟩ : ∃ m', ms' = [some m'] ∧ m'.own = true := by
        unfold bk1 at hm2
        split at hm2
        · exact ⟨_, rfl, hm2⟩
        · cases hm2
      obtain ⟨O2, c2⟩ := c1.lend hnp
      have hlt : ∀ i, TV.al i ∈ ts → i < Γ'.length := fun i h => Tm.alLt c1.pop.tm h
      have eg : (Γ' ++ [some m])[Γ'.length]? = some (some m) := by rw [List.getElem?_append_right (Nat.le_refl _), Nat.sub_self]; rfl
      have es : (σ ++ [some v])[Γ'.length]? = some (some v) := by rw [c1.len, List.getElem?_append_right (Nat.le_refl _), Nat.sub_self]; rfl
      refine callF (E := E0) (xs := [v]) (us := [.al Γ'.length]) (ms := [m]) (ms' := [some m']) (Γ' := Γ' ++ [some m']) c2 (.cons ⟨.out, es, m, eg, hm1⟩ .nil) (by simp [als]) (by simp [argsOf, eg]) e2 ?_ fun v' H' c3 => ?_
      · simp [putArgs, ho']
      · obtain ⟨O3, c3⟩ := c3
        refine q v' H' ⟨O3, c3.unlend c1.len fun i h => ?_⟩
        rcases List.mem_cons.mp h with h | h
        · cases h
        · exact hlt i h
    · cases e
/-- try whose body raises nothing -/
theorem fs_try {body : List Stmt} {h0 : ExceptHandler} {hs : List ExceptHandler} {g : FS} (hb : FSsX X.nox np body g) : FSX X np (.Try body (h0 :: hs) [] [] pos) g := ps_try_thru0 hb
end
end Fx

end

/-! Fx20: the end: from the law's meaning to the law's walk -/
noncomputable section
namespace Fx
open PySem PySem.Spec PyProof.Rows L2

theorem Fun.same {K : PySem.W.Frag} {x q : Str} {st : Stmt} {f : Addr} {fd fd' : FuncData} (a : Fun K x q st f fd) (b : Fun K x q st f fd') : fd = fd' := by
  obtain ⟨oc, od, kV, doc, pm, an, cdv, ct, osl, e1, l1, _⟩ := a.ex
  obtain ⟨oc', od', kV', doc', pm', an', cdv', ct', osl', e2, l2, _⟩ := b.ex
  rw [l1] at l2
  have := (Obj.mk.inj (Option.some.inj l2)).2.2.1
  exact Data.func.inj this
theorem at_mk {K : PySem.W.Frag} {h : Heap} {mg : Str → Option Value} {x : Str} {st : Stmt} {f : Addr} {oc kV doc pm cdv ct : Value} {od an : Option Addr} {osl : Array (Option Value)} (X : K.In h) (G : h.Ns mainGlobals mg)
    (a : PySem.W.nsIn K mainGlobals x = some (some (.ref f))) (l : K.lookup f = some ⟨oc, od, .func (PySem.W.fnOf x x (defArgs st) (defBody st) (defScope st) .none kV doc pm an cdv ct), osl⟩) (c : PySem.W.codeIn K cdv x = true) (k : PySem.W.keepIn K (.ref f) = true) : At K mg x st :=
  ⟨f, _, fun_mk (st := st) l c k, PySem.W.mg_of X G a⟩
theorem end_mk {P : Program} {w : World} {K : PySem.W.Frag} {mg : Str → Option Value} {h : Heap} {x : Str} {st : Stmt} {fa : Addr} {k : Nat} {F : FF} (X : K.In h) (G : h.Ns mainGlobals mg) (hfa : mg x = some (.ref fa))
    (D : ∀ base : Heap, K.In base → base.Ns mainGlobals mg → Def P w K mg base k x st ["script"] F) :
    ∃ fd : FuncData, (∀ (s : Shared) (v : Value), BindsTo s fd ⟨[v], []⟩ [("script", v)]) ∧ ∀ base : Heap, K.In base → base.Ns mainGlobals mg → FnG P w K mg base k fa fd ["script"] (spF K F) := by
  obtain ⟨⟨f, fd, Fn, _, hm⟩, bd⟩ := D h X G
  rw [hfa] at hm
  cases hm
  refine ⟨fd, fun s v => ?_, fun base X' G' => ?_⟩
  · obtain ⟨oc, od, kV, doc, pm, an, cdv, ct, osl, rfl, _, _⟩ := Fn.ex
    exact .of_eq (bd kV doc pm an cdv ct [v] rfl)
  · obtain ⟨⟨f', fd', Fn', ok, hm'⟩, _⟩ := D base X' G'
    rw [hfa] at hm'
    cases hm'
    rw [Fun.same Fn Fn']
    exact ok
theorem sp_end {K : PySem.W.Frag} {F : FF} {H : Hp} {a : Addr} {ns : List Int} (hF : ∃ ms', F [.scr ns] = some (.dat (.bool true), ms')) (hS : SqL K H a (ns.map V.int)) (E : XK) : spF K F [.ref a] H (fun v _ => v = .bl true) E := by
  obtain ⟨ms', hF⟩ := hF
  refine ⟨fun _ => none, [.scr ns], _, ms', fun _ _ h => (by cases h), fun _ _ h => (by cases h), rfl, fun k m hk => ?_, hF, fun v H' O' n _ r _ => ?_⟩
  · cases k with
    | zero =>
      cases hk
      refine ⟨.ref a, rfl, a, rfl, ?_⟩
      rcases hS with h | h
      · exact .inl ⟨h, rfl⟩
      · exact .inr (.inr h)
    | succ k => cases hk
  · have r' : Fz K O' H' (.bool true) v := r
    cases r'
    rfl
/-- the law's call, by such a contract -/
theorem law_callG {P : Program} {w : World} {K : PySem.W.Frag} {mg mb : Str → Option Value} {k : Nat} {fa a : Addr} {fd : FuncData} {x : Str} {sp : Sp} {s₁ : Shared} {vs : List Value} {ns : List Int} (inK : K.In s₁.heap) (nG : s₁.heap.Ns mainGlobals mg) (nB : s₁.heap.Ns builtinsNs mb)
    (boot : ∀ y : Str, y ≠ "__name__" → mb y = bootBuiltins y) (noL : s₁.heap.NoLimit) (g0 : s₁.gens = #[]) (hA : s₁.heap.get? a = some { cls := .type "list", data := .seq vs.toArray }) (hI : IntsAre vs ns) (hz : ns.length ≤ sizeLine) (hr : RoomG k callerA)
    (F : ∀ base : Heap, K.In base → base.Ns mainGlobals mg → FnG P w K mg base k fa fd [x] sp) (bind : ∀ (s : Shared) (u : Value), BindsTo s fd ⟨[u], []⟩ [(x, u)]) (hsp : ∀ H : Hp, Only H → SqL K H a (ns.map V.int) → sp [.ref a] H (fun v _ => v = .bl true) E0) :
    codeAny (model P w) callerA (.call (.ref fa) ⟨[.ref a], []⟩) (fun r s' => r = .ok (.ret (.bool true)) ∧ OldK s₁.heap s'.heap ∧ s'.os = s₁.os ∧ AllBare s'.gens) s₁ := by
  have rel := vals_ints hI
  have many := hI.length
  have main : ∀ H : Hp, Only H → SqL K H a (ns.map V.int) → HOk P w H s₁.heap → (∀ b, H b ≠ none → b = a) → (H a ≠ none → K.lookup a = none) →
      codeAny (model P w) callerA (.call (.ref fa) ⟨[.ref a], []⟩) (fun r s' => r = .ok (.ret (.bool true)) ∧ OldK s₁.heap s'.heap ∧ s'.os = s₁.os ∧ AllBare s'.gens) s₁ := by
    intro H only sq ok alone free
    have hid : ∀ {b : Addr} {o : Obj}, s₁.heap.get? b = some o → H b = none → (hidT s₁.heap H).get? b = some o := fun e n => hidT_get e n
    have noDict : ∀ {b : Addr} {o : Obj} {es : Array DictEntry} {ep : Nat}, s₁.heap.get? b = some o → o.data = .dict es ep → H b = none := by
      intro b o es ep e d
      by_cases q : H b = none
      · exact q
      · have ab := alone b q
        subst ab
        rw [hA] at e
        cases e
        exact absurd (show Data.seq vs.toArray _ = Data.dict es ep from d) (by intro z; cases z)
    have nsH : ∀ {b : Addr} {m : Str → Option Value}, s₁.heap.Ns b m → (hidT s₁.heap H).Ns b m := by
      rintro b m ⟨o, es, ep, e, d, r⟩
      exact ⟨o, es, ep, hid e (noDict e d), d, r⟩
    have inH : K.In (hidT s₁.heap H) := by
      intro b o e
      refine hid (inK b o e) ?_
      by_cases q : H b = none
      · exact q
      · have ab := alone b q
        subst ab
        rw [free q] at e
        cases e
    have modH : Mod K mg (hidT s₁.heap H) := ⟨inH, nsH nG, ⟨mb, nsH nB, boot⟩, let ⟨mc, h1, h2⟩ := noL; ⟨mc, nsH h1, h2⟩⟩
    have none0 : ∀ b : Addr, ¬ b ∈ frs [] := fun b hb => absurd (show b ∈ ([] : List Addr) from hb) (by simp)
    have e0 : Env0 P w K mg (hidT s₁.heap H) callerA [] s₁ H := ⟨rfl, modH, fun b o e => of_hidT e, Nat.le_of_eq (hidT_size _ _), trivial, fun b hb => absurd hb (none0 b), ok, .of_eq g0⟩
    refine codeAny_mono ((F _ inH (nsH nG)).go (as := ⟨[.ref a], []⟩) (us := [.ref a]) (vs := [.ref a]) hr e0 (bind s₁ (.ref a)) (.cons rfl .nil) (hsp H only sq)) ?_
    intro r s' hq
    cases r with
    | error e => exact False.elim hq
    | ok fl =>
      cases fl with
      | next => exact False.elim hq
      | brk => exact False.elim hq
      | cont => exact False.elim hq
      | ret u =>
        obtain ⟨v, H2, os, bare, un, ok2, rv, q⟩ := hq
        have q2 : v = .bl true := q
        subst q2
        have eu : u = Value.bool true := rv
        subst eu
        refine ⟨rfl, OldK.of_keep ?_, os, bare⟩
        intro b o e
        rcases only b with z | ⟨ob, xs, z⟩
        · exact un.keep b o e z (none0 b) (by simp)
        · have z2 := un.frzs b ob _ z
          obtain ⟨e1, _⟩ := ok b _ z
          obtain ⟨e2, _⟩ := ok2 b _ z2
          rw [e] at e1
          cases e1
          exact e2
  by_cases hk : K.lookup a = none
  · have at_a : ∀ {b : Addr} {u : HO}, (if b = a then some (HO.frz { cls := .type "list", data := .seq vs.toArray } (.lst (ns.map V.int))) else none) = some u → b = a ∧ u = HO.frz { cls := .type "list", data := .seq vs.toArray } (.lst (ns.map V.int)) := by
      intro b u z
      by_cases hb : b = a
      · rw [if_pos hb] at z
        exact ⟨hb, (Option.some.inj z).symm⟩
      · rw [if_neg hb] at z
        cases z
    refine main (fun b => if b = a then some (.frz { cls := .type "list", data := .seq vs.toArray } (.lst (ns.map V.int))) else none) ?_ (.inl (.inr ⟨{ cls := .type "list", data := .seq vs.toArray }, if_pos rfl⟩)) ?_ ?_ fun _ => hk
    · intro b
      by_cases hb : b = a
      · exact Or.inr ⟨_, _, if_pos hb⟩
      · exact Or.inl (if_neg hb)
    · intro b u z
      obtain ⟨rfl, rfl⟩ := at_a z
      exact ⟨hA, by rw [List.length_map]; exact hz, vs, _, rel, hA⟩
    · intro b z
      by_cases hb : b = a
      · exact hb
      · exact absurd (if_neg hb) z
  · obtain ⟨o, ho⟩ := Option.ne_none_iff_exists'.mp hk
    have e := inK a o ho
    rw [hA] at e
    cases e
    exact main (fun _ => none) (fun _ => Or.inl rfl) (.inr ⟨_, vs.toArray, _, ho, rfl, rfl, rfl, by rw [List.size_toArray, many]; exact hz, by simpa using rel⟩) (fun b u z => nomatch z) (fun b z => absurd rfl z) (fun z => absurd rfl z)
theorem walk_end {l : PySem.W.OpenLaw} {q : Program} {loose : List Str} {XP : (Str → Option Value) → Heap → Prop} {YP : World → Heap → Prop} {d : DefRec} {K : Params → PySem.W.Frag} {k : Nat} {F : FF} (hn : l.most = some 63) (hdf : d.params.defaults = []) (hr : RoomG k callerA)
    (hY : ∀ (w : World) (h : Heap), YP w h → (K w.params).In h) (hF : ∀ ns : List Int, ns.length ≤ 63 → ∃ ms', F [.scr ns] = some (.dat (.bool true), ms'))
    (M : ∀ (w : World) (mg : Str → Option Value) (fa : Addr) (h : Heap), (K w.params).In h → h.Ns mainGlobals mg → mg d.name = some (.ref fa) →
      ∃ fd : FuncData, (∀ (s : Shared) (u : Value), BindsTo s fd ⟨[u], []⟩ [("script", u)]) ∧ ∀ base : Heap, (K w.params).In base → base.Ns mainGlobals mg → FnG l.prog w (K w.params) mg base k fa fd ["script"] (spF (K w.params) F)) :
    PySem.W.WalkO q loose XP YP l.row.toRowW d [] (fun f vs => PySem.call f vs) := by
  refine Att.attach_call hn hdf ?_
  intro w s₀ s₁ mg mb fa o pm cd doc a vs ns G Y ho hd hcd hmg hobj hints hlen hg
  have inK := hY w _ Y
  obtain ⟨fd, hb, hM⟩ := M w mg fa _ inK G.T.g hmg
  exact law_callG inK G.T.g G.T.b G.T.builtins G.T.nolimit hg hobj hints (Nat.le_trans hlen (by decide)) hr hM hb fun H _ sq => sp_end (hF ns hlen) sq _
end Fx

end

noncomputable section
namespace Fx
abbrev fEnum := fEnumL
end Fx

end

/-! Fx21: enumerate of a tuple, repr, texts compared, raise that is not reached -/
noncomputable section
namespace Fx
open PySem PySem.Spec PyProof.Rows L2

theorem RoomG.hu {k : Nat} {A : Around} (h : RoomG k A) : A.units + 1 < cLine := by have := h.r.units; omega

/-! ### enumerate of a tuple -/
set_option maxHeartbeats 1000000 in
theorem enum_made {v : Value} {o : Obj} {S : Heap → Prop} (B : Begins v o S) :
    Meets (Builtin.«enumerate.__new__» ⟨[.type "enumerate", v], []⟩) (fun _ R s => S s.heap ∧
      R (.ok (.ret (.ref (s.heap.push o).objs.size))) { s with heap := (s.heap.push o).push { cls := .type "enumerate", data := .fields #[.none, .bool false, .ref s.heap.objs.size, rawInt 0, .none, .none] } }) :=
  .of_wp fun prog w A R s h => by
    obtain ⟨hp, g, d, tk, os⟩ := s
    obtain ⟨h1, h⟩ := h
    have isE := sub_enumerate
    have q0 : ∀ {A' : Around} {E : Value → Shared → Prop} {Q : Value → Shared → Prop}, Q (.ref hp.objs.size) ⟨hp.push o, g, d, tk, os⟩ → wpAny (model prog w) A' (pyIter v) Q E ⟨hp, g, d, tk, os⟩ :=
      fun q => B.iter prog w _ _ ⟨hp, g, d, tk, os⟩ _ h1 q
    wp_walk using q0
    refine wpAny_stack_any fun st => wpAny_pure ?_
    split
    · rename_i c _ _ _ _ _
      cases (c == Value.type "enumerate") <;> (wp_walk using q0; exact ⟨_, rfl, h⟩)
    · wp_walk using q0
      exact ⟨_, rfl, h⟩
theorem call_enum1 {prog : Program} {w : World} {A : Around} {E : Value → Shared → Prop} {s : Shared} {v : Value} {o : Obj} {S : Heap → Prop} {Q : Value → Shared → Prop} (B : Begins v o S) (h1 : S s.heap)
    (h : ∀ h', IsEnum h' (s.heap.objs.size + 1) s.heap.objs.size 0 .none → h'.get? s.heap.objs.size = some o → h'.objs.size = s.heap.objs.size + 2 →
      (∀ b u, s.heap.get? b = some u → h'.get? b = some u) → Q (.ref (s.heap.objs.size + 1)) { s with heap := h' }) : wpAny (model prog w) A (call (.type "enumerate") [v]) Q E s := by
  refine callType_new F.called_enumerate (by decide) (F.typeCall_enumerate_1 _) (F.newCall_enumerate_1 _) (fun obj => F.args_object_init_2 obj _) F.entry_enumerate_new (enum_made B) ⟨h1, ?_⟩
  have z : (s.heap.push o).objs.size = s.heap.objs.size + 1 := Heap.size_push ..
  show _ ∧ _
  rw [z]
  have e0 := Heap.get?_push_size (s.heap.push o) (o := { cls := .type "enumerate", data := .fields #[.none, .bool false, .ref s.heap.objs.size, rawInt 0, .none, .none] }) rfl
  rw [z] at e0
  exact ⟨⟨_, e0, rfl⟩, h _ e0 (Heap.get?_push_of_some _ (Heap.get?_push_size _ B.free)) (by rw [Heap.size_push, z]) fun b u x => Heap.get?_push_of_some _ (Heap.get?_push_of_some _ x)⟩
/-- the tuple at a, each item in a new pair -/
def IteT (K : PySem.W.Frag) (a : Addr) : It :=
  ⟨fun i H => ∃ (xs : List V) (x : V), SqT K H a xs ∧ xs[i]? = some x, fun i H v H' => ∃ T x, v = .ref T ∧ H T = none ∧ H' = upd H T (.tup [.int (i : Nat), x]) ∧ ∀ xs, SqT K H a xs → xs[i]? = some x, fun i H => ∃ xs : List V, SqT K H a xs ∧ xs.length ≤ i⟩
/-- an iterator that is through -/
theorem drawsOver {prog : Program} {w : World} {A : Around} (hh : A.handled = none) (it t : Addr) (items : Array Value) (n : Nat) (hn : items.size ≤ n) :
    Draws prog w A it [it, t] n (fun _ _ => False) (fun i h => h.IsTupleIter it t i ∧ h.IsTuple t items ∧ i = n) where
  live := fun _ _ st => let ⟨o, ho, _⟩ := st.1; ⟨o, ho⟩
  frame := fun _ _ _ st hk => ⟨st.1.at fun o e => hk it (by simp) o e, st.2.1.at fun o e => hk t (by simp) o e, st.2.2⟩
  item := fun i s Q E hi st hQ => absurd hi (by have := st.2.2; omega)
  done := fun s Q E st hE => wpAny_nextOf_tuple_end hh st.1 st.2.1 (Array.getElem?_eq_none hn) hE
theorem turn_enumT {P : Program} {w : World} {K : PySem.W.Frag} {elts : List Expr} {kk : Nat} {tpos : Pos} (a e it : Addr) :
    Turn P w K (.Tuple elts kk tpos) (IteT K a) [e, it] e (fun i h => (∃ old, IsEnum h e it ((i : Nat) : Int) old) ∧ h.IsTupleIter it a i ∧ e ≠ it ∧ a ≠ it ∧ a ≠ e) where
  mem := List.mem_cons_self
  obj := by
    rintro i h ⟨⟨old, he⟩, ⟨o, ho, hc, hd⟩, _⟩ b hb
    rcases List.mem_cons.mp hb with rfl | hb
    · exact ⟨_, he, fun v q => nomatch q⟩
    · rw [List.mem_singleton.mp hb]
      exact ⟨o, ho, fun v q => by rw [hd] at q; cases q⟩
  keep := by
    rintro i h h' ⟨⟨old, he⟩, hi, hne⟩ k
    exact ⟨⟨old, k e List.mem_cons_self _ he⟩, hi.at fun o q => k it (List.mem_cons_of_mem _ List.mem_cons_self) o q, hne⟩
  item := by
    intro X hP hw hK hc i pins s σ H E I hf st hg
    subst hP hw hK
    obtain ⟨⟨old, he⟩, hit, hne, ha1, ha2⟩ := st
    obtain ⟨xs, x, hq, hx⟩ := hg
    obtain ⟨its, rv, p, hz⟩ := I.tuple hq
    obtain ⟨u, hu, ru⟩ := rv.get hx
    have lt_e : e < s.heap.objs.size := Heap.lt_size he
    have lt_it : it < s.heap.objs.size := by
      obtain ⟨_, q, _⟩ := hit
      exact Heap.lt_size q
    have notin : e ∉ [it, a] := by simp [hne, Ne.symm ha2]
    have li : i < its.toArray.size := by
      have := (List.getElem?_eq_some_iff.mp hu).1
      simpa using this
    refine wpAny_pyNext_enum_itemD (Draws.tuple (prog := X.prog) (w := X.w) (A := X.A.in1) (I.ok.hd hc) it a ha1 its.toArray) he ⟨hit, p⟩ li hne notin ?_
    intro u2 h' tk eu ho hst hT hsz hk
    have eu' : u2 = u := by
      have q : its.toArray[i]? = some u2 := eu
      have q2 : its.toArray[i]? = some u := by simpa using hu
      rw [q] at q2
      exact Option.some.inj q2
    subst eu'
    refine ⟨_, rfl, wpAny_letOwnedTupleGo_enum (s := { s with heap := h', toks := tk + 1 }) ho ?_⟩
    intro h2 he2 sb
    have lt_n := Nat.ne_of_gt lt_e
    have hT2 : h2.get? s.heap.objs.size = some { cls := .type "tuple", data := .seq #[.int i tk, u2] } := (sb.2 _ lt_n).trans hT
    have new : ObjOk X.prog X.w (upd H s.heap.objs.size (.tup [.int (i : Nat), x])) h2 s.heap.objs.size (.tup [.int (i : Nat), x]) :=
      ⟨by show 2 ≤ sizeLine; decide, [.int i tk, u2], .cons ⟨_, rfl⟩ (.cons ru .nil), ⟨_, hT2, rfl, _, rfl⟩⟩
    have I1 : Inv X pins σ (upd H s.heap.objs.size (.tup [.int (i : Nat), x])) { s with heap := h2, toks := tk + 1 } :=
      I.turnedNew (ch := [e, it]) (fun b ob hb q => (sb.2 b (fun z => hb (by simp [z]))).trans (hk b ob (fun z => hb (by simp [z])) (fun z => hb (by simp [z])) q)) hf (Nat.le_refl _) new
    refine ⟨.ref s.heap.objs.size, _, I1, rfl, ⟨_, x, rfl, I.hok.fresh (Nat.le_refl _), rfl, fun ys hy => ?_⟩, ⟨⟨u2, ?_⟩, hst.1.at fun o q => (sb.2 it (Ne.symm hne)).trans q, hne, ha1, ha2⟩, ?_⟩
    · rw [I.tuple_inj hy hq]
      exact hx
    · rw [show ((i + 1 : Nat) : Int) = (i : Int) + 1 by omega]
      exact he2
    · intro b hb
      have lt_b : b < s.heap.objs.size := by
        rcases List.mem_cons.mp hb with rfl | hb
        · exact lt_e
        · rw [List.mem_singleton.mp hb]
          exact lt_it
      rw [upd_ne (Nat.ne_of_lt lt_b)]
      exact (hf b hb).1
  done := by
    intro X hP hw hK hc i pins s σ H E I hf st hg
    subst hP hw hK
    obtain ⟨⟨old, he⟩, hit, hne, ha1, ha2⟩ := st
    obtain ⟨xs, hq, hx⟩ := hg
    obtain ⟨its, rv, p, hz⟩ := I.tuple hq
    have hl := rv.length
    obtain ⟨f0, f1, f2, f3, f4, f5⟩ := hf it (List.mem_cons_of_mem _ List.mem_cons_self)
    exact wpAny_pyNext_enum_endD (drawsOver (prog := X.prog) (w := X.w) (A := X.A.in1) (I.ok.hd hc) it a its.toArray i (by simp; omega)) he ⟨hit, p, rfl⟩ fun h' eb => ⟨rfl, I.turned (t' := s.toks) (fun b o hb q => eb b o hb q) f0 f1 f3 f4 f5⟩
  self := fun A i s Q E st h => let ⟨⟨_, he⟩, _⟩ := st; wpAny_pyIter_enum he h
theorem pi_enumT {X : Cx} {e : Expr} {ta : TA} {p pos tpos : Pos} {elts : List Expr} {kk : Nat} (hg : Gl X "enumerate") (hm : X.mg "enumerate" = none) (ha : PA X [e] ta) (hs : starEach [e] X.env = [(false, eval e X.env)]) :
    PI X (.Tuple elts kk tpos) (.Call (.Name "enumerate" p) [e] [] pos) (fun σ H R => ta σ H fun vs H1 => ∃ a xs, vs = [.ref a] ∧ SqT X.K H1 a xs ∧ R (IteT X.K a) H1) := by
  constructor
  intro pins s σ H R I h
  refine Call_ (ld_blt I hg hm boot_enumerate (PyProof.Rows.callWith_type1 (thn (ha.run pos pins s σ H _ I h) ?_) hs rfl))
  rintro us s1 ⟨vs, H1, I1, r1, a, xs, rfl, hq, q⟩
  obtain ⟨u, rfl, r⟩ := vals1 r1
  obtain rfl : u = Value.ref a := r
  obtain ⟨its, rv, p', hz⟩ := I1.tuple hq
  refine call_enum1 (begins_tuple a its.toArray) p' ?_
  intro h' he hit hsz hk
  refine wpAny_pyIter_enum he ?_
  have I2 : Inv X pins σ H1 { s1 with heap := h' } := I1.kept (t' := s1.toks) hk
  have lt_a : a < s1.heap.objs.size := by
    obtain ⟨o, ho, _⟩ := p'
    exact Heap.lt_size ho
  refine ⟨s1.heap.objs.size + 1, [s1.heap.objs.size + 1, s1.heap.objs.size], _, _, H1, rfl, I2, turn_enumT a (s1.heap.objs.size + 1) s1.heap.objs.size, ⟨⟨.none, he⟩, ⟨_, hit, rfl, rfl⟩, Nat.succ_ne_self _, Nat.ne_of_lt lt_a, Nat.ne_of_lt (Nat.lt_succ_of_lt lt_a)⟩, fun b hb => ?_, q⟩
  have le_b : s1.heap.objs.size ≤ b := by
    rcases List.mem_cons.mp hb with rfl | hb
    · exact Nat.le_succ _
    · rw [List.mem_singleton.mp hb]
      exact Nat.le_refl _
  exact I1.fpOk le_b (I1.hok.fresh le_b)
section
variable {K : PySem.W.Frag} {O : Own} {H : Hp}
theorem itf_enumT {ds : List PyData} {a : Addr} (h : Fz K O H (.tuple ds) (.ref a)) : ItF K (IteT K a) O H (enumD ds) := by
  intro O' H' i dom k
  obtain ⟨b, xs, e, hb, fa⟩ := (Fz.kp k _ _ h).sqT
  cases e
  refine ⟨fun d e => ?_, fun hl => ⟨xs, hb, by rw [← fa.length]; simpa [enumD] using hl⟩⟩
  obtain ⟨d', e1, rfl⟩ := enumD_get e
  obtain ⟨v, ev, r⟩ := fa.get e1
  refine ⟨⟨xs, v, hb, ev⟩, fun x H' y => ?_⟩
  obtain ⟨T, w, rfl, hT, rfl, y⟩ := y
  have e2 := y xs hb
  rw [ev] at e2
  cases e2
  exact ev_pair dom hT (.int _) r
end
section
variable {X : Cx} {np : Nat} {a : Expr} {pos : Pos} {f : FE}
/-- enumerate of a list, of a tuple -/
def fEnumA (f : FE) : FI := fun Γ => (f Γ).bind fun p => match p.1 with
  | .md (.dat (.list ds)) => some (enumD ds, p.2)
  | .md (.dat (.tuple ds)) => some (enumD ds, p.2)
  | _ => none
theorem fi_enumA {p tpos : Pos} {elts : List Expr} {kk : Nat} (hm : X.mg "enumerate" = none) (ha : FX X np a f) (hg : Gl X "enumerate" := by rfl) (hs : starEach [a] X.env = (false, eval a X.env) :: starEach [] X.env := by rfl) (hs' : starEach [a] X.env = [(false, eval a X.env)] := by rfl) :
    FIX X np (.Tuple elts kk tpos) (.Call (.Name "enumerate" p) [a] [] pos) (fEnumA f) := by
  refine PI.weak (PI.or (pi_enum hg hm (pa_cons ha pa_nil hs) hs') (pi_enumT hg hm (pa_cons ha pa_nil hs) hs')) fun σ H R h => ?_
  obtain ⟨W, Γ, vs, ts, items, Γ', c, e, q⟩ := h
  obtain ⟨⟨t, Γ1⟩, e1, e⟩ := Option.bind_eq_some_iff.mp e
  dsimp only at e
  split at e
  · cases e
    refine .inl ⟨W, Γ, vs, ts, _, _, c, e1, fun v H1 c1 => ?_⟩
    obtain ⟨O, c1⟩ := c1
    have r := c1.top
    obtain ⟨a, xs, rfl, ha, fa, _⟩ := Fz.sqL r
    exact ⟨a, xs, rfl, .of ha, q _ _ _ c1.pop (itf_enum r)⟩
  · cases e
    refine .inr ⟨W, Γ, vs, ts, _, _, c, e1, fun v H1 c1 => ?_⟩
    obtain ⟨O, c1⟩ := c1
    have r := c1.top
    obtain ⟨a, xs, rfl, ha, fa⟩ := Fz.sqT r
    exact ⟨a, xs, rfl, ha, q _ _ _ c1.pop (itf_enumT r)⟩
  · cases e
end

/-! ### repr -/
/-- what repr tells of -/
def gRepr : List PyData → Option Res
  | [.none] => some (.val (.str (PyData.none).shown))
  | [.bool b] => some (.val (.str (PyData.bool b).shown))
  | [.int i] => if i.natAbs.log2 < 1920 then some (.val (.str (PyData.int i).shown)) else none
  | [.str x] => if (reprText x).length ≤ sizeLine then some (.val (.str (PyData.str x).shown)) else none
  | [.dict []] => some (.val (.str (PyData.dict []).shown))
  | [.list ds] => if (PyData.list ds).showable = true ∧ SeqAt.shaped (.list ds) = true ∧ (PyData.list ds).shown.length ≤ sizeLine then some (.val (.str (PyData.list ds).shown)) else none
  | [.tuple ds] => if (PyData.tuple ds).showable = true ∧ SeqAt.shaped (.tuple ds) = true ∧ (PyData.tuple ds).shown.length ≤ sizeLine then some (.val (.str (PyData.tuple ds).shown)) else none
  | _ => none
mutual
theorem noDict_of_canLay : ∀ d : PyData, d.canLay0 = true → d.hasDict = false
  | .none, _ => rfl
  | .bool _, _ => rfl
  | .int _, _ => rfl
  | .str _, _ => rfl
  | .list ds, h => by
    simp only [PyData.canLay0] at h
    simp only [PyData.hasDict]
    exact noDict_of_canLayAll ds h
  | .tuple ds, h => by
    simp only [PyData.canLay0] at h
    simp only [PyData.hasDict]
    exact noDict_of_canLayAll ds h
  | .dict _, h => by simp [PyData.canLay0] at h
theorem noDict_of_canLayAll : ∀ ds : List PyData, PyData.canLayAll0 ds = true → PyData.hasDictAll ds = false
  | [], _ => rfl
  | d :: ds, h => by
    simp only [PyData.canLayAll0, Bool.and_eq_true] at h
    simp only [PyData.hasDictAll, noDict_of_canLay d h.1, noDict_of_canLayAll ds h.2, Bool.or_self]
end
def rRepr (K : PySem.W.Frag) : List V → Hp → VK → Prop := fun xs H Q => ∃ x d s, xs = [x] ∧ (Dp K H x d ∨ (∃ a od, x = .ref a ∧ d = .dict [] ∧ H a = some (.frz od (.dK [])))) ∧ gRepr [d] = some (.val (.str s)) ∧ Q (.str s) H
theorem call_repr {X : Cx} (g0 : X.A.guards = some []) (hu : X.A.units + 66 < cLine) : CallR X (.builtin "repr") (rRepr X.K) := by
  intro pins s σ H xs us Q I r h
  obtain ⟨x, d, z, rfl, dp, e, q⟩ := h
  obtain ⟨u, rfl, ru⟩ := vals1 r
  have fin : ∀ (h' : Heap) (tk : Tok) (t : Nat), (∀ b o, s.heap.get? b = some o → h'.get? b = some o) → EP X pins σ Q (.str z tk) { s with heap := h', toks := t } := fun h' tk t hk => ⟨.str z, H, I.kept hk, ⟨_, rfl⟩, q⟩
  have fin0 : ∀ (tk : Tok) (t : Nat), EP X pins σ Q (.str z tk) { s with toks := t } := fun tk t => ⟨.str z, H, I.tok _, ⟨_, rfl⟩, q⟩
  rcases dp with dp | ⟨a, od, rfl, rfl, ha⟩
  · have big : ∀ {a : Addr} {d : PyData}, u = .ref a → Dp X.K H x d → d.showable = true → SeqAt.shaped d = true → d.shown.length ≤ sizeLine → d.shown = z → wpAny (model X.prog X.w) X.A (call (.builtin "repr") [u]) (EP X pins σ Q) X.xe s := by
      intro a d eu dp h1 h2 h3 ez
      subst eu
      obtain ⟨as, rd⟩ := Dp.reads I d x _ dp ru
      have hd := SeqAt.depth_of_shaped h2
      have nd := noDict_of_canLay d (SeqAt.canLay_of_shaped h2)
      refine repr_of_reads' rd h1 (fun z => by rw [nd] at z; cases z) g0 (by omega) (fun _ _ e => e) (fun h' v tk hk => ?_) h3
      rw [ez]
      exact fin h' v tk hk
    cases dp with
    | non =>
      cases ru
      cases e
      exact P.repr_of_none (fin0 _ _)
    | bl b =>
      cases ru
      cases e
      exact P.repr_of_bool (fin0 _ _)
    | int i =>
      obtain ⟨t, rfl⟩ := ru
      simp only [gRepr] at e
      split at e
      · rename_i hi
        cases e
        exact P.repr_of_int hi (fin0 _ _)
      · cases e
    | str y =>
      obtain ⟨t, rfl⟩ := ru
      simp only [gRepr] at e
      split at e
      · rename_i hi
        cases e
        exact P.repr_of_str (fin0 _ _) hi
      · cases e
    | lst hs ha =>
      cases ru
      simp only [gRepr] at e
      split at e
      · rename_i hi
        cases e
        exact big rfl (.lst hs ha) hi.1 hi.2.1 hi.2.2 rfl
      · cases e
    | tup hs ha =>
      cases ru
      simp only [gRepr] at e
      split at e
      · rename_i hi
        cases e
        exact big rfl (.tup hs ha) hi.1 hi.2.1 hi.2.2 rfl
      · cases e
  · cases ru
    cases e
    obtain ⟨e1, _, hsys, xs, kv, o, es, ep, e2, hc, hd, _, hp, _⟩ := (show ObjOk X.prog X.w H s.heap a (.frz od (.dK [])) from I.hok a _ ha)
    cases kv
    have he' : es.toList = [] := by
      generalize es.toList = l at hp
      cases hp
      rfl
    have rd : Reads s.heap (.ref a) (.dict []) (a :: [] ++ []) := .dict e2 hc.1 hd (by rw [he']; exact .nil) (by rw [he']; exact .nil)
    have ne : sysModules ≠ a := fun z => by rw [← z] at hsys; simp at hsys
    exact repr_of_reads' rd (by simp [PyData.showable, PyData.showableKv]) (fun _ => by simpa using ne) g0 (by simp [PyData.depth, PyData.depthKv]; omega) (fun _ _ e => e) (fun h' v tk hk => fin h' v tk hk) (by decide +kernel)

theorem snd_repr {K : PySem.W.Frag} : SndN K (rRepr K) gRepr := by
  intro O H xs ds s Q dom hx hg q
  have go : ∀ {d : PyData}, ds = [d] → SeqAt.shaped d = true → ∀ z, s = .val (.str z) → rRepr K xs H Q := by
    rintro d rfl sh z rfl
    obtain ⟨x, rfl, h⟩ := hx.one
    exact ⟨x, d, z, rfl, .inl (h.dp sh), hg, okv dom q (.str _)⟩
  unfold gRepr at hg
  split at hg
  · cases hg
    exact go rfl rfl _ rfl
  · cases hg
    exact go rfl rfl _ rfl
  · split at hg
    · cases hg
      exact go rfl rfl _ rfl
    · cases hg
  · rename_i y
    split at hg
    · rename_i hy
      cases hg
      obtain ⟨x, rfl, h⟩ := hx.one
      have h' : Fz K O H (.str y) x := h
      cases h'
      exact ⟨_, .str y, _, rfl, .inl (.str y), by simp [gRepr, hy], okv dom q (.str _)⟩
    · cases hg
  · cases hg
    obtain ⟨x, rfl, h⟩ := hx.one
    have h' : Fz K O H (.dict []) x := h
    cases h' with
    | dct hr n hd =>
      cases hd
      exact ⟨_, .dict [], _, rfl, .inr ⟨_, _, rfl, rfl, hr⟩, rfl, okv dom q (.str _)⟩
  · split at hg
    · rename_i hh
      cases hg
      exact go rfl hh.2.1 _ rfl
    · cases hg
  · split at hg
    · rename_i hh
      cases hg
      exact go rfl hh.2.1 _ rfl
    · cases hg
  · cases hg
theorem RoomG.rp {k : Nat} {A : Around} (h : RoomG k A) : A.guards = some [] ∧ A.units + 66 < cLine := ⟨h.g, by have := h.r.un; omega⟩
theorem cr_repr {X : Cx} (h : X.A.guards = some [] ∧ X.A.units + 66 < cLine) : CallR X (.builtin "repr") (rRepr X.K) := call_repr h.1 h.2

/-! ### texts compared -/
def gEqX (neg : Bool) (d e : PyData) : Option Res := match d, e with
  | .str a, .str b => some (.val (.bool (if neg then !decide (a = b) else decide (a = b))))
  | d, e => gEq neg d e
def rEqA (K : PySem.W.Frag) : R2 := fun x y H Q => rEq x y H Q ∨ rEqD K x y H Q
def rNeA (K : PySem.W.Frag) : R2 := fun x y H Q => rNe x y H Q ∨ rNeD K x y H Q
theorem op_eqA {X : Cx} (hu : X.A.units + 64 < cLine) : OpR X (compareOp .Eq) (rEqA X.K) := OpR.or op_eq (op_eqD hu)
theorem op_neA {X : Cx} (hu : X.A.units + 64 < cLine) : OpR X (compareOp .NotEq) (rNeA X.K) := OpR.or op_ne (op_neD hu)
theorem decide_str (a b : Str) : decide (V.str a = V.str b) = decide (a = b) := by
  by_cases h : a = b
  · subst h; simp
  · rw [decide_eq_false h, decide_eq_false fun z => h (V.str.inj z)]
theorem snd_eqX {K : PySem.W.Frag} : Snd2 K (rEqA K) (gEqX false) := by
  intro O H x y d e s Q dom hx hy hg q
  unfold gEqX at hg
  split at hg
  · cases hg
    cases hx
    cases hy
    refine .inl ⟨rfl, ?_⟩
    rw [decide_str]
    exact okv dom q (.bl _)
  · exact .inr (snd_eq O H x y _ _ s Q dom hx hy hg q)
theorem snd_neX {K : PySem.W.Frag} : Snd2 K (rNeA K) (gEqX true) := by
  intro O H x y d e s Q dom hx hy hg q
  unfold gEqX at hg
  split at hg
  · cases hg
    cases hx
    cases hy
    refine .inl ⟨rfl, ?_⟩
    rw [decide_str]
    exact okv dom q (.bl _)
  · exact .inr (snd_ne O H x y _ _ s Q dom hx hy hg q)
/-- a statement that is not reached -/
def fNever : FS := fun _ => none
theorem fs_never {X : Cx} {np : Nat} {e c : Option Expr} {pos : Pos} : FSX X np (.Raise e c pos) fNever := by
  refine ⟨fun pins s σ H D I h => ?_⟩
  obtain ⟨W, Γ, vs, ds, o, c, e, q⟩ := h
  cases e
/-- three whole numbers -/
def gMax3 : List PyData → Option Res
  | [.int i, .int j, .int k] => some (.val (.int (max (max i j) k)))
  | _ => none
def gMin3 : List PyData → Option Res
  | [.int i, .int j, .int k] => some (.val (.int (min (min i j) k)))
  | _ => none
end Fx

end

/-! Fx22: sum of a tuple, max and min of three, calls by place and by names, comprehensions with two fors -/
noncomputable section
namespace Fx
open PySem PySem.Spec PyProof.Rows L2

/-! ### sum of a list, of a tuple -/
def rSumA (K : PySem.W.Frag) : List V → Hp → VK → Prop := fun vs H Q => rSum K vs H Q ∨ ∃ (a : Addr) (ns : List Int), vs = [V.ref a] ∧ SqT K H a (ns.map V.int) ∧ Q (.int ns.sum) H
theorem cr_sumA {X : Cx} (hc : X.calm = true) : CallR X (.builtin "sum") (rSumA X.K) := by
  intro pins s σ H vs us Q I r h
  rcases h with h | ⟨a, ns, rfl, hs, q⟩
  · exact cr_sum hc pins s σ H vs us Q I r h
  · obtain ⟨its, rv, p, _⟩ := I.tuple hs
    rw [Vals.ref1 r]
    have hi : IntsAre its ns := rv.ints
    obtain ⟨xs, e⟩ := hi.allInts.items
    have hn : numsOf (intItems xs).toList = ns := by
      rw [← e]
      exact hi.numsOf
    rw [nums_intItems] at hn
    rw [e] at p
    refine PySem.W.ktm_sumG (I.ok.hd hc) p ?_
    intro h' tk t' hk
    refine ⟨.int ns.sum, H, I.kept hk, ⟨t', ?_⟩, q⟩
    rw [preSum_eq, List.take_of_length_le (by simp), hn]
def gSumA : List PyData → Option Res
  | [.list ds] => (intsOf ds).map fun ns => .val (.int ns.sum)
  | [.tuple ds] => (intsOf ds).map fun ns => .val (.int ns.sum)
  | _ => none
theorem snd_sumA {K : PySem.W.Frag} : SndN K (rSumA K) gSumA := by
  intro O H xs ds s Q dom hx hg q
  unfold gSumA at hg
  split at hg
  · exact .inl (snd_sum O H xs _ s Q dom hx hg q)
  · obtain ⟨ns, e1, e2⟩ := Option.map_eq_some_iff.mp hg
    cases e2
    obtain ⟨x, rfl, h⟩ := hx.one
    obtain ⟨a, ys, rfl, ha, fa⟩ := Fz.sqT h
    rw [intsOf_to e1] at fa
    rw [fa.intsV] at ha
    exact .inr ⟨a, ns, rfl, ha, okv dom q (.int _)⟩
  · cases hg

/-! ### max, min of three whole numbers -/
theorem VwA.three {K : PySem.W.Frag} {O : Own} {H : Hp} {d e f : PyData} {xs : List V} (h : VwA K O H [d, e, f] xs) : ∃ x y z, xs = [x, y, z] ∧ Vw K O H d x ∧ Vw K O H e y ∧ Vw K O H f z := by
  cases h with
  | cons r1 t =>
    cases t with
    | cons r2 t =>
      cases t with
      | cons r3 t =>
        cases t
        exact ⟨_, _, _, rfl, r1, r2, r3⟩
theorem nuMax_int (i j k : Int) : nuMax3 (.int i) (.int j) (.int k) = some (.int (max (max i j) k)) := by
  have h2 : ∀ a b : Int, nuMax2 (.int a) (.int b) = some (.int (max a b)) := by
    intro a b
    show (some (decide (a < b))).map (fun c => if c = true then V.int b else V.int a) = _
    by_cases h : a < b
    · rw [decide_eq_true h, Int.max_eq_right (by omega)]
      rfl
    · rw [decide_eq_false h, Int.max_eq_left (by omega)]
      rfl
  show (nuMax2 (.int i) (.int j)).bind (fun m => nuMax2 m (.int k)) = _
  rw [h2]
  exact h2 _ _
theorem nuMin_int (i j k : Int) : nuMin3 (.int i) (.int j) (.int k) = some (.int (min (min i j) k)) := by
  have h2 : ∀ a b : Int, nuMin2 (.int a) (.int b) = some (.int (min a b)) := by
    intro a b
    show (some (decide (b < a))).map (fun c => if c = true then V.int b else V.int a) = _
    by_cases h : b < a
    · rw [decide_eq_true h, Int.min_eq_right (by omega)]
      rfl
    · rw [decide_eq_false h, Int.min_eq_left (by omega)]
      rfl
  show (nuMin2 (.int i) (.int j)).bind (fun m => nuMin2 m (.int k)) = _
  rw [h2]
  exact h2 _ _
theorem snd_max3 {K : PySem.W.Frag} : SndN K (rNuC3 nuMax3) gMax3 := by
  intro O H xs ds s Q dom hx hg q
  unfold gMax3 at hg
  split at hg
  · cases hg
    obtain ⟨x, y, z, rfl, h1, h2, h3⟩ := hx.three
    cases h1
    cases h2
    cases h3
    exact ⟨_, _, _, _, rfl, nuMax_int _ _ _, okv dom q (.int _)⟩
  · cases hg
theorem snd_min3 {K : PySem.W.Frag} : SndN K (rNuC3 nuMin3) gMin3 := by
  intro O H xs ds s Q dom hx hg q
  unfold gMin3 at hg
  split at hg
  · cases hg
    obtain ⟨x, y, z, rfl, h1, h2, h3⟩ := hx.three
    cases h1
    cases h2
    cases h3
    exact ⟨_, _, _, _, rfl, nuMin_int _ _ _, okv dom q (.int _)⟩
  · cases hg

/-! ### calls by place and by names -/
section
variable {X : Cx} {np k : Nat} {st : Stmt} {ps ks : List Str} {x : Str} {p pos : Pos} {e : Expr} {es : List Expr} {F : FF} {fs fk : FA} {kws : List Keyword}
theorem kwP_run {f : Addr} {fd : FuncData} {sp : Sp} {t tk : TA} {g : List Value → List Value → List Value} {gV : List V → List V → List V} (G : FnG X.prog X.w X.K X.mg X.base k f fd ps sp) (hr : RoomG k X.A) (hg : Gl X x) (hm : X.mg x = some (.ref f)) (hk : PySem.W.keepIn X.K (.ref f) = true) (hb : KBinds X.K fd ps ks g gV)
    (ha : PA X (e :: es) t) (hkw : PK X kws tk) (hall : (backToKw pos (keywordEach kws X.env)).all (·.1.isSome) = true) (hks : (backToKw pos (keywordEach kws X.env)).filterMap (·.1) = ks) (hdb : (x == ("__debug__" : Str)) = false) (he : starEach (e :: es) X.env = (false, eval e X.env) :: starEach es X.env)
    (hpl : ((backTo pos (starEach (e :: es) X.env)).any (·.1) || (backToKw pos (keywordEach kws X.env)).any (·.1.isNone)) = false) : PE X (.Call (.Name x p) (e :: es) kws pos) (fun σ H Q => t σ H fun vs H1 => tk σ H1 fun zs H2 => sp (gV vs zs) H2 Q E0) := by
  constructor
  intro pins s σ H Q I h
  apply wpAny_Call_Name_kw
  apply ld_glob I hg hm _ hdb
  refine PySem.W.callWith_KW (h₀ := X.base) I.ok.mod.kin hk hall (thn (ha.run pos pins s σ H _ I h) ?_) hpl he
  rintro us s1 ⟨vs, H1, I1, r, q⟩
  refine thn (hkw.run pos pins s1 σ H1 _ I1 q) ?_
  rintro ws s2 ⟨zs, H2, I2, rz, q2⟩
  refine ⟨I2.kIn, ?_⟩
  rw [hks]
  exact callGk G hr hb I2 r rz q2
/-- n arguments by place, m by names; js: where each parameter is found -/
def fCallP (F : FF) (n m : Nat) (js : List Nat) (fs fk : FA) : FE := fun Γ => (fs Γ).bind fun p => (fk p.2).bind fun q => if p.1.length = n ∧ q.1.length = m ∧ permOk js (p.1 ++ q.1) = true ∧ (als (perm js (p.1 ++ q.1))).Nodup then
  (argsOf q.2 (perm js (p.1 ++ q.1))).bind fun ms => (F ms).bind fun r => (putArgs (perm js (p.1 ++ q.1)) r.2 q.2).map fun Γ' => (.md r.1, Γ') else none
theorem fx_callP {n m : Nat} {js : List Nat} (D : Def X.prog X.w X.K X.mg X.base k x st ps F) (hr : RoomG k X.A) (h0 : 0 < ps.length)
    (hb : ∀ (kV doc pm : Value) (an : Option Addr) (cdv ct : Value) (us ws : List Value), us.length = n → ws.length = m → bindArgs (PySem.W.fnOf x x (defArgs st) (defBody st) (defScope st) .none kV doc pm an cdv ct) ⟨us, ks.zip ws⟩ = pure (ps.zip (js.map fun j => (us ++ ws).getD j .none)))
    (ha : FAX X np (e :: es) fs) (hkw : FKX X np kws fk) (hall : (backToKw pos (keywordEach kws X.env)).all (·.1.isSome) = true := by rfl) (hks : (backToKw pos (keywordEach kws X.env)).filterMap (·.1) = ks := by rfl) (hg : Gl X x := by rfl) (hdb : (x == ("__debug__" : Str)) = false := by decide)
    (he : starEach (e :: es) X.env = (false, eval e X.env) :: starEach es X.env := by rfl)
    (hpl : ((backTo pos (starEach (e :: es) X.env)).any (·.1) || (backToKw pos (keywordEach kws X.env)).any (·.1.isNone)) = false := by rfl) : FX X np (.Call (.Name x p) (e :: es) kws pos) (fCallP F n m js fs fk) := by
  obtain ⟨⟨f, fd, Fn, G, hm⟩, bd⟩ := D
  have hkb : KBinds X.K fd ps ks (gK n m js) (gKV n m js) := by
    obtain ⟨oc, od, kV, doc, pm, an, cdv, ct, osl, rfl, _, _⟩ := Fn.ex
    exact kbinds h0 (hb kV doc pm an cdv ct)
  refine PE.weak (kwP_run G hr hg hm Fn.kp hkb ha hkw hall hks hdb he hpl) fun σ H Q h => ?_
  obtain ⟨W, Γ, vs, ts, t, Γ', c, e, q⟩ := h
  obtain ⟨⟨us, Γ1⟩, e1, e⟩ := Option.bind_eq_some_iff.mp e
  obtain ⟨⟨ws, Γ2⟩, e2, e⟩ := Option.bind_eq_some_iff.mp e
  dsimp only at e
  split at e
  · rename_i hh
    obtain ⟨ms, e3, e⟩ := Option.bind_eq_some_iff.mp e
    obtain ⟨⟨r, ms'⟩, e4, e⟩ := Option.bind_eq_some_iff.mp e
    obtain ⟨Γ3, e5, e⟩ := Option.map_eq_some_iff.mp e
    cases e
    refine ⟨W, Γ, vs, ts, us, Γ1, c, e1, fun xs H1 c1 el => ⟨W, Γ1, _, _, ws, Γ2, c1, e2, fun zs H2 c2 el2 => ?_⟩⟩
    obtain ⟨O, c2⟩ := c2
    have c2' : Cf X.K np W O σ H2 Γ2 ((xs ++ zs).reverse ++ vs) ((us ++ ws).reverse ++ ts) := by
      rw [List.reverse_append, List.reverse_append, List.append_assoc, List.append_assoc]
      exact c2
    obtain ⟨pr, c3⟩ := c2'.args (by simp [el, el2])
    have eV : gKV n m js xs zs = js.map fun j => (xs ++ zs).getD j .non := by
      unfold gKV
      rw [if_pos ⟨by rw [el]; exact hh.1, by rw [el2]; exact hh.2.1⟩]
    rw [eV]
    exact callF c3 (perm_pair pr js hh.2.2.1) hh.2.2.2 e3 e4 e5 q
  · cases e
end
end Fx

end

/-! Fx23: comprehensions with two fors -/
noncomputable section
namespace Fx
open PySem PySem.Spec PyProof.Rows L2

def loopM (tg : FG) (tt : FT) (fi1 : FI) (tg1 : FG) (tt1 : FT) (fe : FE) (own own1 : List Nat) : List PyData → List PyData → Gm → Option (List PyData × Gm)
  | [], acc, Γ => some (acc, Γ)
  | d :: r, acc, Γ => (tg d Γ).bind fun Γ1 => (tt Γ1).bind fun p => if p.1 = true then (fi1 p.2).bind fun q => if noOwn q.2 own1 = true then (loopL tg1 tt1 fe own1 q.1 acc (fgt q.2 own1)).bind fun z => if noOwn z.2 own = true then loopM tg tt fi1 tg1 tt1 fe own own1 r z.1 (fgt z.2 own) else none else none
    else if noOwn p.2 own = true then loopM tg tt fi1 tg1 tt1 fe own own1 r acc (fgt p.2 own) else none
def fLc2 (ow : Bool) (fi : FI) (tg : FG) (tt : FT) (fi1 : FI) (tg1 : FG) (tt1 : FT) (fe : FE) (own own1 : List Nat) : FE := fun Γ => (fi Γ).bind fun p => if noOwn p.2 own = true then (loopM tg tt fi1 tg1 tt1 fe own own1 p.1 [] (fgt p.2 own)).map fun q => ((Res.new q.1).fin ow, fgt q.2 own) else none
section
variable {X : Cx} {np : Nat} {pos : Pos} {is is1 : List Nat}
theorem lc2_read {ow : Bool} {fi fi1 : FI} {g g1 : FG} {tt tt1 : FT} {fe : FE} {own own1 : List Nat} (hsub : ∀ i ∈ is, i ∈ own) (hsub1 : ∀ i ∈ is1, i ∈ own1) (h10 : ∀ i ∈ own1, i ∈ own) {σ : L2.St} {H : Hp} {Q : VK} (h : up X.K np (fLc2 ow fi g tt fi1 g1 tt1 fe own own1) σ H Q) :
    tLc2 (upI X.K np fi) (upG X.K np is g) (upT X.K np tt) (upI X.K np fi1) (upG X.K np is1 g1) (upT X.K np tt1) (up X.K np fe) own own1 σ H Q := by
  obtain ⟨W, Γ, vs, ts, t, Γ', c, e, q⟩ := h
  obtain ⟨⟨items, Γ1⟩, e1, e⟩ := Option.bind_eq_some_iff.mp e
  dsimp only at e
  split at e
  · rename_i hno
    obtain ⟨⟨out, Γ9⟩, e9, ex⟩ := Option.map_eq_some_iff.mp e
    cases ex
    have hw : ∀ j, j ∉ own → (L2.wipe σ own)[j]? = σ[j]? := fun j hj => wipe_at hj
    refine ⟨W, Γ, vs, ts, items, Γ1, c, e1, fun J O1 H1 c1 itf D hD => ?_⟩
    refine ⟨fun i m H => i + m = items.length ∧ ∃ acc Γi, Cfg X.K np (W.at O1 H1) (L2.wipe σ own) H Γi (.ref D :: vs) (.md (.lst acc) :: ts) ∧ (∀ j, j ∈ own → ownAt Γi j = false) ∧ loopM g tt fi1 g1 tt1 fe own own1 (items.drop i) acc Γi = some (out, Γ9), ⟨items.length, by simp, [], fgt Γ1 own, ?_, ownAt_fgt, e9⟩, ?_⟩
    · have a := Ev.newOwn (o := .lst []) (t := .tmp ts.length) (by simp) c1.dom hD
      have c2 := (c1.rebase.ev0 a).push (v := .ref D) (t := .md (.lst [])) ⟨D, [], rfl, put_same, upd_same, .nil⟩
      exact ⟨_, c2.inBlk own (L2.wipe_length _ _) hw (noOwn_to hno)⟩
    · rintro i m H ⟨hl, acc, Γi, ⟨O, ci⟩, hoi, ei⟩
      obtain ⟨s1, s2⟩ := itf.step i ci
      cases m with
      | zero =>
        have hi' : items.length ≤ i := by omega
        rw [List.drop_eq_nil_of_le hi'] at ei
        cases ei
        refine .inl ⟨s2 hi', ?_⟩
        have c3 := ci.inBlk (σ' := σ) own (L2.wipe_length _ _).symm (fun j hj => (hw j hj).symm) hoi
        have c4 := c1.unbase c3
        cases ow with
        | true => exact q _ H ⟨_, c4⟩
        | false => exact q _ H (c4.frzTop rfl)
      | succ m =>
        have hi' : i < items.length := by omega
        have ed : items[i]? = some items[i] := List.getElem?_eq_getElem hi'
        obtain ⟨go, y⟩ := s1 _ ed
        rw [List.drop_eq_getElem_cons hi'] at ei
        obtain ⟨Γ2, e2, ei⟩ := Option.bind_eq_some_iff.mp ei
        obtain ⟨⟨b, Γ3⟩, e3, ei⟩ := Option.bind_eq_some_iff.mp ei
        refine .inr ⟨go, fun H => ∃ acc Γi, Cfg X.K np (W.at O1 H1) (L2.wipe σ own) H Γi (.ref D :: vs) (.md (.lst acc) :: ts) ∧ (∀ j, j ∈ own → ownAt Γi j = false) ∧ loopM g tt fi1 g1 tt1 fe own own1 (items.drop (i + 1)) acc Γi = some (out, Γ9), fun H' w => ⟨m, Nat.lt_succ_self _, by omega, w⟩, fun x H2 hy => ?_⟩
        refine ⟨W.at O1 H1, Γi, _, _, _, Γ2, y x H2 hy, e2, fun σ3 H3 c3 off => ?_⟩
        have hoff : ∀ j, j ∉ own → (L2.wipe σ own)[j]? = σ3[j]? := fun j hj => (off.2 j fun z => hj (hsub j z)).symm
        have hlen : (L2.wipe σ own).length = σ3.length := off.1.symm
        refine ⟨by rw [wipe_ext (σ := L2.wipe σ own) hlen.symm fun j hj => (hoff j hj).symm, wipe_wipe], ?_⟩
        refine ⟨W.at O1 H1, Γ2, _, _, b, Γ3, c3, e3, fun H4 c4 => ?_⟩
        cases b with
        | false =>
          refine iteF ?_
          dsimp only at ei
          rw [if_neg (by simp)] at ei
          split at ei
          · rename_i hno3
            obtain ⟨O4, c4⟩ := c4
            exact ⟨acc, fgt Γ3 own, ⟨O4, c4.inBlk own hlen hoff (noOwn_to hno3)⟩, ownAt_fgt, ei⟩
          · cases ei
        | true =>
          dsimp only at ei
          rw [if_pos rfl] at ei
          obtain ⟨⟨items1, Γ5⟩, e5, ei⟩ := Option.bind_eq_some_iff.mp ei
          dsimp only at ei
          split at ei
          · rename_i hno5
            obtain ⟨⟨out1, Γ8⟩, e8, ei⟩ := Option.bind_eq_some_iff.mp ei
            dsimp only at ei
            split at ei
            · rename_i hno8
              refine iteT ⟨W.at O1 H1, Γ3, _, _, items1, Γ5, c4, e5, fun J1 O5 H5 c5 itf1 => ?_⟩
              have hw1 : ∀ j, j ∉ own1 → (L2.wipe σ3 own1)[j]? = σ3[j]? := fun j hj => wipe_at hj
              refine ⟨fun j k H => j + k = items1.length ∧ ∃ acc Γi, Cfg X.K np ((W.at O1 H1).at O5 H5) (L2.wipe σ3 own1) H Γi (.ref D :: vs) (.md (.lst acc) :: ts) ∧ (∀ j, j ∈ own1 → ownAt Γi j = false) ∧ loopL g1 tt1 fe own1 (items1.drop j) acc Γi = some (out1, Γ8),
                ⟨items1.length, by simp, acc, fgt Γ5 own1, ⟨_, c5.rebase.inBlk own1 (L2.wipe_length _ _) hw1 (noOwn_to hno5)⟩, ownAt_fgt, e8⟩, ?_⟩
              rintro j k H6 ⟨hl1, acc1, Γj, ⟨O6, cj⟩, hoj, ej⟩
              obtain ⟨s3, s4⟩ := itf1.step j cj
              cases k with
              | zero =>
                have hj' : items1.length ≤ j := by omega
                rw [List.drop_eq_nil_of_le hj'] at ej
                cases ej
                refine .inl ⟨s4 hj', ?_⟩
                have c7 := c5.unbase cj
                refine ⟨_, _, ⟨O6, c7.inBlk (σ' := L2.wipe σ own) own ?_ ?_ (noOwn_to hno8)⟩, ownAt_fgt, ei⟩
                · rw [hlen, L2.wipe_length]
                · intro j' hj'
                  rw [hoff j' hj', wipe_at fun z => hj' (h10 j' z)]
              | succ k =>
                have hj' : j < items1.length := by omega
                have ed1 : items1[j]? = some items1[j] := List.getElem?_eq_getElem hj'
                obtain ⟨go1, y1⟩ := s3 _ ed1
                rw [List.drop_eq_getElem_cons hj'] at ej
                obtain ⟨Γa, ea, ej⟩ := Option.bind_eq_some_iff.mp ej
                obtain ⟨⟨b1, Γb⟩, eb, ej⟩ := Option.bind_eq_some_iff.mp ej
                refine .inr ⟨go1, fun H => ∃ acc Γi, Cfg X.K np ((W.at O1 H1).at O5 H5) (L2.wipe σ3 own1) H Γi (.ref D :: vs) (.md (.lst acc) :: ts) ∧ (∀ j, j ∈ own1 → ownAt Γi j = false) ∧ loopL g1 tt1 fe own1 (items1.drop (j + 1)) acc Γi = some (out1, Γ8), fun H' w => ⟨k, Nat.lt_succ_self _, by omega, w⟩, fun x1 H7 hy1 => ?_⟩
                refine ⟨(W.at O1 H1).at O5 H5, Γj, _, _, _, Γa, y1 x1 H7 hy1, ea, fun σ4 H8 c8 off1 => ?_⟩
                have hoff1 : ∀ j, j ∉ own1 → (L2.wipe σ3 own1)[j]? = σ4[j]? := fun j hj => (off1.2 j fun z => hj (hsub1 j z)).symm
                have hlen1 : (L2.wipe σ3 own1).length = σ4.length := off1.1.symm
                refine ⟨by rw [wipe_ext (σ := L2.wipe σ3 own1) hlen1.symm fun j hj => (hoff1 j hj).symm, wipe_wipe], ?_⟩
                refine ⟨(W.at O1 H1).at O5 H5, Γa, _, _, b1, Γb, c8, eb, fun H9 c9 => ?_⟩
                cases b1 with
                | false =>
                  refine iteF ?_
                  dsimp only at ej
                  rw [if_neg (by simp)] at ej
                  split at ej
                  · rename_i hnob
                    obtain ⟨O9, c9⟩ := c9
                    exact ⟨acc1, fgt Γb own1, ⟨O9, c9.inBlk own1 hlen1 hoff1 (noOwn_to hnob)⟩, ownAt_fgt, ej⟩
                  · cases ej
                | true =>
                  dsimp only at ej
                  rw [if_pos rfl] at ej
                  obtain ⟨⟨t5, Γc⟩, ec, ej⟩ := Option.bind_eq_some_iff.mp ej
                  obtain ⟨yd, e6, ej⟩ := Option.bind_eq_some_iff.mp ej
                  dsimp only at ej
                  split at ej
                  · rename_i hnoc
                    refine iteT ⟨(W.at O1 H1).at O5 H5, Γb, _, _, t5, Γc, c9, ec, fun y H10 c10 => ?_⟩
                    obtain ⟨O10, c10⟩ := c10
                    obtain ⟨a, ws, ea, oa, ha, fa⟩ := c10.pop.top
                    cases ea
                    have ry : Fz X.K O10 H10 yd y := by
                      have := c10.top
                      have e6' : t5 = .md (.dat yd) := frz_to e6
                      rw [e6'] at this
                      exact this
                    refine ⟨ws, ha, by rw [← fa.length]; exact hnoc.1, acc1 ++ [yd], fgt Γc own1, ?_, ownAt_fgt, ej⟩
                    have w := Ev.write (o := .lst (ws ++ [y])) c10.dom oa
                    have c11 := c10.pop.pop.ev w (by simp) (by simp) (fun k z => by injection z with z; omega)
                    have c12 := c11.push (v := .ref D) (t := .md (.lst (acc1 ++ [yd]))) ⟨D, ws ++ [y], rfl, oa, upd_same, (FzA.kp w.k _ _ fa).append (.cons (Fz.kp w.k _ _ ry) .nil)⟩
                    exact ⟨_, c12.inBlk own1 hlen1 hoff1 (noOwn_to hnoc.2)⟩
                  · cases ej
            · cases ei
          · cases ei
  · cases e
theorem fx_lc2 {ow : Bool} {elt tg iter tg1 iter1 : Expr} {ifs ifs1 : List Expr} {scope : Scope} {own : List (Str × Nat)} {own1 : List Nat} {fi fi1 : FI} {g g1 : FG} {tt tt1 : FT} {fe : FE} (hc : X.calm = true) (hN : X.N.Nodup) (hi : FIX X np tg iter fi) (ok : BlkOk X.N X.env.scope scope own)
    (hg : ∀ (s : Shared) (H : Hp) (C : Addr) (cl : List (Str × Addr)) (fp : List Addr), FGX (X.blk s H scope (compEnvC scope cl C X.env) fp) np is tg g) (ht : ∀ (s : Shared) (H : Hp) (C : Addr) (cl : List (Str × Addr)) (fp : List Addr), FTsX (X.blk s H scope (compEnvC scope cl C X.env) fp) np ifs tt)
    (hi1 : ∀ (s : Shared) (H : Hp) (C : Addr) (cl : List (Str × Addr)) (fp : List Addr), FIX (X.blk s H scope (compEnvC scope cl C X.env) fp) np tg1 iter1 fi1)
    (hg1 : ∀ (s : Shared) (H : Hp) (C : Addr) (cl : List (Str × Addr)) (fp : List Addr), FGX (X.blk s H scope (compEnvC scope cl C X.env) fp) np is1 tg1 g1) (ht1 : ∀ (s : Shared) (H : Hp) (C : Addr) (cl : List (Str × Addr)) (fp : List Addr), FTsX (X.blk s H scope (compEnvC scope cl C X.env) fp) np ifs1 tt1)
    (he : ∀ (s : Shared) (H : Hp) (C : Addr) (cl : List (Str × Addr)) (fp : List Addr), FX (X.blk s H scope (compEnvC scope cl C X.env) fp) np elt fe) (hsub : ∀ i ∈ is, i ∈ own.map (·.2) := by decide) (hsub1 : ∀ i ∈ is1, i ∈ own1 := by decide) (h10 : ∀ i ∈ own1, i ∈ own.map (·.2) := by decide)
    (hs : ∀ x, foldedSetIterable iter X.env x = pure x := by intro _; rfl) (hs1 : ∀ env x, foldedSetIterable iter1 env x = pure x := by intro _ _; rfl) :
    FX X np (.ListComp elt [⟨tg, iter, ifs, 0⟩, ⟨tg1, iter1, ifs1, 0⟩] scope pos) (fLc2 ow fi g tt fi1 g1 tt1 fe (own.map (·.2)) own1) :=
  PE.weak (pe_lc2 (wi1 := upI X.K np fi1) (g := upG X.K np is g) (tt := upT X.K np tt) (g1 := upG X.K np is1 g1) (tt1 := upT X.K np tt1) (te := up X.K np fe) hc hN hi ok h10 hg ht hi1 hg1 ht1 he hs hs1) fun _ _ _ h => lc2_read hsub hsub1 h10 h
/-- y = [.. for .. for ..] on one line -/
theorem fs_setLc2 {ow : Bool} {i : Nat} {y : Str} {py : Pos} {elt tg iter tg1 iter1 : Expr} {ifs ifs1 : List Expr} {scope : Scope} {own : List (Str × Nat)} {own1 : List Nat} {spos : Pos} {fi fi1 : FI} {g g1 : FG} {tt tt1 : FT} {fe : FE} (hc : X.calm = true) (hN : X.N.Nodup) (hyl : X.env.scope.names.lookup y = some .local)
    (hsw : swapsWith (.ListComp elt [⟨tg, iter, ifs, 0⟩, ⟨tg1, iter1, ifs1, 0⟩] scope pos) (some (.Name y py)) spos.line X.env = pure true) (hi : FIX X np tg iter fi) (ok : BlkOk X.N X.env.scope scope own)
    (hg : ∀ (s : Shared) (H : Hp) (C : Addr) (cl : List (Str × Addr)) (fp : List Addr), FGX (X.blk s H scope (compEnvC scope cl C X.env) fp) np is tg g) (ht : ∀ (s : Shared) (H : Hp) (C : Addr) (cl : List (Str × Addr)) (fp : List Addr), FTsX (X.blk s H scope (compEnvC scope cl C X.env) fp) np ifs tt)
    (hi1 : ∀ (s : Shared) (H : Hp) (C : Addr) (cl : List (Str × Addr)) (fp : List Addr), FIX (X.blk s H scope (compEnvC scope cl C X.env) fp) np tg1 iter1 fi1)
    (hg1 : ∀ (s : Shared) (H : Hp) (C : Addr) (cl : List (Str × Addr)) (fp : List Addr), FGX (X.blk s H scope (compEnvC scope cl C X.env) fp) np is1 tg1 g1) (ht1 : ∀ (s : Shared) (H : Hp) (C : Addr) (cl : List (Str × Addr)) (fp : List Addr), FTsX (X.blk s H scope (compEnvC scope cl C X.env) fp) np ifs1 tt1)
    (he : ∀ (s : Shared) (H : Hp) (C : Addr) (cl : List (Str × Addr)) (fp : List Addr), FX (X.blk s H scope (compEnvC scope cl C X.env) fp) np elt fe) (hy : X.N[i]? = some y := by rfl) (hsub : ∀ i ∈ is, i ∈ own.map (·.2) := by decide) (hsub1 : ∀ i ∈ is1, i ∈ own1 := by decide) (h10 : ∀ i ∈ own1, i ∈ own.map (·.2) := by decide)
    (hs : ∀ x, foldedSetIterable iter X.env x = pure x := by intro _; rfl) (hs1 : ∀ env x, foldedSetIterable iter1 env x = pure x := by intro _ _; rfl) :
    FSX X np (.Assign [.Name y py] (.ListComp elt [⟨tg, iter, ifs, 0⟩, ⟨tg1, iter1, ifs1, 0⟩] scope pos) spos) (fSet np i (fLc2 ow fi g tt fi1 g1 tt1 fe (own.map (·.2)) own1)) := by
  refine PS.weak (ps_setLc2 (wi1 := upI X.K np fi1) (g := upG X.K np is g) (tt := upT X.K np tt) (g1 := upG X.K np is1 g1) (tt1 := upT X.K np tt1) (te := up X.K np fe) hc hN hy hyl hsw hi ok h10 hg ht hi1 hg1 ht1 he hs hs1) fun D σ H h => ?_
  obtain ⟨W, Γ, vs, ds, o, c, e, q⟩ := h
  obtain ⟨⟨t, Γ1⟩, e1, e⟩ := Option.bind_eq_some_iff.mp e
  refine lc2_read (np := np) (ow := ow) hsub hsub1 h10 ⟨W, Γ, vs, tsd ds, t, Γ1, c, e1, fun v H1 c1 => ?_⟩
  obtain ⟨O, c1⟩ := c1
  cases t with
  | md m =>
    dsimp only at e
    split at e
    · cases e
    · rename_i hm
      cases e
      exact q _ _ (c1.store hm)
  | al j => cases e
end
end Fx

end

/-! Fx24: numbers of the module, {} that nobody changes -/
noncomputable section
namespace Fx
open PySem PySem.Spec PyProof.Rows L2

theorem mg_int {K : PySem.W.Frag} {h : Heap} {mg : Str → Option Value} {x : Str} {n : Int} {t : Tok} (X : K.In h) (G : h.Ns mainGlobals mg) (e : PySem.W.nsIn K mainGlobals x = some (some (.int n t))) : ∃ t, mg x = some (.int n t) := ⟨t, PySem.W.mg_of X G e⟩
/-- a def without a meaning -/
theorem fnG_none {P : Program} {w : World} {K : PySem.W.Frag} {mg : Str → Option Value} {base : Heap} {k : Nat} {f : Addr} {fd : FuncData} {ps : List Str} : FnG P w K mg base k f fd ps (spF K fun _ => none) :=
  ⟨fun vs H Q E h => (let ⟨_, _, _, _, _, _, _, _, e, _⟩ := h; by cases e), fun _ _ _ _ h => (let ⟨_, _, _, _, _, _, _, _, e, _⟩ := h; by cases e)⟩
section
variable {X : Cx} {np : Nat} {pos : Pos} {e : Expr} {f : FE}
/-- a whole number that the module names -/
theorem fx_globI {x : Str} {n : Int} (hg : Gl X x) (h : ∃ t, X.mg x = some (.int n t)) (hd : (x == ("__debug__" : Str)) = false := by decide) : FX X np (.Name x pos) (fC (.int n)) := by
  obtain ⟨t, h⟩ := h
  exact fx_glob (v := .int n) hg h ⟨t, rfl⟩ (fun _ _ => .int _) hd
theorem PE.lockE {t : TE} (h : PE X e t) : PE X e (fun σ H Q => t σ H fun v H1 => Q v H1 ∨ ∃ d kvs, v = .ref d ∧ H1 d = some (.dK kvs) ∧ ∀ od, Q (.ref d) (upd H1 d (.frz od (.dK kvs)))) := by
  refine ⟨fun pins s σ H Q I hw => thn (h.run pins s σ H _ I hw) ?_⟩
  rintro u s1 ⟨v, H1, I1, r, q⟩
  rcases q with q | ⟨d, kvs, rfl, hd, q⟩
  · exact ⟨v, H1, I1, r, q⟩
  · obtain ⟨od, I2⟩ := I1.lock hd True.intro
    exact ⟨.ref d, _, I2, r, q od⟩
def fFrzE (f : FE) : FE := fun Γ => (f Γ).bind fun p => match p.1 with
  | .md (.dcK kvs) => some (.md (.dat (.dict (pairsD kvs))), p.2)
  | _ => none
theorem fx_frzE (h : FX X np e f) : FX X np e (fFrzE f) := by
  refine PE.weak (PE.lockE h) fun σ H Q h => ?_
  obtain ⟨W, Γ, vs, ts, t, Γ', c, e, q⟩ := h
  obtain ⟨⟨t1, Γ1⟩, e1, e⟩ := Option.bind_eq_some_iff.mp e
  dsimp only at e
  split at e
  · rename_i kvs
    cases e
    refine ⟨W, Γ, vs, ts, _, _, c, e1, fun v H1 c1 => .inr ?_⟩
    obtain ⟨O, c1⟩ := c1
    obtain ⟨a, ws, rfl, oa, ha, pd⟩ := c1.top
    refine ⟨a, ws, rfl, ha, fun od => q _ _ ?_⟩
    have w := Ev.write (o := .frz od (.dK ws)) c1.dom oa
    have ev : Ev (· = .tmp ts.length) O H1 (retag O (.tmp ts.length) none) (upd H1 a (.frz od (.dK ws))) := w.trans (Ev.retag (by simp) w.dom)
    have c2 := c1.pop.ev ev (by simp) (by simp) (fun k z => by injection z with z; omega)
    exact ⟨_, c2.push (v := .ref a) (t := .md (.dat (.dict (pairsD kvs)))) (.dct upd_same (retag_of oa) (pd.kp ev.k).frz)⟩
  · cases e
end
end Fx

end

/-! Fx25: tuples times whole numbers, also none, once, less -/
noncomputable section
namespace Fx
open PySem PySem.Spec PyProof.Rows L2

theorem tmul_same (l : Addr) (items : Array Value) (n : Nat) (dd : Option Addr) (sl : Array (Option Value)) (x : Int) (u : Tok) (c0 : (decide (x < -(2 ^ 63)) || decide (x ≥ 2 ^ 63)) = false) (c1 : (items.isEmpty || x == 1) = true) :
    Meets (Builtin.«tuple.__mul__» ⟨[.ref l, .int x u], []⟩) (fun _ R s => s.heap.get? l = some { cls := .type "tuple", dict := dd, data := .seq items n, slots := sl } ∧ R (.ok (.ret (.ref l))) s) :=
  .of_wp fun prog w A R s h => by
    obtain ⟨hp, g, d, tk, os⟩ := s
    obtain ⟨hl, h⟩ := h
    have f1 := AutoSeq1.idx_int
    wp_walk using wpAny_loadPart' hl
    repeat (first
      | (refine wpAny_ite_false (decide_eq_false (by rw [c0]; exact Bool.false_ne_true)) ?_; wp_walk using wpAny_loadPart' hl)
      | (refine wpAny_ite_true (decide_eq_true c1) ?_; wp_walk using wpAny_loadPart' hl))
    exact ⟨_, rfl, h⟩
theorem tmul_none (l : Addr) (items : Array Value) (n : Nat) (dd : Option Addr) (sl : Array (Option Value)) (x : Int) (u : Tok) (c0 : (decide (x < -(2 ^ 63)) || decide (x ≥ 2 ^ 63)) = false) (c1 : (items.isEmpty || x == 1) = false) (c2 : (decide (x ≤ 0) || items.isEmpty) = true) :
    Meets (Builtin.«tuple.__mul__» ⟨[.ref l, .int x u], []⟩) (fun _ R s => s.heap.get? l = some { cls := .type "tuple", dict := dd, data := .seq items n, slots := sl } ∧
      R (.ok (.ret (Value.ref s.heap.objs.size))) { s with heap := s.heap.push { cls := Value.type "tuple", data := Data.seq #[] }, toks := s.toks }) :=
  .of_wp fun prog w A R s h => by
    obtain ⟨hp, g, d, tk, os⟩ := s
    obtain ⟨hl, h⟩ := h
    have f1 := AutoSeq1.idx_int
    wp_walk using wpAny_loadPart' hl
    repeat (first
      | (refine wpAny_ite_false (decide_eq_false (by rw [c0]; exact Bool.false_ne_true)) ?_; wp_walk using wpAny_loadPart' hl)
      | (refine wpAny_ite_false (decide_eq_false (by rw [c1]; exact Bool.false_ne_true)) ?_; wp_walk using wpAny_loadPart' hl)
      | (refine wpAny_ite_true (decide_eq_true c2) ?_; wp_walk using wpAny_loadPart' hl))
    exact ⟨_, rfl, h⟩
def rRepS (K : PySem.W.Frag) : R2 := fun x y H Q => ∃ l k xs, x = .ref l ∧ y = .int k ∧ SqT K H l xs ∧ -(2 ^ 63) ≤ k ∧ k < 2 ^ 63 ∧ (xs = [] ∨ k = 1) ∧ Q (.ref l) H
def rRepN (K : PySem.W.Frag) : R2 := fun x y H Q => ∃ l k xs, x = .ref l ∧ y = .int k ∧ SqT K H l xs ∧ -(2 ^ 63) ≤ k ∧ k ≤ 0 ∧ xs ≠ [] ∧ ∀ p, H p = none → Q (.ref p) (upd H p (.tup []))
section
variable {X : Cx}
theorem op_repS : OpR X (binaryOp .Mult) (rRepS X.K) := by
  intro pins s σ H x y v u Q I rx ry h
  obtain ⟨l, k, xs, rfl, rfl, hT, h1, h2, hh, q⟩ := h
  cases rx
  obtain ⟨t, rfl⟩ := ry
  obtain ⟨its, r, ⟨⟨cls, dd, data, sl⟩, ho, hc, n, hd⟩, hs⟩ := I.tuple hT
  simp only at hc hd
  subst hc hd
  have c0 : (decide (k < -(2 ^ 63)) || decide (k ≥ 2 ^ 63)) = false := by
    rw [decide_eq_false (by omega), decide_eq_false (by omega)]
    rfl
  have c1 : (its.toArray.isEmpty || k == 1) = true := by
    rcases hh with rfl | rfl
    · cases r
      rfl
    · simp
  refine wpAny_binaryOp_repeat_ref (T := "tuple") (U := "int") (by decide) ⟨_, ho, rfl⟩ (fun s' => typeIs_int s' k t) noFill_tuple_mul F.fills_int_mul F.slot_int_rmul repeat_tuple F.slot_int_index.lookup
    (call_meets F.slot_int_rmul (typeIs_int s k t) F.entry_int_rmul (F.args_int_rmul_2 _ _) (int_rmul_tuple k t l its.toArray n dd sl)
      ⟨ho, rfl, ⟨_, ho, rfl⟩, call_meets F.slot_tuple_mul ⟨_, ho, rfl⟩ F.entry_tuple_mul (F.args_tuple_mul_2 _ _) (tmul_same l its.toArray n dd sl k t c0 c1) ⟨ho, ?_⟩⟩)
  exact ⟨.ref l, H, I, rfl, q⟩
theorem op_repN : OpR X (binaryOp .Mult) (rRepN X.K) := by
  intro pins s σ H x y v u Q I rx ry h
  obtain ⟨l, k, xs, rfl, rfl, hT, h1, h2, hh, q⟩ := h
  cases rx
  obtain ⟨t, rfl⟩ := ry
  obtain ⟨its, r, ⟨⟨cls, dd, data, sl⟩, ho, hc, n, hd⟩, hs⟩ := I.tuple hT
  simp only at hc hd
  subst hc hd
  have c0 : (decide (k < -(2 ^ 63)) || decide (k ≥ 2 ^ 63)) = false := by
    rw [decide_eq_false (by omega), decide_eq_false (by omega)]
    rfl
  have he : its.toArray.isEmpty = false := by
    cases r with
    | nil => exact absurd rfl hh
    | cons => rfl
  have c1 : (its.toArray.isEmpty || k == 1) = false := by
    rw [he, Bool.false_or]
    exact beq_eq_false_iff_ne.mpr (by omega)
  have c2 : (decide (k ≤ 0) || its.toArray.isEmpty) = true := by
    rw [decide_eq_true h2]
    rfl
  refine wpAny_binaryOp_repeat_ref (T := "tuple") (U := "int") (by decide) ⟨_, ho, rfl⟩ (fun s' => typeIs_int s' k t) noFill_tuple_mul F.fills_int_mul F.slot_int_rmul repeat_tuple F.slot_int_index.lookup
    (call_meets F.slot_int_rmul (typeIs_int s k t) F.entry_int_rmul (F.args_int_rmul_2 _ _) (int_rmul_tuple k t l its.toArray n dd sl)
      ⟨ho, rfl, ⟨_, ho, rfl⟩, call_meets F.slot_tuple_mul ⟨_, ho, rfl⟩ F.entry_tuple_mul (F.args_tuple_mul_2 _ _) (tmul_none l its.toArray n dd sl k t c0 c1 c2) ⟨ho, ?_⟩⟩)
  refine ⟨.ref s.heap.objs.size, _, I.laid (t' := s.toks) (o := .tup []) (fun b ob q => Heap.get?_push_of_some _ q) (Nat.le_refl _) ?_, rfl, q _ (I.hok.fresh (Nat.le_refl _))⟩
  exact ⟨Nat.zero_le _, [], .nil, IsTup.new _ _⟩
def rMulX (K : PySem.W.Frag) : R2 := fun x y H Q => rMulA K x y H Q ∨ (rRepS K x y H Q ∨ rRepN K x y H Q)
theorem op_mulX : OpR X (binaryOp .Mult) (rMulX X.K) := OpR.or op_mulA (OpR.or op_repS op_repN)
end
/-- products, lists and tuples times whole numbers -/
def gMulX (d e : PyData) : Option Res := match d, e with
  | .tuple xs, .int k => @ite _ (-(2 ^ 63) ≤ k ∧ k < 2 ^ 63) (Classical.propDecidable _) (if xs = [] ∨ k = 1 then some (.val (.tuple xs)) else if k ≤ 0 then some (.val (.tuple [])) else gMul (.tuple xs) (.int k)) none
  | d, e => gMul d e
theorem snd_mulX {K : PySem.W.Frag} : Snd2 K (rMulX K) gMulX := by
  intro O H x y d e s Q dom hx hy hg q
  unfold gMulX at hg
  split at hg
  · rename_i ds k
    split at hg
    · rename_i hk
      split at hg
      · rename_i hh
        cases hg
        have hx' := hx
        obtain ⟨a, xs, rfl, ha, fa⟩ := Fz.sqT hx
        have hy' : Fz K O H (.int k) y := hy
        cases hy'
        refine .inr (.inl ⟨a, k, xs, rfl, rfl, ha, hk.1, hk.2, ?_, okv dom q hx'⟩)
        rcases hh with rfl | h
        · exact .inl (by cases fa; rfl)
        · exact .inr h
      · rename_i hh
        split at hg
        · rename_i h0
          cases hg
          obtain ⟨a, xs, rfl, ha, fa⟩ := Fz.sqT hx
          have hy' : Fz K O H (.int k) y := hy
          cases hy'
          refine .inr (.inr ⟨a, k, xs, rfl, rfl, ha, hk.1, h0, fun z => hh (.inl (fa.nil_iff z)), fun p hp => okt dom q hp .nil⟩)
        · exact .inl (snd_mul O H x y _ _ s Q dom hx hy hg q)
    · cases hg
  · exact .inl (snd_mul O H x y _ _ s Q dom hx hy hg q)
end Fx

end

/-! Fx27: repr of tuples that hold {} -/
noncomputable section
namespace Fx
open PySem PySem.Spec PyProof.Rows L2

mutual
/-- no list in it, and no dict but {} -/
def rdD : PyData → Bool
  | .none => true
  | .bool _ => true
  | .int _ => true
  | .str _ => true
  | .tuple ds => rdDs ds
  | .dict [] => true
  | .dict _ => false
  | .list _ => false
def rdDs : List PyData → Bool
  | [] => true
  | d :: ds => rdD d && rdDs ds
end
mutual
inductive Dq (K : PySem.W.Frag) (H : Hp) : PyData → V → Prop
  | non : Dq K H .none .non
  | bl (b : Bool) : Dq K H (.bool b) (.bl b)
  | int (i : Int) : Dq K H (.int i) (.int i)
  | str (x : Str) : Dq K H (.str x) (.str x)
  | tup {a : Addr} {xs : List V} {ds : List PyData} : SqT K H a xs → DqA K H ds xs → Dq K H (.tuple ds) (.ref a)
  | dct {a : Addr} {od : Obj} : H a = some (.frz od (.dK [])) → Dq K H (.dict []) (.ref a)
inductive DqA (K : PySem.W.Frag) (H : Hp) : List PyData → List V → Prop
  | nil : DqA K H [] []
  | cons {d : PyData} {ds : List PyData} {v : V} {vs : List V} : Dq K H d v → DqA K H ds vs → DqA K H (d :: ds) (v :: vs)
end
section
variable {K : PySem.W.Frag} {O : Own} {H : Hp}
mutual
theorem Fz.dq : ∀ (d : PyData) (v : V), Fz K O H d v → rdD d = true → Dq K H d v
  | .none, _, h, _ => by cases h; exact .non
  | .bool b, _, h, _ => by cases h; exact .bl b
  | .int i, _, h, _ => by cases h; exact .int i
  | .str x, _, h, _ => by cases h; exact .str x
  | .list _, _, _, e => by simp [rdD] at e
  | .tuple ds, _, h, e => by
    obtain ⟨a, xs, rfl, hs, ha⟩ := h.sqT
    exact .tup hs (FzA.dq ds _ ha (by simpa [rdD] using e))
  | .dict [], _, h, _ => by
    cases h with
    | dct hr n hd =>
      cases hd
      exact .dct hr
  | .dict (_ :: _), _, _, e => by simp [rdD] at e
theorem FzA.dq : ∀ (ds : List PyData) (vs : List V), FzA K O H ds vs → rdDs ds = true → DqA K H ds vs
  | [], _, h, _ => by cases h; exact .nil
  | d :: ds, _, h, e => by
    cases h with
    | cons h1 h2 =>
      have e' : rdD d = true ∧ rdDs ds = true := by simpa [rdDs] using e
      exact .cons (Fz.dq d _ h1 e'.1) (FzA.dq ds _ h2 e'.2)
end
end
section
variable {X : Cx} {pins : List (Addr × Obj)} {σ : L2.St} {H : Hp} {s : Shared}
theorem empty_dict (I : Inv X pins σ H s) {a : Addr} {od : Obj} (ha : H a = some (.frz od (.dK []))) : Reads s.heap (.ref a) (.dict []) [a] ∧ sysModules ≠ a := by
  obtain ⟨e1, _, hsys, xs, kv, o, es, ep, e2, hc, hd, _, hp, _⟩ := (show ObjOk X.prog X.w H s.heap a (.frz od (.dK [])) from I.hok a _ ha)
  cases kv
  have he' : es.toList = [] := by
    generalize es.toList = l at hp
    cases hp
    rfl
  have rd : Reads s.heap (.ref a) (.dict []) (a :: [] ++ []) := .dict e2 hc.1 hd (by rw [he']; exact .nil) (by rw [he']; exact .nil)
  exact ⟨rd, fun z => by rw [← z] at hsys; simp at hsys⟩
mutual
theorem Dq.reads (I : Inv X pins σ H s) : ∀ (d : PyData) (v : V) (u : Value), Dq X.K H d v → RelV v u → ∃ as, Reads s.heap u d as ∧ sysModules ∉ as
  | .none, _, _, h, r => by
    cases h
    cases r
    exact ⟨_, .none, by simp⟩
  | .bool b, _, _, h, r => by
    cases h
    cases r
    exact ⟨_, .bool b, by simp⟩
  | .int i, _, _, h, r => by
    cases h
    obtain ⟨t, rfl⟩ := r
    exact ⟨_, .int i t, by simp⟩
  | .str x, _, _, h, r => by
    cases h
    obtain ⟨t, rfl⟩ := r
    exact ⟨_, .str x t, by simp⟩
  | .tuple ds, _, _, h, r => by
    cases h with
    | tup hs ha =>
      cases r
      obtain ⟨its, rv, ⟨o, ho, hc, n, hd⟩, _⟩ := I.tuple hs
      obtain ⟨as, hr, hn⟩ := DqA.reads I ds _ its ha rv
      exact ⟨as, .tuple ho hc hd hr, hn⟩
  | .list _, _, _, h, _ => by cases h
  | .dict _, _, _, h, r => by
    cases h with
    | dct hr =>
      cases r
      obtain ⟨h1, h2⟩ := empty_dict I hr
      exact ⟨_, h1, by simpa using h2⟩
theorem DqA.reads (I : Inv X pins σ H s) : ∀ (ds : List PyData) (vs : List V) (us : List Value), DqA X.K H ds vs → Vals vs us → ∃ as, ReadsAll s.heap us ds as ∧ sysModules ∉ as
  | [], _, _, h, r => by
    cases h
    cases r
    exact ⟨_, .nil, by simp⟩
  | d :: ds, _, _, h, r => by
    cases h with
    | cons h1 h2 =>
      cases r with
      | cons r1 r2 =>
        obtain ⟨as, q1, n1⟩ := Dq.reads I d _ _ h1 r1
        obtain ⟨bs, q2, n2⟩ := DqA.reads I ds _ _ h2 r2
        exact ⟨_, .cons q1 q2, by simp [n1, n2]⟩
end
end
def gReprX (ds : List PyData) : Option Res := match gRepr ds with
  | some r => some r
  | none => match ds with
    | [.tuple es] => if rdDs es = true ∧ (PyData.tuple es).showable = true ∧ (PyData.tuple es).depth ≤ 60 ∧ (PyData.tuple es).shown.length ≤ sizeLine then some (.val (.str (PyData.tuple es).shown)) else none
    | _ => none
def rReprX (K : PySem.W.Frag) : List V → Hp → VK → Prop := fun xs H Q => rRepr K xs H Q ∨ ∃ x es, xs = [x] ∧ Dq K H (.tuple es) x ∧ (PyData.tuple es).showable = true ∧ (PyData.tuple es).depth ≤ 60 ∧ (PyData.tuple es).shown.length ≤ sizeLine ∧ Q (.str (PyData.tuple es).shown) H
theorem cr_reprX {X : Cx} (h : X.A.guards = some [] ∧ X.A.units + 66 < cLine) : CallR X (.builtin "repr") (rReprX X.K) := by
  intro pins s σ H xs us Q I r hh
  rcases hh with hh | ⟨x, es, rfl, dq, h1, h2, h3, q⟩
  · exact cr_repr h pins s σ H xs us Q I r hh
  · obtain ⟨u, rfl, ru⟩ := vals1 r
    obtain ⟨as, rd, nm⟩ := Dq.reads I _ _ _ dq ru
    cases dq with
    | tup hs ha =>
      cases ru
      refine repr_of_reads' rd h1 (fun _ => nm) h.1 (by have := h.2; omega) (fun _ _ e => e) (fun h' v tk hk => ?_) h3
      exact ⟨.str _, H, I.kept hk, ⟨_, rfl⟩, q⟩
theorem snd_reprX {K : PySem.W.Frag} : SndN K (rReprX K) gReprX := by
  intro O H xs ds s Q dom hx hg q
  unfold gReprX at hg
  split at hg
  · rename_i r hr
    cases hg
    exact .inl (snd_repr O H xs ds _ Q dom hx hr q)
  · split at hg
    · rename_i es _
      split at hg
      · rename_i hh
        cases hg
        obtain ⟨x, rfl, h⟩ := hx.one
        have h' : Fz K O H (.tuple es) x := h
        exact .inr ⟨x, es, rfl, Fz.dq _ _ h' (by simpa [rdD] using hh.1), hh.2.1, hh.2.2.1, hh.2.2.2, okv dom q (.str _)⟩
      · cases hg
    · cases hg
end Fx

end

/-! Fx28: items of a list as targets, written dicts that nobody changes -/
noncomputable section
namespace Fx
open PySem PySem.Spec PyProof.Rows L2

section
variable {X : Cx} {np : Nat} {pos : Pos} {fi : FE}
/-- a slot's list at a place -/
def gIxS (i : Nat) (fi : FE) : FG := fun d Γ => (lstS Γ i).bind fun _ => (fi Γ).bind fun p => (intT p.1).bind fun k => (lstS p.2 i).bind fun xs => (ixN xs.length k).map fun j => p.2.set i (some (.lst (xs.set j d)))
theorem fg_ix (i : Nat) {x : Str} {px ps : Pos} {ix : Expr} (hi' : FX X np ix fi) (hN : X.N[i]? = some x := by rfl) (hv : Vis X.env.scope x := by first | exact Or.inl rfl | exact Or.inr (Or.inl rfl) | exact Or.inr (Or.inr rfl)) (hd : (x == ("__debug__" : Str)) = false := by decide) (hcd : (x == ("__classdict__" : Str)) = false := by decide)
    (h0 : ∀ v, assign (.Subscript (.Name x px) ix ps) X.env v = (do
      let ov ← holding [v] (eval (.Name x px) X.env)
      let iv ← holding [v, ov] (eval ix X.env)
      standAt ps
      holding [v, ov, iv] (setItem ov iv v)
      release [v, ov, iv] []) := by intro _; rfl) : FGX X np [] (.Subscript (.Name x px) ix ps) (gIxS i fi) := by
  refine PG.weak (pg_sub (pe_var hN hv hd hcd) hi' set_list h0) fun v σ H Q h => ?_
  obtain ⟨W, Γ, vs, ts, d, Γ', c, e, q⟩ := h
  obtain ⟨xs0, g0, e⟩ := Option.bind_eq_some_iff.mp e
  obtain ⟨⟨t2, Γ2⟩, g3, e⟩ := Option.bind_eq_some_iff.mp e
  obtain ⟨k, g4, e⟩ := Option.bind_eq_some_iff.mp e
  obtain ⟨xs, g5, e⟩ := Option.bind_eq_some_iff.mp e
  obtain ⟨j, g6, e⟩ := Option.map_eq_some_iff.mp e
  cases e
  have h2' : t2 = .md (.dat (.int k)) := intT_to g4
  subst h2'
  obtain ⟨O1, c1⟩ := c
  obtain ⟨a, _, hv0, _, _, _⟩ := c1.lstAt (lstS_to g0)
  refine ⟨.ref a, hv0, W, Γ, v :: vs, _ :: ts, _, Γ2, ⟨O1, c1⟩, g3, fun z H2 c2 => ?_⟩
  obtain ⟨O2, c2⟩ := c2
  obtain ⟨a', ws, ev, oa, ha, fa⟩ := c2.lstAt (lstS_to g5)
  rw [hv0] at ev
  cases ev
  have rz : Fz X.K O2 H2 (.int k) z := c2.top
  cases rz
  refine ⟨a, ws, k, j, rfl, rfl, ha, by rw [← fa.length]; exact g6, ?_⟩
  exact q σ _ ⟨O2, (c2.pop.pop.relist (ws := ws) (lstS_to g5) hv0 oa (fa.set c2.pop.top j))⟩ (.refl _ _)
/-- {k: v} -/
def fDOne (fk fv : FE) : FE := fun Γ => (fk Γ).bind fun p => (frz p.1).bind fun kd => (kOf kd).bind fun k => (fv p.2).bind fun p2 => (frz p2.1).map fun d => (.md (.dcK [(k, d)]), p2.2)
theorem fx_dOne {k v : Expr} {fk fv : FE} (hk : FX X np k fk) (hv : FX X np v fv) : FX X np (.Dict [some k] [v] pos) (fDOne fk fv) := by
  refine PE.weak (pe_disp (pps_cons hk hv pps_nil) rfl rfl (by simp) (by simp)) fun σ H Q h => ?_
  obtain ⟨W, Γ, vs, ts, t, Γ', ⟨O, c⟩, e, q⟩ := h
  obtain ⟨⟨t1, Γ1⟩, e1, e⟩ := Option.bind_eq_some_iff.mp e
  obtain ⟨kd, e2, e⟩ := Option.bind_eq_some_iff.mp e
  obtain ⟨k, e3, e⟩ := Option.bind_eq_some_iff.mp e
  obtain ⟨⟨t2, Γ2⟩, e4, e⟩ := Option.bind_eq_some_iff.mp e
  obtain ⟨d, e5, e⟩ := Option.map_eq_some_iff.mp e
  cases e
  have h1 : t1 = .md (.dat kd) := frz_to e2
  have h2 : t2 = .md (.dat d) := frz_to e5
  subst h1 h2
  have h3 := kOf_to e3
  subst h3
  intro p hp
  have n := Ev.newOwn (o := .dK []) (t := .tmp ts.length) (by simp) c.dom hp
  have c0 := (c.ev0 n).push (v := .ref p) (t := .md (.dcK [])) ⟨p, [], rfl, put_same, upd_same, .nil⟩
  refine ⟨W, Γ, _, _, _, Γ1, ⟨_, c0⟩, e1, fun x H1 c1 => ?_⟩
  refine ⟨W, Γ1, _, _, _, Γ2, c1, e4, fun y H2 c2 => ?_⟩
  obtain ⟨O2, c2⟩ := c2
  obtain ⟨a, ws, ea, oa, ha, pd⟩ := c2.pop.pop.top
  cases ea
  cases pd
  have rx : Fz X.K O2 H2 (kD k) x := c2.pop.top
  have ry : Fz X.K O2 H2 d y := c2.top
  refine ⟨ha, [(k, y)], ?_, by simp, ?_⟩
  · show [(x, y)] = [(kV k, y)]
    rw [kD_fz rx]
  · have w := Ev.write (o := .dK [(k, y)]) c2.dom oa
    have c3 := c2.pop.pop.pop.ev w (by simp) (by simp) (fun k z => by injection z with z; omega)
    exact q _ _ ⟨_, c3.push (v := .ref p) (t := .md (.dcK [(k, d)])) ⟨p, _, rfl, oa, upd_same, .cons ⟨rfl, ry.kp w.k⟩ .nil⟩⟩
theorem lookup_relabelFC {env : Env} : ∀ {names : List (Str × NameKind)} {x : Str}, (names.lookup x = some .cell ∨ names.lookup x = some .free) →
    ((names.map fun (n, k) => if (k == NameKind.free && env.scope.kind == .function && env.kindOf n == some .cell) then (n, NameKind.cell) else (n, k)).lookup x = some .cell ∨ (names.map fun (n, k) => if (k == NameKind.free && env.scope.kind == .function && env.kindOf n == some .cell) then (n, NameKind.cell) else (n, k)).lookup x = some .free)
  | [], _, h => by simp at h
  | (n, k) :: r, x, h => by
    have ih := @lookup_relabelFC env r x
    show List.lookup x ((if (k == NameKind.free && env.scope.kind == .function && env.kindOf n == some .cell) = true then (n, NameKind.cell) else (n, k)) :: _) = _ ∨ List.lookup x ((if (k == NameKind.free && env.scope.kind == .function && env.kindOf n == some .cell) = true then (n, NameKind.cell) else (n, k)) :: _) = _
    cases hx : x == n with
    | true =>
      simp only [List.lookup_cons, hx] at h
      by_cases hc : (k == NameKind.free && env.scope.kind == .function && env.kindOf n == some .cell) = true
      · rw [if_pos hc]; simp [List.lookup_cons, hx]
      · rw [if_neg hc]; simp only [List.lookup_cons, hx]; exact h
    | false =>
      simp only [List.lookup_cons, hx] at h
      by_cases hc : (k == NameKind.free && env.scope.kind == .function && env.kindOf n == some .cell) = true
      · rw [if_pos hc]; simp only [List.lookup_cons, hx]; exact ih h
      · rw [if_neg hc]; simp only [List.lookup_cons, hx]; exact ih h
theorem blk_in {X : Cx} {s : Shared} {H : Hp} {scope0 scope : Scope} {cl : List (Str × Addr)} {C : Addr} {fp : List Addr} {e : Env} {own : List (Str × Nat)} {N : List Str} (hN : X.N = N) (h : blkC N scope0 scope own = true) :
    BlkOk (X.blk s H scope0 (compEnvC scope0 cl C e) fp).N (X.blk s H scope0 (compEnvC scope0 cl C e) fp).env.scope scope own := by
  have h2 := blkOk_by h
  rw [← hN] at h2
  exact ⟨h2.kind, h2.uniq, h2.ix, fun y hy k => lookup_relabelFC (h2.free y hy k), h2.own⟩
end
end Fx

end

/-! Fx29: a slot hidden while something else is reckoned; lists of owned lists: x[i][j] = v, x[i][j], x[i].append(v), made by a comprehension -/
noncomputable section
namespace Fx
open PySem PySem.Spec PyProof.Rows L2

section
variable {K : PySem.W.Frag} {np : Nat} {W : Wd} {O O' : Own} {σ σ' : L2.St} {H H' : Hp} {Γ Γ' : Gm} {vs vs' : List V} {ts ts' : List TV}
/-- objects whose tags lie outside J are as they were -/
def Sm (J : Tag → Prop) (O : Own) (H : Hp) (O' : Own) (H' : Hp) : Prop := ∀ b o, H b = some o → (∀ t, O b = some t → ¬ J t) → H' b = some o ∧ O' b = O b
theorem Sm.k {J : Tag → Prop} (a : Sm J O H O' H') : Kp O H O' H' := fun b o h n => by
  obtain ⟨h1, e1⟩ := a b o h fun t q => by rw [n] at q; cases q
  exact ⟨h1, e1.trans n⟩
theorem Sm.own {J : Tag → Prop} (a : Sm J O H O' H') {b : Addr} {o : HO} {t : Tag} (h : H b = some o) (q : O b = some t) (n : ¬ J t) : H' b = some o ∧ O' b = some t := by
  obtain ⟨h1, e1⟩ := a b o h fun t' q' => by rw [q] at q'; cases q'; exact n
  exact ⟨h1, e1.trans q⟩
theorem MR.sm {J : Tag → Prop} (a : Sm J O H O' H') {t : Tag} (n : ¬ J t) : ∀ {m : MD} {v : V}, MR K O H t m v → MR K O' H' t m v
  | .dat d, v, h => Fz.kp a.k _ _ h
  | .lst xs, v, h => by
    obtain ⟨b, vs, e, q, h1, h2⟩ := h
    exact ⟨b, vs, e, (a.own h1 q n).2, (a.own h1 q n).1, FzA.kp a.k _ _ h2⟩
  | .lls xss, v, h => by
    obtain ⟨b, as, vss, e, q, h0, h1, h2, h3, h4⟩ := h
    exact ⟨b, as, vss, e, (a.own h2 q n).2, h0, h1, (a.own h2 q n).1, Paired.mapP h3 fun c vs z => ⟨(a.own z.2 z.1 n).2, (a.own z.2 z.1 n).1⟩, Paired.mapP h4 fun xs vs z => FzA.kp a.k _ _ z⟩
  | .bag c b m, v, h => by
    obtain ⟨x, y, e, ne, q1, q2, h1, h2⟩ := h
    exact ⟨x, y, e, ne, (a.own h1 q1 n).2, (a.own h2 q2 n).2, (a.own h1 q1 n).1, (a.own h2 q2 n).1⟩
  | .dcK kvs, v, h => by
    obtain ⟨b, ws, e, q, h1, h2⟩ := h
    exact ⟨b, ws, e, (a.own h1 q n).2, (a.own h1 q n).1, h2.kp a.k⟩
  | .dcT kvs, v, h => by
    obtain ⟨b, ws, e, q, h1, h2⟩ := h
    exact ⟨b, ws, e, (a.own h1 q n).2, (a.own h1 q n).1, h2.kp a.k⟩
  | .scr ns, v, h => by
    obtain ⟨b, e, h1 | h1⟩ := h
    · exact ⟨b, e, .inl (a.k.rd h1.1 h1.2)⟩
    · exact ⟨b, e, .inr h1⟩
/-- no temporary names the slot s -/
def offS (s : Nat) : List TV → Prop
  | [] => True
  | .al i :: ts => i ≠ s ∧ offS s ts
  | .md _ :: ts => offS s ts
theorem offS_tsd (s : Nat) : ∀ ds : List PyData, offS s (tsd ds)
  | [] => True.intro
  | _ :: ds => offS_tsd s ds
theorem noAl_off {s : Nat} : ∀ {ts : List TV}, noAl ts = true → offS s ts
  | [], _ => True.intro
  | .al _ :: _, h => by cases h
  | .md _ :: ts, h => noAl_off (ts := ts) h
theorem Tm.sm {J : Tag → Prop} (a : Sm J O H O' H') {s : Nat} {x : Option MD} (hJ : ∀ k, ¬ J (.tmp k)) : ∀ {vs : List V} {ts : List TV}, offS s ts → Tm K O H σ Γ vs ts → Tm K O' H' σ (Γ.set s x) vs ts
  | [], [], _, _ => True.intro
  | v :: vs, .md m :: ts, n, h => ⟨MR.sm a (hJ _) h.1, Tm.sm a hJ (vs := vs) (ts := ts) n h.2⟩
  | v :: vs, .al i :: ts, n, h => by
    refine ⟨?_, Tm.sm a hJ (vs := vs) (ts := ts) n.2 h.2⟩
    obtain ⟨e, m, e1, e2⟩ := h.1
    exact ⟨e, m, by rw [List.getElem?_set_ne n.1.symm]; exact e1, e2⟩
  | [], _ :: _, _, h => h.elim
  | _ :: _, [], _, h => h.elim
/-- what the slot s owns is nobody's to touch -/
def hid (O : Own) (s : Nat) : Own := retag O (.slot s) (some .out)
theorem hid_sm (s : Nat) : Sm (· = .slot s) O H (hid O s) H := fun b o h n => ⟨h, retag_ne fun q => n _ q rfl⟩
theorem hid_dom {s : Nat} (dom : ∀ b t, O b = some t → H b ≠ none) : ∀ b t, hid O s b = some t → H b ≠ none := fun b t h => by
  by_cases q : O b = some (.slot s)
  · exact dom b _ q
  · unfold hid at h; rw [retag_ne q] at h; exact dom b _ h
theorem Cf.hide {s : Nat} (c : Cf K np W O σ H Γ vs ts) (hs : np ≤ s) (na : offS s ts) : Cf K np (W.at (hid O s) H) (hid O s) σ H (Γ.set s none) vs ts where
  dom := hid_dom c.dom
  sl := fun i m e => by
    by_cases is : s = i
    · subst is
      by_cases hl : s < Γ.length
      · rw [List.getElem?_set_self hl] at e; cases e
      · rw [List.getElem?_eq_none (by rw [List.length_set]; omega)] at e; cases e
    · rw [List.getElem?_set_ne is] at e
      obtain ⟨v, e1, r⟩ := c.sl i m e
      exact ⟨v, e1, r.sm (hid_sm s) (by simpa using fun z => is z.symm)⟩
  tm := Tm.sm (hid_sm s) (by simp) na c.tm
  keep := fun b o h n => by
    refine ⟨h, ?_⟩
    unfold Wd.at at n ⊢
    dsimp only at n ⊢
    split
    · rename_i k e
      rw [e] at n
      exact absurd rfl (n 0)
    · rfl
  out := fun b h => by
    unfold Wd.at
    simp only [h]
  wt := fun b k h => by
    unfold Wd.at at h
    dsimp only at h
    split at h
    · cases h
    · rename_i x hx
      exact hx k h
  arg := fun i m hi e ho => by
    rw [List.getElem?_set_ne (by omega)] at e
    exact c.arg i m hi e ho
  len := by rw [List.length_set]; exact c.len
/-- the tags as they were -/
def unhid (O : Own) (s : Nat) (O' : Own) : Own := fun b => if O b = some (.slot s) then some (.slot s) else O' b
theorem unhid_at {s : Nat} {b : Addr} (h : O b = some (.slot s)) : unhid O s O' b = some (.slot s) := by simp [unhid, h]
theorem unhid_ne {s : Nat} {b : Addr} (h : O b ≠ some (.slot s)) : unhid O s O' b = O' b := by simp [unhid, h]
theorem Cf.hidAt {s : Nat} (c' : Cf K np (W.at (hid O s) H) O' σ' H' Γ' vs' ts') {b : Addr} {o : HO} (h : H b = some o) (q : O b = some (.slot s)) : H' b = some o ∧ O' b = some .out := by
  have e : hid O s b = some .out := retag_of q
  have e2 : (W.at (hid O s) H).O b = some .out := by unfold Wd.at; simp only [e]
  obtain ⟨h1, h2⟩ := c'.keep b o h fun k z => by rw [e2] at z; cases z
  exact ⟨h1, h2.trans e2⟩
theorem unhid_sm {s : Nat} (hd : ∀ b, O b = some (.slot s) → O' b = some .out) : Sm (· = .out) O' H' (unhid O s O') H' := fun b o h n => by
  refine ⟨h, unhid_ne fun q => ?_⟩
  exact n _ (hd b q) rfl
theorem Cf.hidSm {s : Nat} (c : Cf K np W O σ H Γ vs ts) (c' : Cf K np (W.at (hid O s) H) O' σ' H' Γ' vs' ts') : Sm (fun t => t ≠ .slot s) O H (unhid O s O') H' := fun b o h n => by
  by_cases q : O b = some (.slot s)
  · exact ⟨(c'.hidAt h q).1, by rw [unhid_at q, q]⟩
  · have e : O b = none := by
      cases z : O b with
      | none => rfl
      | some t => exact absurd (fun y => q (by rw [z, y])) (n t z)
    have e1 : hid O s b = none := by unfold hid; rw [retag_ne q]; exact e
    obtain ⟨h1, h2⟩ := c'.kpAt b o h e1
    exact ⟨h1, by rw [unhid_ne q, h2, e]⟩
theorem Cf.unhide {s : Nat} {m : MD} {v : V} (c : Cf K np W O σ H Γ vs ts) (hs : np ≤ s) (hv : σ[s]? = some (some v)) (r : MR K O H (.slot s) m v) (c' : Cf K np (W.at (hid O s) H) O' σ' H' Γ' vs' ts') (hv' : σ'[s]? = some (some v)) (hx : Γ'[s]? = some none) (na : offS s ts') :
    Cf K np W (unhid O s O') σ' H' (Γ'.set s (some m)) vs' ts' where
  dom := fun b t h => by
    by_cases q : O b = some (.slot s)
    · cases z : H b with
      | none => exact absurd z (c.dom b _ q)
      | some o => rw [(c'.hidAt z q).1]; simp
    · rw [unhid_ne q] at h; exact c'.dom b _ h
  sl := fun i m' e => by
    by_cases is : s = i
    · subst is
      have hl : s < Γ'.length := (List.getElem?_eq_some_iff.mp hx).1
      rw [List.getElem?_set_self hl] at e
      cases e
      exact ⟨v, hv', r.sm (c.hidSm c') (by simp)⟩
    · rw [List.getElem?_set_ne is] at e
      obtain ⟨w, e1, r1⟩ := c'.sl i m' e
      exact ⟨w, e1, r1.sm (unhid_sm fun b q => by
        cases z : H b with
        | none => exact absurd z (c.dom b _ q)
        | some o => exact (c'.hidAt z q).2) (by simp)⟩
  tm := Tm.sm (unhid_sm fun b q => by
    cases z : H b with
    | none => exact absurd z (c.dom b _ q)
    | some o => exact (c'.hidAt z q).2) (by simp) na c'.tm
  keep := fun b o h n => by
    obtain ⟨h1, e1⟩ := c.keep b o h n
    have q : O b ≠ some (.slot s) := fun z => n s (e1.symm.trans z)
    have e2 : hid O s b = O b := retag_ne q
    have e3 : (W.at (hid O s) H).O b = O b := by
      unfold Wd.at
      simp only [e2]
      split
      · rename_i k e
        exact absurd (e1.symm.trans e) (c.wt b k)
      · rfl
    obtain ⟨h2, e4⟩ := c'.keep b o h1 fun k => by rw [e3, e1]; exact n k
    exact ⟨h2, by rw [unhid_ne q, e4, e3, e1]⟩
  out := fun b h => by
    by_cases q : O b = some (.slot s)
    · rw [unhid_at q] at h; cases h
    · rw [unhid_ne q] at h
      have h1 := c'.out b h
      have e2 : hid O s b = O b := retag_ne q
      unfold Wd.at at h1
      simp only [e2] at h1
      split at h1
      · cases h1
      · exact c.out b h1
  wt := c.wt
  arg := fun i m' hi e ho => by
    rw [List.getElem?_set_ne (by omega)] at e
    exact c'.arg i m' hi e ho
  len := by rw [List.length_set]; exact c'.len
theorem offS_of {s : Nat} (hx : Γ[s]? = some none) : ∀ {vs : List V} {ts : List TV}, Tm K O H σ Γ vs ts → offS s ts
  | [], [], _ => True.intro
  | v :: vs, .md m :: ts, h => offS_of hx (vs := vs) (ts := ts) h.2
  | v :: vs, .al i :: ts, h => by
    refine ⟨?_, offS_of hx (vs := vs) (ts := ts) h.2⟩
    obtain ⟨e, m, e1, e2⟩ := h.1
    rintro rfl
    rw [hx] at e1; cases e1
  | [], _ :: _, h => h.elim
  | _ :: _, [], h => h.elim

/-! ### a slot's list of lists -/
def llsS (Γ : Gm) (i : Nat) : Option (List (List PyData)) := match Γ[i]? with
  | some (some (.lls xss)) => some xss
  | _ => none
theorem llsS_to {i : Nat} {xss : List (List PyData)} (e : llsS Γ i = some xss) : Γ[i]? = some (some (.lls xss)) := by
  unfold llsS at e
  split at e
  · rename_i h
    cases e
    exact h
  · cases e
def isFree (Γ : Gm) (s : Nat) : Option Unit := match Γ[s]? with
  | some none => some ()
  | _ => none
theorem isFree_to {s : Nat} {u : Unit} (e : isFree Γ s = some u) : Γ[s]? = some none := by
  unfold isFree at e
  split at e
  · rename_i h; exact h
  · cases e
theorem Cf.llsAt {i : Nat} {xss : List (List PyData)} (c : Cf K np W O σ H Γ vs ts) (hi : Γ[i]? = some (some (.lls xss))) : ∃ a as vss, σ[i]? = some (some (.ref a)) ∧ O a = some (.slot i) ∧ a ∉ as ∧ as.Nodup ∧ H a = some (.lst (as.map .ref)) ∧
    Paired (fun b vs => O b = some (.slot i) ∧ H b = some (.lst vs)) as vss ∧ Paired (fun xs vs => FzA K O H xs vs) xss vss := by
  obtain ⟨v, e, a, as, vss, rfl, q⟩ := c.sl i _ hi
  exact ⟨a, as, vss, e, q⟩
theorem Pd.len {α β : Type} {R : α → β → Prop} {as : List α} {bs : List β} (h : Paired R as bs) : as.length = bs.length := by
  induction h with
  | nil => rfl
  | cons _ _ ih => simp [ih]
theorem Pd.get {α β : Type} {R : α → β → Prop} {as : List α} {bs : List β} (h : Paired R as bs) {k : Nat} {a : α} (e : as[k]? = some a) : ∃ b, bs[k]? = some b ∧ R a b := by
  induction h generalizing k with
  | nil => simp at e
  | cons r _ ih =>
    cases k with
    | zero =>
      simp at e
      subst e
      exact ⟨_, rfl, r⟩
    | succ k =>
      obtain ⟨b, e1, r1⟩ := ih (k := k) (by simpa using e)
      exact ⟨b, by simpa using e1, r1⟩
theorem Pd.set {α β : Type} {R S : α → β → Prop} {as : List α} {bs : List β} (h : Paired R as bs) {k : Nat} {a : α} {b : β} (hs : S a b) (o : ∀ (i : Nat) (x : α) (y : β), i ≠ k → as[i]? = some x → R x y → S x y) : Paired S (as.set k a) (bs.set k b) := by
  induction h generalizing k with
  | nil => exact .nil
  | cons r t ih =>
    cases k with
    | zero =>
      refine .cons hs ?_
      have : ∀ {as' : List α} {bs' : List β}, Paired R as' bs' → (∀ (i : Nat) (x : α) (y : β), as'[i]? = some x → R x y → S x y) → Paired S as' bs' := by
        intro as' bs' h'
        induction h' with
        | nil => intro _; exact .nil
        | cons r' _ ih' =>
          intro o'
          exact .cons (o' 0 _ _ rfl r') (ih' fun i x y e q => o' (i + 1) x y (by simpa using e) q)
      exact this t fun i x y e q => o (i + 1) x y (by omega) (by simpa using e) q
    | succ k => exact .cons (o 0 _ _ (by omega) rfl r) (ih fun i x y ne e q => o (i + 1) x y (by omega) (by simpa using e) q)
theorem nd_ne {α : Type} {as : List α} (h : as.Nodup) {i k : Nat} {x y : α} (e : as[i]? = some x) (e' : as[k]? = some y) (ne : i ≠ k) : x ≠ y := by
  induction as generalizing i k with
  | nil => simp at e
  | cons a as ih =>
    rw [List.nodup_cons] at h
    cases i with
    | zero =>
      cases k with
      | zero => exact absurd rfl ne
      | succ k =>
        simp at e e'
        subst e
        exact fun z => h.1 (by rw [z]; exact List.mem_of_getElem? e')
    | succ i =>
      cases k with
      | zero =>
        simp at e e'
        subst e'
        exact fun z => h.1 (by rw [← z]; exact List.mem_of_getElem? e)
      | succ k => exact ih h.2 (by simpa using e) (by simpa using e') (by omega)
/-- one of the lists gets other items -/
theorem Cf.rellist {i k : Nat} {xss : List (List PyData)} {ys : List PyData} {a p : Addr} {as : List Addr} {vss : List (List V)} {us : List V} (c : Cf K np W O σ H Γ vs ts) (hi : Γ[i]? = some (some (.lls xss))) (ev : σ[i]? = some (some (.ref p)))
    (op : O p = some (.slot i)) (h0 : p ∉ as) (h1 : as.Nodup) (h2 : H p = some (.lst (as.map .ref))) (h3 : Paired (fun b vs => O b = some (.slot i) ∧ H b = some (.lst vs)) as vss) (h4 : Paired (fun xs vs => FzA K O H xs vs) xss vss)
    (ha : as[k]? = some a) (fa : FzA K O H ys us) : Cf K np W O σ (upd H a (.lst us)) (Γ.set i (some (.lls (xss.set k ys)))) vs ts := by
  obtain ⟨_, _, oa, _⟩ := Pd.get h3 ha
  have w := Ev.write (o := .lst us) c.dom oa
  have pa : p ≠ a := fun z => h0 (by rw [z]; exact List.mem_of_getElem? ha)
  refine c.mutS hi rfl w ev ⟨p, as, vss.set k us, rfl, op, h0, h1, by rw [upd_ne pa]; exact h2, ?_, ?_⟩ rfl
  · have : as.set k a = as := by
      apply List.ext_getElem?
      intro j
      by_cases e : k = j
      · subst e
        rw [List.getElem?_set_self (List.getElem?_eq_some_iff.mp ha).1, ha]
      · rw [List.getElem?_set_ne e]
    rw [← this]
    exact Pd.set h3 ⟨oa, upd_same⟩ fun j x y ne e q => ⟨q.1, by rw [upd_ne (nd_ne h1 e ha ne)]; exact q.2⟩
  · exact Pd.set h4 (FzA.kp w.k _ _ fa) fun j x y ne e q => FzA.kp w.k _ _ q
end

section
variable {X : Cx} {np : Nat} {pos : Pos} {e : Expr} {f fv fi fj : FE}
/-- where x[i] is walked to, and j is reckoned behind it: the list of lists is hidden -/
def at2 (s : Nat) (fi fj : FE) (Γ : Gm) : Option ((List (List PyData) × Nat × List PyData × Nat) × Gm) := (llsS Γ s).bind fun _ => (fi Γ).bind fun p2 => (intT p2.1).bind fun k => (llsS p2.2 s).bind fun xss => (ixN xss.length k).bind fun kk => (xss[kk]?).bind fun xs =>
  (fj (p2.2.set s none)).bind fun p3 => (intT p3.1).bind fun j => (isFree p3.2 s).bind fun _ => (ixN xs.length j).map fun jj => ((xss, kk, xs, jj), p3.2)
def fPut2 (s : Nat) (fv fi fj : FE) : FS := fun Γ => (fv Γ).bind fun p => (frz p.1).bind fun d => (at2 s fi fj p.2).map fun q => .nx (q.2.set s (some (.lls (q.1.1.set q.1.2.1 (q.1.2.2.1.set q.1.2.2.2 d)))))
/-- the walk to x[i], then j -/
theorem at2_go {s : Nat} (hnp : np ≤ s) {σ : L2.St} {H : Hp} {W : Wd} {O : Own} {Γ Γ' : Gm} {vs : List V} {ts : List TV} (c : Cf X.K np W O σ H Γ vs ts) (na : offS s ts) {xss : List (List PyData)} {kk jj : Nat} {xs : List PyData} (e : at2 s fi fj Γ = some ((xss, kk, xs, jj), Γ')) {R : V → V → Hp → Prop}
    (q : ∀ (a p : Addr) (as : List Addr) (vss : List (List V)) (ws : List V) (j : Int) (O3 : Own) (H3 : Hp), Cf X.K np W O3 σ H3 (Γ'.set s (some (.lls xss))) vs ts → σ[s]? = some (some (.ref p)) → O3 p = some (.slot s) → p ∉ as → as.Nodup → H3 p = some (.lst (as.map .ref)) → Paired (fun b vs => O3 b = some (.slot s) ∧ H3 b = some (.lst vs)) as vss → Paired (fun xs vs => FzA X.K O3 H3 xs vs) xss vss →
      as[kk]? = some a → H3 a = some (.lst ws) → FzA X.K O3 H3 xs ws → (Γ'.set s (some (.lls xss)))[s]? = some (some (.lls xss)) → ixN ws.length j = some jj → R (.ref a) (.int j) H3) :
    ∃ v, σ[s]? = some (some v) ∧ up X.K np fi σ H fun z H2 => rIxA X.K v z H2 fun o H3 => up X.K np fj σ H3 fun i H4 => R o i H4 := by
  obtain ⟨xss0, g0, e⟩ := Option.bind_eq_some_iff.mp e
  obtain ⟨⟨t2, Γ2⟩, g1, e⟩ := Option.bind_eq_some_iff.mp e
  obtain ⟨k, g2, e⟩ := Option.bind_eq_some_iff.mp e
  obtain ⟨xss1, g3, e⟩ := Option.bind_eq_some_iff.mp e
  obtain ⟨kk1, g4, e⟩ := Option.bind_eq_some_iff.mp e
  obtain ⟨xs1, g5, e⟩ := Option.bind_eq_some_iff.mp e
  obtain ⟨⟨t3, Γ3⟩, g6, e⟩ := Option.bind_eq_some_iff.mp e
  obtain ⟨j, g7, e⟩ := Option.bind_eq_some_iff.mp e
  obtain ⟨u, g8, e⟩ := Option.bind_eq_some_iff.mp e
  obtain ⟨jj1, g9, e⟩ := Option.map_eq_some_iff.mp e
  cases e
  have h2 : t2 = .md (.dat (.int k)) := intT_to g2
  subst h2
  have h3 : t3 = .md (.dat (.int j)) := intT_to g7
  subst h3
  obtain ⟨p, _, _, hv0, _⟩ := c.llsAt (llsS_to g0)
  refine ⟨.ref p, hv0, W, Γ, vs, ts, _, Γ2, ⟨O, c⟩, g1, fun z H2 c2 => ?_⟩
  obtain ⟨O2, c2⟩ := c2
  have rz : Fz X.K O2 H2 (.int k) z := c2.top
  cases rz
  obtain ⟨p', as, vss, hv1, op, h0, h1, hp, h3, h4⟩ := c2.pop.llsAt (llsS_to g3)
  rw [hv0] at hv1
  cases hv1
  have l1 := Pd.len h3
  have l2 := Pd.len h4
  obtain ⟨ws, hw, fa⟩ := Pd.get h4 g5
  have hk : kk < as.length := by have := (List.getElem?_eq_some_iff.mp hw).1; omega
  have ha : as[kk]? = some as[kk] := List.getElem?_eq_getElem hk
  generalize as[kk] = a at ha
  have hat : atI (as.map V.ref) k = some (.ref a) := by
    unfold atI
    rw [List.length_map, ← (by omega : xss.length = as.length), g4, Option.bind_some, List.getElem?_map, ha]
    rfl
  obtain ⟨ws2, hw2, oa, haH⟩ := Pd.get h3 ha
  rw [hw] at hw2
  cases hw2
  refine .inl ⟨p, _, k, .ref a, rfl, rfl, .of hp, hat, ?_⟩
  refine ⟨_, Γ2.set s none, vs, ts, _, _, ⟨_, c2.pop.hide hnp na⟩, g6, fun w H3 c4 => ?_⟩
  obtain ⟨O4, c4⟩ := c4
  have rw' : Fz X.K O4 H3 (.int j) w := c4.top
  cases rw'
  have hx := isFree_to g8
  have sm := c2.pop.hidSm c4.pop
  have c5 := c2.pop.unhide hnp hv0 (m := .lls xss) (v := .ref p) ⟨p, as, vss, rfl, op, h0, h1, hp, h3, h4⟩ c4.pop hv0 hx (offS_of hx c4.pop.tm)
  have hl := (List.getElem?_eq_some_iff.mp hx).1
  exact q a p as vss ws j _ H3 c5 hv0 (sm.own hp op (by simp)).2 h0 h1 (sm.own hp op (by simp)).1 (Paired.mapP h3 fun b vs z => ⟨(sm.own z.2 z.1 (by simp)).2, (sm.own z.2 z.1 (by simp)).1⟩) (Paired.mapP h4 fun xs vs z => FzA.kp sm.k _ _ z)
    ha (sm.own haH oa (by simp)).1 (FzA.kp sm.k _ _ fa) (List.getElem?_set_self hl) (by rw [← fa.length]; exact g9)
theorem fs_put2 (s : Nat) {x : Str} {px pi ps : Pos} {v i j : Expr} (hnp : np ≤ s) (hv' : FX X np v fv) (hi' : FX X np i fi) (hj' : FX X np j fj) (hN : X.N[s]? = some x := by rfl) (hv : Vis X.env.scope x := by first | exact Or.inl rfl | exact Or.inr (Or.inl rfl) | exact Or.inr (Or.inr rfl)) (hd : (x == ("__debug__" : Str)) = false := by decide) (hcd : (x == ("__classdict__" : Str)) = false := by decide)
    (hsi : PlainIx i := by intro _ _; rfl)
    (h0 : ∀ v, assign (.Subscript (.Subscript (.Name x px) i pi) j ps) X.env v = (do
      let ov ← holding [v] (eval (.Subscript (.Name x px) i pi) X.env)
      let iv ← holding [v, ov] (eval j X.env)
      standAt ps
      holding [v, ov, iv] (setItem ov iv v)
      release [v, ov, iv] []) := by intro _; rfl)
    (hs : swapsWithSole [.Subscript (.Subscript (.Name x px) i pi) j ps] v pos.line X.env = pure false := by rfl) (hw : swappedStores [.Subscript (.Subscript (.Name x px) i pi) j ps] v X.env = pure none := by rfl) (h1 : (assignEach [.Subscript (.Subscript (.Name x px) i pi) j ps] X.env).map (·.2) = [assign (.Subscript (.Subscript (.Name x px) i pi) j ps) X.env] := by rfl) :
    FSX X np (.Assign [.Subscript (.Subscript (.Name x px) i pi) j ps] v pos) (fPut2 s fv fi fj) := by
  refine PS.weak (ps_asg hv' (pg_sub (pe_ix ix_any (pe_var hN hv hd hcd) hi' hsi) hj' set_list h0) hs hw h1) fun D σ H h => ?_
  obtain ⟨W, Γ, vs, ds, o, c, e, q⟩ := h
  obtain ⟨⟨t1, Γ1⟩, g1, e⟩ := Option.bind_eq_some_iff.mp e
  obtain ⟨d, g2, e⟩ := Option.bind_eq_some_iff.mp e
  obtain ⟨⟨⟨xss, kk, xs, jj⟩, Γ2⟩, g3, e⟩ := Option.map_eq_some_iff.mp e
  cases e
  have h1' : t1 = .md (.dat d) := frz_to g2
  subst h1'
  refine ⟨W, Γ, vs, tsd ds, _, Γ1, c, g1, fun y H1 c1 => ?_⟩
  obtain ⟨O1, c1⟩ := c1
  refine at2_go (R := fun o i H4 => L2.rSetL o i y H4 fun H5 => D.nx σ H5) hnp c1 (ts := .md (.dat d) :: tsd ds) (offS_tsd s (d :: ds)) g3 fun a p as vss ws j O3 H3 c3 hv0 op h0 h1 hp h3 h4 ha haH fa hx hj => ?_
  refine ⟨a, ws, j, jj, rfl, rfl, haH, hj, ?_⟩
  have ry : Fz X.K O3 H3 d y := c3.top
  have c4 := c3.pop.rellist hx hv0 op h0 h1 hp h3 h4 ha (fa.set ry jj)
  rw [List.set_set] at c4
  exact q σ _ ⟨_, c4⟩
/-! ### pure whole numbers -/
abbrev FP := Gm → Option Int
def pSee (K : PySem.W.Frag) (σ : L2.St) (Γ : Gm) : Prop := ∀ (i : Nat) (k : Int), Γ[i]? = some (some (.dat (.int k))) → σ[i]? = some (some (.int k))
def upP (K : PySem.W.Frag) (f : FP) : TE := fun σ H Q => ∃ Γ i, pSee K σ Γ ∧ f Γ = some i ∧ Q (.int i) H
def FPX (X : Cx) (e : Expr) (f : FP) : Prop := PE X e (upP X.K f)
theorem Cf.pSee {K : PySem.W.Frag} {W : Wd} {O : Own} {σ : L2.St} {H : Hp} {Γ : Gm} {vs : List V} {ts : List TV} (c : Cf K np W O σ H Γ vs ts) : pSee K σ Γ := fun i k e => by
  obtain ⟨v, e1, r⟩ := c.sl i _ e
  have r' : Fz K O H (.int k) v := r
  cases r'
  exact e1
def pVar (i : Nat) : FP := fun Γ => match Γ[i]? with
  | some (some (.dat (.int k))) => some k
  | _ => none
theorem fp_var (i : Nat) {x : Str} (hN : X.N[i]? = some x := by rfl) (hv : Vis X.env.scope x := by first | exact Or.inl rfl | exact Or.inr (Or.inl rfl) | exact Or.inr (Or.inr rfl)) (hd : (x == ("__debug__" : Str)) = false := by decide)
    (hcd : (x == ("__classdict__" : Str)) = false := by decide) : FPX X (.Name x pos) (pVar i) := by
  refine PE.weak (pe_var hN hv hd hcd) fun σ H Q h => ?_
  obtain ⟨Γ, k, s, e, q⟩ := h
  unfold pVar at e
  split at e
  · rename_i k' h
    cases e
    exact ⟨_, s i _ h, q⟩
  · cases e
def pC (k : Int) : FP := fun _ => some k
theorem fp_int {i : Int} {j} : FPX X (.Constant (.int i) j pos) (pC i) := by
  refine PE.weak pe_int fun σ H Q h => ?_
  obtain ⟨Γ, k, s, e, q⟩ := h
  cases e
  exact q
def pAdd (f g : FP) : FP := fun Γ => (f Γ).bind fun i => (g Γ).map fun j => i + j
def pSub (f g : FP) : FP := fun Γ => (f Γ).bind fun i => (g Γ).map fun j => i - j
theorem fp_add {a b : Expr} {f g : FP} (ha : FPX X a f) (hb : FPX X b g) : FPX X (.BinOp a .Add b pos) (pAdd f g) := by
  refine PE.weak (pe_add ha hb) fun σ H Q h => ?_
  obtain ⟨Γ, k, s, e, q⟩ := h
  obtain ⟨i, e1, e⟩ := Option.bind_eq_some_iff.mp e
  obtain ⟨j, e2, e⟩ := Option.map_eq_some_iff.mp e
  cases e
  exact ⟨Γ, i, s, e1, Γ, j, s, e2, i, j, rfl, rfl, q⟩
theorem fp_sub {a b : Expr} {f g : FP} (ha : FPX X a f) (hb : FPX X b g) : FPX X (.BinOp a .Sub b pos) (pSub f g) := by
  refine PE.weak (pe_sub ha hb) fun σ H Q h => ?_
  obtain ⟨Γ, k, s, e, q⟩ := h
  obtain ⟨i, e1, e⟩ := Option.bind_eq_some_iff.mp e
  obtain ⟨j, e2, e⟩ := Option.map_eq_some_iff.mp e
  cases e
  exact ⟨Γ, i, s, e1, Γ, j, s, e2, i, j, rfl, rfl, q⟩
/-- x[i][j], x a slot's list of lists -/
def rowP (s : Nat) (fi : FP) (Γ : Gm) : Option (List (List PyData) × Nat × List PyData) := (llsS Γ s).bind fun xss => (fi Γ).bind fun k => (ixN xss.length k).bind fun kk => (xss[kk]?).map fun xs => (xss, kk, xs)
theorem rowP_at {K : PySem.W.Frag} {W : Wd} {O : Own} {σ : L2.St} {H : Hp} {Γ : Gm} {vs : List V} {ts : List TV} {s : Nat} {fi : FP} (c : Cf K np W O σ H Γ vs ts) {xss : List (List PyData)} {kk : Nat} {xs : List PyData} (e : rowP s fi Γ = some (xss, kk, xs)) :
    ∃ (k : Int) (p a : Addr) (as : List Addr) (vss : List (List V)) (ws : List V), Γ[s]? = some (some (.lls xss)) ∧ fi Γ = some k ∧ σ[s]? = some (some (.ref p)) ∧ O p = some (.slot s) ∧ p ∉ as ∧ as.Nodup ∧ H p = some (.lst (as.map .ref)) ∧ Paired (fun b vs => O b = some (.slot s) ∧ H b = some (.lst vs)) as vss ∧ Paired (fun xs vs => FzA K O H xs vs) xss vss ∧
      as[kk]? = some a ∧ H a = some (.lst ws) ∧ FzA K O H xs ws ∧ atI (as.map V.ref) k = some (.ref a) ∧ O a = some (.slot s) := by
  obtain ⟨xss0, g0, e⟩ := Option.bind_eq_some_iff.mp e
  obtain ⟨k, g2, e⟩ := Option.bind_eq_some_iff.mp e
  obtain ⟨kk1, g4, e⟩ := Option.bind_eq_some_iff.mp e
  obtain ⟨xs1, g5, e⟩ := Option.map_eq_some_iff.mp e
  cases e
  obtain ⟨p, as, vss, hv0, op, h0, h1, hp, h3, h4⟩ := c.llsAt (llsS_to g0)
  have l1 := Pd.len h3
  have l2 := Pd.len h4
  obtain ⟨ws, hw, fa⟩ := Pd.get h4 g5
  have hk : kk < as.length := by have := (List.getElem?_eq_some_iff.mp hw).1; omega
  have ha : as[kk]? = some as[kk] := List.getElem?_eq_getElem hk
  generalize as[kk] = a at ha
  obtain ⟨ws2, hw2, oa, haH⟩ := Pd.get h3 ha
  rw [hw] at hw2
  cases hw2
  refine ⟨k, p, a, as, vss, ws, llsS_to g0, g2, hv0, op, h0, h1, hp, h3, h4, ha, haH, fa, ?_, oa⟩
  unfold atI
  rw [List.length_map, ← (by omega : xss.length = as.length), g4, Option.bind_some, List.getElem?_map, ha]
  rfl
def fIx2 (s : Nat) (fi fj : FP) : FE := fun Γ => (rowP s fi Γ).bind fun q => (fj Γ).bind fun j => (atI q.2.2 j).map fun d => (.md (.dat d), Γ)
theorem fx_ix2 (s : Nat) {x : Str} {px pi : Pos} {i j : Expr} {fi fj : FP} (hi' : FPX X i fi) (hj' : FPX X j fj) (hN : X.N[s]? = some x := by rfl) (hv : Vis X.env.scope x := by first | exact Or.inl rfl | exact Or.inr (Or.inl rfl) | exact Or.inr (Or.inr rfl)) (hd : (x == ("__debug__" : Str)) = false := by decide) (hcd : (x == ("__classdict__" : Str)) = false := by decide)
    (hsi : PlainIx i := by intro _ _; rfl) (hsj : PlainIx j := by intro _ _; rfl) : FX X np (.Subscript (.Subscript (.Name x px) i pi) j pos) (fIx2 s fi fj) := by
  refine PE.weak (pe_ix ix_any (pe_ix ix_any (pe_var hN hv hd hcd) hi' hsi) hj' hsj) fun σ H Q h => ?_
  obtain ⟨W, Γ, vs, ts, t, Γ', ⟨O, c⟩, e, q⟩ := h
  obtain ⟨⟨xss, kk, xs⟩, g3, e⟩ := Option.bind_eq_some_iff.mp e
  obtain ⟨j, g4, e⟩ := Option.bind_eq_some_iff.mp e
  obtain ⟨d, g5, e⟩ := Option.map_eq_some_iff.mp e
  cases e
  obtain ⟨k, p, a, as, vss, ws, _, ek, hv0, _, _, _, hp, _, _, _, ha, fa, hat, _⟩ := rowP_at c g3
  obtain ⟨v, hv2, rv⟩ := fa.at g5
  exact ⟨.ref p, hv0, _, k, c.pSee, ek, .inl ⟨p, _, k, .ref a, rfl, rfl, .of hp, hat, _, j, c.pSee, g4, .inl ⟨a, ws, j, v, rfl, rfl, .of ha, hv2, q _ _ ⟨_, c.push (t := .md (.dat d)) rv⟩⟩⟩⟩
/-- x[i].append(v), as a statement -/
def fApp2 (s : Nat) (fi : FP) (f : FE) : FS := fun Γ => (rowP s fi Γ).bind fun q => (f (Γ.set s none)).bind fun p => (frz p.1).bind fun d => (isFree p.2 s).bind fun _ => if q.2.2.length < sizeLine then some (.nx (p.2.set s (some (.lls (q.1.set q.2.1 (q.2.2 ++ [d])))))) else none
theorem fs_app2 (s : Nat) {x : Str} {px pi pa pc : Pos} {i e : Expr} {fi : FP} {f : FE} (hnp : np ≤ s) (hi' : FPX X i fi) (he : FX X np e f) (hN : X.N[s]? = some x := by rfl) (hv : Vis X.env.scope x := by first | exact Or.inl rfl | exact Or.inr (Or.inl rfl) | exact Or.inr (Or.inr rfl)) (hd : (x == ("__debug__" : Str)) = false := by decide) (hcd : (x == ("__classdict__" : Str)) = false := by decide)
    (hsi : PlainIx i := by intro _ _; rfl)
    (hs : starEach [e] X.env = (false, eval e X.env) :: starEach [] X.env := by rfl) (h1 : attributeBase (.Subscript (.Name x px) i pi) "append" X.env (eval (.Subscript (.Name x px) i pi) X.env) = eval (.Subscript (.Name x px) i pi) X.env := by rfl)
    (h2 : ((backTo pc (starEach [e] X.env)).all (fun x => !x.1) && (backToKw pc (keywordEach [] X.env)).all (fun x => x.1.isSome) && decide ([e].length + ([] : List Keyword).length + (if ([] : List Keyword).isEmpty then 0 else 1) < 30)) = true := by rfl)
    (h3 : (pa.endLine == pc.line) = true := by rfl) (h4 : (backTo pc (starEach [] X.env)).any (·.1) = false := by rfl) : FSX X np (.Expr (.Call (.Attribute (.Subscript (.Name x px) i pi) "append" pa) [e] [] pc) pos) (fApp2 s fi f) := by
  refine PS.weak (ps_expr (pe_bm PySem.F.plainAttrs_list PySem.F.slot_list_append PySem.F.type_list_append mt_append (pe_ix ix_any (pe_var hN hv hd hcd) hi' hsi) (pa_cons he pa_nil hs) h1 h2 h3 hs h4)) fun D σ H h => ?_
  obtain ⟨W, Γ, vs, ds, o, ⟨O, c⟩, e, q⟩ := h
  obtain ⟨⟨xss, kk, xs⟩, g3, e⟩ := Option.bind_eq_some_iff.mp e
  obtain ⟨⟨t1, Γ1⟩, g4, e⟩ := Option.bind_eq_some_iff.mp e
  obtain ⟨d, g5, e⟩ := Option.bind_eq_some_iff.mp e
  obtain ⟨u, g6, e⟩ := Option.bind_eq_some_iff.mp e
  dsimp only at e
  split at e
  · rename_i hl
    cases e
    have h1' : t1 = .md (.dat d) := frz_to g5
    subst h1'
    obtain ⟨k, p, a, as, vss, ws, _, ek, hv0, op, h0, hnd, hp, hp3, hp4, ha, haH, fa, hat, oa⟩ := rowP_at c g3
    refine ⟨.ref p, hv0, _, k, c.pSee, ek, .inl ⟨p, _, k, .ref a, rfl, rfl, .of hp, hat, ?_⟩⟩
    refine .inl ⟨rfl, ws, .of haH⟩ |> fun z => ⟨z, ?_⟩
    refine ⟨_, Γ.set s none, vs, tsd ds, _, _, ⟨_, c.hide hnp (offS_tsd s ds)⟩, g4, fun y H1 c1 => ?_⟩
    obtain ⟨O1, c1⟩ := c1
    have hx := isFree_to g6
    have sm := c.hidSm c1
    have c2 := c.unhide hnp hv0 (m := .lls xss) (v := .ref p) ⟨p, as, vss, rfl, op, h0, hnd, hp, hp3, hp4⟩ c1 hv0 hx (offS_of hx c1.tm)
    have hxl := (List.getElem?_eq_some_iff.mp hx).1
    refine ⟨a, ws, y, rfl, rfl, (sm.own haH oa (by simp)).1, by rw [← fa.length]; exact hl, ?_⟩
    have ry := c2.top
    have c3 := c2.pop.rellist (List.getElem?_set_self hxl) hv0 (sm.own hp op (by simp)).2 h0 hnd (sm.own hp op (by simp)).1 (Paired.mapP hp3 fun b vs z => ⟨(sm.own z.2 z.1 (by simp)).2, (sm.own z.2 z.1 (by simp)).1⟩) (Paired.mapP hp4 fun xs vs z => FzA.kp sm.k _ _ z) ha ((FzA.kp sm.k _ _ fa).append (.cons ry .nil))
    rw [List.set_set] at c3
    exact q σ _ ⟨_, c3⟩
  · cases e
end
end Fx

end

/-! Fx30: a list of owned lists, made by a comprehension -/
noncomputable section
namespace Fx
open PySem PySem.Spec PyProof.Rows L2

theorem Pd.snoc {α β : Type} {R : α → β → Prop} {as : List α} {bs : List β} (h : Paired R as bs) {a : α} {b : β} (r : R a b) : Paired R (as ++ [a]) (bs ++ [b]) := by
  induction h with
  | nil => exact .cons r .nil
  | cons s _ ih => exact .cons s ih
def lstT : TV → Option (List PyData)
  | .md (.lst xs) => some xs
  | _ => none
theorem lstT_to {t : TV} {xs : List PyData} (e : lstT t = some xs) : t = .md (.lst xs) := by
  unfold lstT at e
  split at e
  · cases e; rfl
  · cases e
def loopLL (tg : FG) (tt : FT) (fe : FE) (own : List Nat) : List PyData → List (List PyData) → Gm → Option (List (List PyData) × Gm)
  | [], acc, Γ => some (acc, Γ)
  | d :: r, acc, Γ => (tg d Γ).bind fun Γ1 => (tt Γ1).bind fun p => if p.1 = true then (fe p.2).bind fun q => (lstT q.1).bind fun y => if acc.length < sizeLine ∧ noOwn q.2 own = true then loopLL tg tt fe own r (acc ++ [y]) (fgt q.2 own) else none
    else if noOwn p.2 own = true then loopLL tg tt fe own r acc (fgt p.2 own) else none
def fLcL (fi : FI) (tg : FG) (tt : FT) (fe : FE) (own : List Nat) : FE := fun Γ => (fi Γ).bind fun p => if noOwn p.2 own = true then (loopLL tg tt fe own p.1 [] (fgt p.2 own)).map fun q => (.md (.lls q.1), fgt q.2 own) else none
section
variable {X : Cx} {np : Nat} {pos : Pos} {is : List Nat}
theorem Cf.pushIn {K : PySem.W.Frag} {W : Wd} {O : Own} {σ : L2.St} {H : Hp} {Γ : Gm} {vs : List V} {ts : List TV} {D : Addr} {y : V} {yd : List PyData} {acc : List (List PyData)} (c : Cf K np W O σ H Γ (y :: .ref D :: vs) (.md (.lst yd) :: .md (.lls acc) :: ts)) :
    ∃ ws, H D = some (.lst ws) ∧ ws.length = acc.length ∧ ∃ O', Cf K np W O' σ (upd H D (.lst (ws ++ [y]))) Γ (.ref D :: vs) (.md (.lls (acc ++ [yd])) :: ts) := by
  obtain ⟨b, us, rfl, ob, hb, fb⟩ := c.top
  obtain ⟨D', as, vss, ed, oD, h0, h1, h2, h3, h4⟩ := c.pop.top
  cases ed
  have a : Ev (· = .tmp (ts.length + 1)) O H (retag O (.tmp (ts.length + 1)) (some (.tmp ts.length))) H := Ev.retag (by simp) c.dom
  have c1 := c.pop.ev a (by simp) (by simp) (fun k z => by injection z with z; simp; omega)
  have ob' : retag O (.tmp (ts.length + 1)) (some (.tmp ts.length)) b = some (.tmp ts.length) := retag_of ob
  have oD' : retag O (.tmp (ts.length + 1)) (some (.tmp ts.length)) D = some (.tmp ts.length) := by rw [retag_ne (by rw [oD]; simp)]; exact oD
  have nb : b ≠ D := fun z => by
    have o1 : O b = some (.tmp (ts.length + 1)) := ob
    rw [z, oD] at o1
    simp at o1
  have nbs : b ∉ as := fun z => by
    obtain ⟨k, hk, e⟩ := List.getElem_of_mem z
    obtain ⟨_, _, o1, _⟩ := Pd.get h3 (List.getElem?_eq_getElem hk)
    rw [e] at o1
    have o2 : O b = some (.tmp (ts.length + 1)) := ob
    rw [o2] at o1
    simp at o1
  refine ⟨as.map .ref, h2, by rw [List.length_map, Pd.len h3, Pd.len h4], ?_⟩
  have w := Ev.write (o := .lst (as.map V.ref ++ [.ref b])) c1.dom oD'
  have c2 := c1.pop.ev w (by simp) (by simp) (fun k z => by injection z with z; omega)
  have kk : Kp O H (retag O (.tmp (ts.length + 1)) (some (.tmp ts.length))) (upd H D (.lst (as.map V.ref ++ [.ref b]))) := a.k.trans w.k
  refine ⟨_, c2.push (v := .ref D) (t := .md (.lls (acc ++ [yd]))) ⟨D, as ++ [b], vss ++ [us], rfl, oD', ?_, ?_, by rw [List.map_append]; exact upd_same, Pd.snoc ?_ ⟨ob', by rw [upd_ne nb]; exact hb⟩, Pd.snoc (Paired.mapP h4 fun xs vs z => FzA.kp kk _ _ z) (FzA.kp kk _ _ fb)⟩⟩
  · intro z
    rcases List.mem_append.mp z with z | z
    · exact h0 z
    · exact nb (List.mem_singleton.mp z).symm
  · rw [List.nodup_append]
    exact ⟨h1, by simp, fun x hx y hy => by rw [List.mem_singleton.mp hy]; rintro rfl; exact nbs hx⟩
  · have go : ∀ {as' : List Addr} {vss' : List (List V)}, (∀ x ∈ as', x ≠ D) → Paired (fun b vs => O b = some (.tmp ts.length) ∧ H b = some (.lst vs)) as' vss' → Paired (fun x vs => retag O (.tmp (ts.length + 1)) (some (.tmp ts.length)) x = some (.tmp ts.length) ∧ upd H D (.lst (as.map V.ref ++ [.ref b])) x = some (.lst vs)) as' vss' := by
      intro as' vss' hne hp
      induction hp with
      | nil => exact .nil
      | cons r _ ih =>
        refine .cons ⟨?_, ?_⟩ (ih fun x hx => hne x (List.mem_cons_of_mem _ hx))
        · rw [retag_ne (by rw [r.1]; simp)]; exact r.1
        · rw [upd_ne (hne _ List.mem_cons_self)]; exact r.2
    exact go (fun x hx => by rintro rfl; exact h0 hx) h3
theorem lcL_read {fi : FI} {g : FG} {tt : FT} {fe : FE} {own : List Nat} (hsub : ∀ i ∈ is, i ∈ own) {σ : L2.St} {H : Hp} {Q : VK} (h : up X.K np (fLcL fi g tt fe own) σ H Q) :
    tLc (upI X.K np fi) (upG X.K np is g) (upT X.K np tt) (up X.K np fe) own σ H Q := by
  obtain ⟨W, Γ, vs, ts, t, Γ', c, e, q⟩ := h
  obtain ⟨⟨items, Γ1⟩, e1, e⟩ := Option.bind_eq_some_iff.mp e
  dsimp only at e
  split at e
  · rename_i hno
    obtain ⟨⟨out, Γ9⟩, e9, ex⟩ := Option.map_eq_some_iff.mp e
    cases ex
    have hw : ∀ j, j ∉ own → (L2.wipe σ own)[j]? = σ[j]? := fun j hj => wipe_at hj
    refine ⟨W, Γ, vs, ts, items, Γ1, c, e1, fun J O1 H1 c1 itf D hD => ?_⟩
    refine ⟨fun i m H => i + m = items.length ∧ ∃ acc Γi, Cfg X.K np (W.at O1 H1) (L2.wipe σ own) H Γi (.ref D :: vs) (.md (.lls acc) :: ts) ∧ (∀ j, j ∈ own → ownAt Γi j = false) ∧ loopLL g tt fe own (items.drop i) acc Γi = some (out, Γ9), ⟨items.length, by simp, [], fgt Γ1 own, ?_, ownAt_fgt, e9⟩, ?_⟩
    · have a := Ev.newOwn (o := .lst []) (t := .tmp ts.length) (by simp) c1.dom hD
      have c2 := (c1.rebase.ev0 a).push (v := .ref D) (t := .md (.lls [])) ⟨D, [], [], rfl, put_same, by simp, by simp, upd_same, .nil, .nil⟩
      exact ⟨_, c2.inBlk own (L2.wipe_length _ _) hw (noOwn_to hno)⟩
    · rintro i m H ⟨hl, acc, Γi, ⟨O, ci⟩, hoi, ei⟩
      obtain ⟨s1, s2⟩ := itf.step i ci
      cases m with
      | zero =>
        have hi' : items.length ≤ i := by omega
        rw [List.drop_eq_nil_of_le hi'] at ei
        cases ei
        refine .inl ⟨s2 hi', ?_⟩
        have c3 := ci.inBlk (σ' := σ) own (L2.wipe_length _ _).symm (fun j hj => (hw j hj).symm) hoi
        have c4 := c1.unbase c3
        exact q _ H ⟨_, c4⟩
      | succ m =>
        have hi' : i < items.length := by omega
        have ed : items[i]? = some items[i] := List.getElem?_eq_getElem hi'
        obtain ⟨go, y⟩ := s1 _ ed
        rw [List.drop_eq_getElem_cons hi'] at ei
        obtain ⟨Γ2, e2, ei⟩ := Option.bind_eq_some_iff.mp ei
        obtain ⟨⟨b, Γ3⟩, e3, ei⟩ := Option.bind_eq_some_iff.mp ei
        refine .inr ⟨go, fun H => ∃ acc Γi, Cfg X.K np (W.at O1 H1) (L2.wipe σ own) H Γi (.ref D :: vs) (.md (.lls acc) :: ts) ∧ (∀ j, j ∈ own → ownAt Γi j = false) ∧ loopLL g tt fe own (items.drop (i + 1)) acc Γi = some (out, Γ9), fun H' w => ⟨m, Nat.lt_succ_self _, by omega, w⟩, fun x H2 hy => ?_⟩
        refine ⟨W.at O1 H1, Γi, _, _, _, Γ2, y x H2 hy, e2, fun σ3 H3 c3 off => ?_⟩
        have hoff : ∀ j, j ∉ own → (L2.wipe σ own)[j]? = σ3[j]? := fun j hj => (off.2 j fun z => hj (hsub j z)).symm
        have hlen : (L2.wipe σ own).length = σ3.length := off.1.symm
        refine ⟨by rw [wipe_ext (σ := L2.wipe σ own) hlen.symm fun j hj => (hoff j hj).symm, wipe_wipe], ?_⟩
        refine ⟨W.at O1 H1, Γ2, _, _, b, Γ3, c3, e3, fun H4 c4 => ?_⟩
        cases b with
        | false =>
          refine iteF ?_
          dsimp only at ei
          rw [if_neg (by simp)] at ei
          split at ei
          · rename_i hno3
            obtain ⟨O4, c4⟩ := c4
            exact ⟨acc, fgt Γ3 own, ⟨O4, c4.inBlk own hlen hoff (noOwn_to hno3)⟩, ownAt_fgt, ei⟩
          · cases ei
        | true =>
          dsimp only at ei
          rw [if_pos rfl] at ei
          obtain ⟨⟨t5, Γ5⟩, e5, ei⟩ := Option.bind_eq_some_iff.mp ei
          obtain ⟨yd, e6, ek⟩ := Option.bind_eq_some_iff.mp ei
          clear ei
          dsimp only at ek
          split at ek
          · rename_i hno5
            refine iteT ⟨W.at O1 H1, Γ3, _, _, t5, Γ5, c4, e5, fun y H5 c5 => ?_⟩
            obtain ⟨O5, c5⟩ := c5
            have e6' : t5 = .md (.lst yd) := lstT_to e6
            subst e6'
            obtain ⟨ws, ha, hwl, O6, c6⟩ := c5.pushIn
            exact ⟨ws, ha, by rw [hwl]; exact hno5.1, acc ++ [yd], fgt Γ5 own, ⟨_, c6.inBlk own hlen hoff (noOwn_to hno5.2)⟩, ownAt_fgt, ek⟩
          · cases ek
  · cases e
theorem fx_lcL {elt tg iter : Expr} {ifs : List Expr} {scope : Scope} {own : List (Str × Nat)} {fi : FI} {g : FG} {tt : FT} {fe : FE} (hc : X.calm = true) (hN : X.N.Nodup) (hi : FIX X np tg iter fi) (ok : BlkOk X.N X.env.scope scope own)
    (hg : ∀ (s : Shared) (H : Hp) (C : Addr) (cl : List (Str × Addr)) (fp : List Addr), FGX (X.blk s H scope (compEnvC scope cl C X.env) fp) np is tg g) (ht : ∀ (s : Shared) (H : Hp) (C : Addr) (cl : List (Str × Addr)) (fp : List Addr), FTsX (X.blk s H scope (compEnvC scope cl C X.env) fp) np ifs tt)
    (he : ∀ (s : Shared) (H : Hp) (C : Addr) (cl : List (Str × Addr)) (fp : List Addr), FX (X.blk s H scope (compEnvC scope cl C X.env) fp) np elt fe) (hsub : ∀ i ∈ is, i ∈ own.map (·.2) := by decide) (hs : ∀ x, foldedSetIterable iter X.env x = pure x := by intro _; rfl) :
    FX X np (.ListComp elt [⟨tg, iter, ifs, 0⟩] scope pos) (fLcL fi g tt fe (own.map (·.2))) :=
  PE.weak (pe_lc (g := upG X.K np is g) (tt := upT X.K np tt) (te := up X.K np fe) hc hN hi ok hg ht he hs) fun _ _ _ h => lcL_read hsub h
theorem fs_setLcL {i : Nat} {y : Str} {py : Pos} {elt tg iter : Expr} {ifs : List Expr} {scope : Scope} {own : List (Str × Nat)} {spos : Pos} {fi : FI} {g : FG} {tt : FT} {fe : FE} (hc : X.calm = true) (hN : X.N.Nodup) (hyl : X.env.scope.names.lookup y = some .local)
    (hsw : swapsWith (.ListComp elt [⟨tg, iter, ifs, 0⟩] scope pos) (some (.Name y py)) spos.line X.env = pure true) (hi : FIX X np tg iter fi) (ok : BlkOk X.N X.env.scope scope own)
    (hg : ∀ (s : Shared) (H : Hp) (C : Addr) (cl : List (Str × Addr)) (fp : List Addr), FGX (X.blk s H scope (compEnvC scope cl C X.env) fp) np is tg g) (ht : ∀ (s : Shared) (H : Hp) (C : Addr) (cl : List (Str × Addr)) (fp : List Addr), FTsX (X.blk s H scope (compEnvC scope cl C X.env) fp) np ifs tt)
    (he : ∀ (s : Shared) (H : Hp) (C : Addr) (cl : List (Str × Addr)) (fp : List Addr), FX (X.blk s H scope (compEnvC scope cl C X.env) fp) np elt fe) (hy : X.N[i]? = some y := by rfl) (hsub : ∀ i ∈ is, i ∈ own.map (·.2) := by decide) (hs : ∀ x, foldedSetIterable iter X.env x = pure x := by intro _; rfl) :
    FSX X np (.Assign [.Name y py] (.ListComp elt [⟨tg, iter, ifs, 0⟩] scope pos) spos) (fSet np i (fLcL fi g tt fe (own.map (·.2)))) := by
  refine PS.weak (ps_setLc (g := upG X.K np is g) (tt := upT X.K np tt) (te := up X.K np fe) hc hN hy hyl hsw hi ok hg ht he hs) fun D σ H h => ?_
  obtain ⟨W, Γ, vs, ds, o, c, e, q⟩ := h
  obtain ⟨⟨t, Γ1⟩, e1, e⟩ := Option.bind_eq_some_iff.mp e
  refine lcL_read (np := np) hsub ⟨W, Γ, vs, tsd ds, t, Γ1, c, e1, fun v H1 c1 => ?_⟩
  obtain ⟨O, c1⟩ := c1
  cases t with
  | md m =>
    dsimp only at e
    split at e
    · cases e
    · rename_i hm
      cases e
      exact q _ _ (c1.store hm)
  | al j => cases e
end
end Fx

end

/-! Fx31: two names of one list within a list of lists: row = x[i]; for j in range(i, m): item, twin = (.., x[j]); row[j] = item; twin[i] = item -/
noncomputable section
namespace Fx
open PySem PySem.Spec PyProof.Rows L2

section
variable {K : PySem.W.Frag} {np : Nat} {W : Wd} {O O' : Own} {σ σ' : L2.St} {H H' : Hp} {Γ Γ' : Gm} {vs vs' : List V} {ts ts' : List TV}
/-- a slot of which nothing is known may hold anything -/
theorem Tm.free {k : Nat} {x : Option V} (hx : Γ[k]? = some none) : ∀ {vs : List V} {ts : List TV}, Tm K O H σ Γ vs ts → Tm K O H (σ.set k x) Γ vs ts
  | [], [], _ => True.intro
  | v :: vs, .md m :: ts, h => ⟨h.1, Tm.free hx (vs := vs) (ts := ts) h.2⟩
  | v :: vs, .al i :: ts, h => by
    refine ⟨?_, Tm.free hx (vs := vs) (ts := ts) h.2⟩
    obtain ⟨e, m, e1, e2⟩ := h.1
    have ne : k ≠ i := by rintro rfl; rw [hx] at e1; cases e1
    exact ⟨by rw [List.getElem?_set_ne ne]; exact e, m, e1, e2⟩
  | [], _ :: _, h => h.elim
  | _ :: _, [], h => h.elim
theorem Cf.free {k : Nat} {x : Option V} (c : Cf K np W O σ H Γ vs ts) (hx : Γ[k]? = some none) : Cf K np W O (σ.set k x) H Γ vs ts where
  dom := c.dom
  sl := fun i m e => by
    obtain ⟨v, e1, r⟩ := c.sl i m e
    have ne : k ≠ i := by rintro rfl; rw [hx] at e; cases e
    exact ⟨v, by rw [List.getElem?_set_ne ne]; exact e1, r⟩
  tm := Tm.free hx c.tm
  keep := c.keep
  out := c.out
  wt := c.wt
  arg := fun i m hi e ho => by
    have ne : k ≠ i := by rintro rfl; rw [hx] at e; cases e
    rw [List.getElem?_set_ne ne]
    exact c.arg i m hi e ho
  len := by rw [List.length_set]; exact c.len
/-- the slot r holds the list at the place iv of the slot s -/
def AL (s r : Nat) (iv : Int) (σ : L2.St) (H : Hp) : Prop := ∃ (p a : Addr) (ws : List V), σ[s]? = some (some (.ref p)) ∧ H p = some (.lst ws) ∧ atI ws iv = some (.ref a) ∧ σ[r]? = some (some (.ref a))
def alStep (s i j it tw : Nat) (iv : Int) (fe : FE) : Gm → Option Gm := fun Γ => (llsS Γ s).bind fun xss => (fe (Γ.set s none)).bind fun p => (frz p.1).bind fun d => (isFree p.2 s).bind fun _ => (isFree p.2 tw).bind fun _ => (pVar j p.2).bind fun jv =>
  (ixN xss.length iv).bind fun ii => (ixN xss.length jv).bind fun jj => (xss[ii]?).bind fun xs => (ixN xs.length jv).bind fun j2 => ((xss.set ii (xs.set j2 d))[jj]?).bind fun ys => (ixN ys.length iv).bind fun i2 =>
    if ownAt p.2 it = true ∨ pVar i p.2 ≠ some iv ∨ p.2.length ≤ it then none else some ((p.2.set s (some (.lls ((xss.set ii (xs.set j2 d)).set jj (ys.set i2 d))))).set it (some (.dat d)))
end
section
variable {X : Cx} {np : Nat} {pos : Pos} {e : Expr}
def upAl (K : PySem.W.Frag) (np s r i j it tw : Nat) (iv : Int) (fe : FE) : TS := fun D σ H => ∃ W Γ vs ds Γ', Cfg K np W σ H Γ vs (tsd ds) ∧ AL s r iv σ H ∧ Γ[r]? = some none ∧ alStep s i j it tw iv fe Γ = some Γ' ∧ ∀ σ' H', Cfg K np W σ' H' Γ' vs (tsd ds) → AL s r iv σ' H' → D.nx σ' H'
theorem fs_alBody {s r i j it tw : Nat} {iv : Int} {x y ni nj nit ntw : Str} {p1 p2 p3 p4 p5 p6 p7 p8 p9 p10 p11 p12 p13 : Pos} {k1 k2} {fe : FE} (hc : X.calm = true) (hN : X.N.Nodup) (hnp : np ≤ s) (he : FX X np e fe)
    (h1 : X.N[s]? = some x := by rfl) (h2 : X.N[r]? = some y := by rfl) (h3 : X.N[i]? = some ni := by rfl) (h4 : X.N[j]? = some nj := by rfl) (h5 : X.N[it]? = some nit := by rfl) (h6 : X.N[tw]? = some ntw := by rfl)
    (d1 : it ≠ tw := by decide) (d2 : s ≠ it := by decide) (d3 : s ≠ tw := by decide) (d4 : r ≠ it := by decide) (d5 : r ≠ tw := by decide) (d6 : i ≠ it := by decide) (d7 : i ≠ tw := by decide) (d8 : j ≠ it := by decide) (d9 : j ≠ tw := by decide)
    (v1 : Vis X.env.scope x := by first | exact Or.inl rfl | exact Or.inr (Or.inl rfl) | exact Or.inr (Or.inr rfl)) (v2 : Vis X.env.scope y := by first | exact Or.inl rfl | exact Or.inr (Or.inl rfl) | exact Or.inr (Or.inr rfl)) (v3 : Vis X.env.scope ni := by first | exact Or.inl rfl | exact Or.inr (Or.inl rfl) | exact Or.inr (Or.inr rfl))
    (v4 : Vis X.env.scope nj := by first | exact Or.inl rfl | exact Or.inr (Or.inl rfl) | exact Or.inr (Or.inr rfl)) (v5 : Vis X.env.scope nit := by first | exact Or.inl rfl | exact Or.inr (Or.inl rfl) | exact Or.inr (Or.inr rfl)) (v6 : Vis X.env.scope ntw := by first | exact Or.inl rfl | exact Or.inr (Or.inl rfl) | exact Or.inr (Or.inr rfl))
    (b1 : (x == ("__debug__" : Str)) = false := by decide) (b2 : (y == ("__debug__" : Str)) = false := by decide) (b3 : (ni == ("__debug__" : Str)) = false := by decide) (b4 : (nj == ("__debug__" : Str)) = false := by decide) (b5 : (nit == ("__debug__" : Str)) = false := by decide) (b6 : (ntw == ("__debug__" : Str)) = false := by decide)
    (c1 : (x == ("__classdict__" : Str)) = false := by decide) (c2 : (y == ("__classdict__" : Str)) = false := by decide) (c3 : (ni == ("__classdict__" : Str)) = false := by decide) (c4 : (nj == ("__classdict__" : Str)) = false := by decide) (c5 : (nit == ("__classdict__" : Str)) = false := by decide) (c6 : (ntw == ("__classdict__" : Str)) = false := by decide)
    (hx : X.env.scope.names.lookup nit = some .local := by rfl) (hy : X.env.scope.names.lookup ntw = some .local := by rfl)
    (n1 : starEach [e, .Subscript (.Name x p1) (.Name nj p2) p3] X.env = (false, eval e X.env) :: starEach [.Subscript (.Name x p1) (.Name nj p2) p3] X.env := by rfl) (n2 : starEach [.Subscript (.Name x p1) (.Name nj p2) p3] X.env = (false, eval (.Subscript (.Name x p1) (.Name nj p2) p3) X.env) :: starEach [] X.env := by rfl)
    (hw : swappedStores [.Tuple [.Name nit p4, .Name ntw p5] k1 p6] (.Tuple [e, .Subscript (.Name x p1) (.Name nj p2) p3] k2 p7) X.env = pure (some [nit, ntw]) := by rfl)
    (hs : swapsWithSole [.Tuple [.Name nit p4, .Name ntw p5] k1 p6] (.Tuple [e, .Subscript (.Name x p1) (.Name nj p2) p3] k2 p7) p8.line X.env = pure false := by rfl)
    (a1 : ∀ v, assign (.Subscript (.Name y p9) (.Name nj p10) p11) X.env v = (do
      let ov ← holding [v] (eval (.Name y p9) X.env)
      let iv ← holding [v, ov] (eval (.Name nj p10) X.env)
      standAt p11
      holding [v, ov, iv] (setItem ov iv v)
      release [v, ov, iv] []) := by intro _; rfl)
    (s1 : swapsWithSole [.Subscript (.Name y p9) (.Name nj p10) p11] (.Name nit p12) p13.line X.env = pure false := by rfl) (s2 : swappedStores [.Subscript (.Name y p9) (.Name nj p10) p11] (.Name nit p12) X.env = pure none := by rfl) (s3 : (assignEach [.Subscript (.Name y p9) (.Name nj p10) p11] X.env).map (·.2) = [assign (.Subscript (.Name y p9) (.Name nj p10) p11) X.env] := by rfl)
    {q9 q10 q11 q12 q13 : Pos}
    (a2 : ∀ v, assign (.Subscript (.Name ntw q9) (.Name ni q10) q11) X.env v = (do
      let ov ← holding [v] (eval (.Name ntw q9) X.env)
      let iv ← holding [v, ov] (eval (.Name ni q10) X.env)
      standAt q11
      holding [v, ov, iv] (setItem ov iv v)
      release [v, ov, iv] []) := by intro _; rfl)
    (s4 : swapsWithSole [.Subscript (.Name ntw q9) (.Name ni q10) q11] (.Name nit q12) q13.line X.env = pure false := by rfl) (s5 : swappedStores [.Subscript (.Name ntw q9) (.Name ni q10) q11] (.Name nit q12) X.env = pure none := by rfl) (s6 : (assignEach [.Subscript (.Name ntw q9) (.Name ni q10) q11] X.env).map (·.2) = [assign (.Subscript (.Name ntw q9) (.Name ni q10) q11) X.env] := by rfl)
    (px : PlainIx (.Name nj p2) := by intro _ _; rfl) :
    PSs X [.Assign [.Tuple [.Name nit p4, .Name ntw p5] k1 p6] (.Tuple [e, .Subscript (.Name x p1) (.Name nj p2) p3] k2 p7) p8, .Assign [.Subscript (.Name y p9) (.Name nj p10) p11] (.Name nit p12) p13, .Assign [.Subscript (.Name ntw q9) (.Name ni q10) q11] (.Name nit q12) q13]
      (upAl X.K np s r i j it tw iv fe) := by
  have B1 := ps_par (pos := p8) hc hN h5 h6 d1 hx hy (pa_cons he (pa_cons (pe_ix (pos := p3) ix_any (pe_var h1 v1 b1 c1) (fp_var j h4 v4 b4 c4) px) pa_nil n2) n1) hw hs
  have B2 := ps_asg (pe_var h5 v5 b5 c5) (pg_sub (pos := p11) (pe_var h2 v2 b2 c2) (fp_var (pos := p10) j h4 v4 b4 c4) set_list a1) s1 s2 s3
  have B3 := ps_asg (pe_var h5 v5 b5 c5) (pg_sub (pos := q11) (pe_var h6 v6 b6 c6) (fp_var (pos := q10) i h3 v3 b3 c3) set_list a2) s4 s5 s6
  refine PSs.weak (pss_cons B1 (pss_cons B2 (pss_cons B3 pss_nil))) fun D σ H h => ?_
  obtain ⟨W, Γ, vs, ds, Γ', ⟨O, c⟩, ⟨p, a, ws0, hp0, hH0, ha0, hr0⟩, hfr, e, q⟩ := h
  obtain ⟨xss, g0, e⟩ := Option.bind_eq_some_iff.mp e
  obtain ⟨⟨t1, Γ1⟩, g1, e⟩ := Option.bind_eq_some_iff.mp e
  obtain ⟨d, g2, e⟩ := Option.bind_eq_some_iff.mp e
  obtain ⟨u1, g3, e⟩ := Option.bind_eq_some_iff.mp e
  obtain ⟨u2, g4, e⟩ := Option.bind_eq_some_iff.mp e
  obtain ⟨jv, g5, e⟩ := Option.bind_eq_some_iff.mp e
  obtain ⟨ii, g6, e⟩ := Option.bind_eq_some_iff.mp e
  obtain ⟨jj, g7, e⟩ := Option.bind_eq_some_iff.mp e
  obtain ⟨xs, g8, e⟩ := Option.bind_eq_some_iff.mp e
  obtain ⟨j2, g9, e⟩ := Option.bind_eq_some_iff.mp e
  obtain ⟨ys, g10, e⟩ := Option.bind_eq_some_iff.mp e
  obtain ⟨i2, g11, e⟩ := Option.bind_eq_some_iff.mp e
  dsimp only at g3 g4 g5 e
  split at e
  · cases e
  · rename_i hno
    cases e
    have hit : ownAt Γ1 it = false := by
      cases z : ownAt Γ1 it with
      | false => rfl
      | true => exact absurd (.inl z) hno
    have hil : it < Γ1.length := by
      by_cases z : it < Γ1.length
      · exact z
      · exact absurd (.inr (.inr (by omega))) hno
    have hpi : pVar i Γ1 = some iv := by
      by_cases z : pVar i Γ1 = some iv
      · exact z
      · exact absurd (.inr (.inl z)) hno
    have h1' : t1 = .md (.dat d) := frz_to g2
    subst h1'
    obtain ⟨p', as, vss, hv0, op, h0, hnd, hp, hp3, hp4⟩ := c.llsAt (llsS_to g0)
    rw [hp0] at hv0
    cases hv0
    rw [hH0] at hp
    cases hp
    refine ⟨_, Γ.set s none, vs, tsd ds, _, Γ1, ⟨_, c.hide hnp (offS_tsd s ds)⟩, g1, fun v H1 cc => ?_⟩
    obtain ⟨O1, cc⟩ := cc
    have hx1 := isFree_to g3
    have htw := isFree_to g4
    have sm := c.hidSm cc
    have c5 := c.unhide hnp hp0 (m := .lls xss) (v := .ref p) ⟨p, as, vss, rfl, op, h0, hnd, hH0, hp3, hp4⟩ cc hp0 hx1 (offS_of hx1 cc.tm)
    have hsl : s < Γ1.length := (List.getElem?_eq_some_iff.mp hx1).1
    have hp5 : H1 p = some (.lst (as.map V.ref)) := (sm.own hH0 op (by simp)).1
    have op5 := (sm.own hH0 op (by simp)).2
    have hq3 := Paired.mapP hp3 fun b vs z => (⟨(sm.own z.2 z.1 (by simp)).2, (sm.own z.2 z.1 (by simp)).1⟩ : unhid O s O1 b = some (.slot s) ∧ H1 b = some (.lst vs))
    have hq4 := Paired.mapP hp4 fun xs vs z => FzA.kp sm.k _ _ z
    generalize unhid O s O1 = O5 at *
    have l1 := Pd.len hp3
    have l2 := Pd.len hp4
    -- places
    have iiN := ixN_seq g6
    have jjN := ixN_seq g7
    have hai : as[ii]? = some a := by
      unfold atI at ha0
      rw [List.length_map, ← (by omega : xss.length = as.length), g6, Option.bind_some, List.getElem?_map] at ha0
      cases z : as[ii]? with
      | none => rw [z] at ha0; cases ha0
      | some b => rw [z] at ha0; cases ha0; rfl
    have hjl : jj < as.length := by omega
    have haj : as[jj]? = some as[jj] := List.getElem?_eq_getElem hjl
    generalize as[jj] = b at haj
    have hbt : atI (as.map V.ref) jv = some (.ref b) := by
      unfold atI
      rw [List.length_map, ← (by omega : xss.length = as.length), g7, Option.bind_some, List.getElem?_map, haj]
      rfl
    -- the value is at hand; rows[j]
    have hjn : j ≠ s := by
      rintro rfl
      rw [List.getElem?_eq_some_iff] at hx1
      unfold pVar at g5
      rw [List.getElem?_eq_some_iff.mpr hx1] at g5
      cases g5
    have hin : i ≠ s := by
      rintro rfl
      unfold pVar at hpi
      rw [hx1] at hpi
      cases hpi
    have gj5 : pVar j (Γ1.set s (some (.lls xss))) = some jv := by
      unfold pVar at g5 ⊢
      rw [List.getElem?_set_ne hjn.symm]; exact g5
    have gi5 : pVar i (Γ1.set s (some (.lls xss))) = some iv := by
      unfold pVar at hpi ⊢
      rw [List.getElem?_set_ne hin.symm]; exact hpi
    refine ⟨.ref p, hp0, Γ1.set s (some (.lls xss)), jv, c5.pSee, gj5, .inl ⟨p, _, jv, .ref b, rfl, rfl, .of hp5, hbt, ?_⟩⟩
    refine ⟨v, .ref b, rfl, ?_⟩
    have rv : Fz X.K O5 H1 d v := c5.top
    have hlen : Γ1.length = σ.length := by have := c5.len; simpa using this
    have hit5 : ownAt (Γ1.set s (some (.lls xss))) it = false := by
      unfold ownAt at hit ⊢
      rw [List.getElem?_set_ne d2]; exact hit
    have htw5 : ((Γ1.set s (some (.lls xss))).set it (some (.dat d)))[tw]? = some none := by
      rw [List.getElem?_set_ne d1, List.getElem?_set_ne d3]; exact htw
    have cS := (c5.storeD (i := it) hit5).free (k := tw) (x := some (.ref b)) htw5
    have e1 : ((σ.set it (some v)).set tw (some (V.ref b)))[it]? = some (some v) := by
      rw [List.getElem?_set_ne d1.symm, List.getElem?_set_self (by omega)]
    have e2 : ((σ.set it (some v)).set tw (some (V.ref b)))[tw]? = some (some (.ref b)) := by
      have : tw < Γ1.length := (List.getElem?_eq_some_iff.mp htw).1
      rw [List.getElem?_set_self (by rw [List.length_set]; omega)]
    have e3 : ((σ.set it (some v)).set tw (some (V.ref b)))[s]? = some (some (.ref p)) := by
      rw [List.getElem?_set_ne d3.symm, List.getElem?_set_ne d2.symm]; exact hp0
    have e4 : ((σ.set it (some v)).set tw (some (V.ref b)))[r]? = some (some (.ref a)) := by
      rw [List.getElem?_set_ne d5.symm, List.getElem?_set_ne d4.symm]; exact hr0
    generalize (σ.set it (some v)).set tw (some (V.ref b)) = σ1 at *
    obtain ⟨ws, hw, fa⟩ := Pd.get hq4 g8
    obtain ⟨ws2, hw2, oa, haH⟩ := Pd.get hq3 hai
    rw [hw] at hw2
    cases hw2
    have hsS : ((Γ1.set s (some (.lls xss))).set it (some (.dat d)))[s]? = some (some (.lls xss)) := by
      rw [List.getElem?_set_ne d2.symm, List.getElem?_set_self hsl]
    refine ⟨v, e1, .ref a, e4, _, jv, cS.pSee, ?_, a, ws, jv, j2, rfl, rfl, haH, by rw [← fa.length]; exact g9, ?_⟩
    · unfold pVar at gj5 ⊢
      rw [List.getElem?_set_ne d8.symm]; exact gj5
    have c6 := cS.rellist hsS e3 op5 h0 hnd hp5 hq3 hq4 hai (fa.set rv j2)
    have pa : p ≠ a := fun z => h0 (by rw [z]; exact List.mem_of_getElem? hai)
    have pb : p ≠ b := fun z => h0 (by rw [z]; exact List.mem_of_getElem? haj)
    have hsS2 : (((Γ1.set s (some (.lls xss))).set it (some (.dat d))).set s (some (.lls (xss.set ii (xs.set j2 d)))))[s]? = some (some (.lls (xss.set ii (xs.set j2 d)))) := List.getElem?_set_self (by rw [List.length_set, List.length_set]; exact hsl)
    obtain ⟨p6, as6, vss6, hv6, op6, h06, hnd6, hp6, hq36, hq46⟩ := c6.llsAt hsS2
    rw [e3] at hv6
    cases hv6
    have has : as6 = as := by
      rw [upd_ne pa, hp5] at hp6
      have inj : ∀ {l m : List Addr}, l.map V.ref = m.map V.ref → l = m := by
        intro l
        induction l with
        | nil => intro m h; cases m with
          | nil => rfl
          | cons y m => cases h
        | cons x l ih => intro m h; cases m with
          | nil => cases h
          | cons y m =>
            rw [List.map_cons, List.map_cons] at h
            injection h with h1 h2
            injection h1 with h1
            rw [h1, ih h2]
      exact (inj (by injection hp6 with z; injection z)).symm
    subst has
    obtain ⟨wj, hwj, fj⟩ := Pd.get hq46 g10
    obtain ⟨wj2, hwj2, ob, hbH⟩ := Pd.get hq36 haj
    rw [hwj] at hwj2
    cases hwj2
    have rv6 : Fz X.K O5 (upd H1 a (.lst (ws.set j2 v))) d v := Fz.kp (Ev.write (o := .lst (ws.set j2 v)) c5.dom oa).k _ _ rv
    refine ⟨v, e1, .ref b, e2, _, iv, c6.pSee, ?_, b, wj, iv, i2, rfl, rfl, hbH, by rw [← fj.length]; exact g11, ?_⟩
    · unfold pVar at gi5 ⊢
      rw [List.getElem?_set_ne hin.symm, List.getElem?_set_ne d6.symm]; exact gi5
    have c7 := c6.rellist hsS2 e3 op6 h06 hnd6 hp6 hq36 hq46 haj (fj.set rv6 i2)
    rw [List.set_set, List.set_comm _ _ d2, List.set_set, List.set_comm _ _ d2.symm] at c7
    refine q σ1 _ ⟨_, c7⟩ ⟨p, a, as6.map V.ref, e3, ?_, ha0, e4⟩
    rw [upd_ne pb, upd_ne pa]
    exact hp5
/-- what a pure range walks -/
def upIP (K : PySem.W.Frag) (a b : FP) : TI := fun σ H R => ∃ Γ iv mv l, pSee K σ Γ ∧ a Γ = some iv ∧ b Γ = some mv ∧ rg2 iv mv = some l ∧ ∀ J, (∀ O1 H1, ItF K J O1 H1 l) → R J H
theorem fi_range2P {tg a b : Expr} {fa fb : FP} {p : Pos} (hm : X.mg "range" = none) (ha : FPX X a fa) (hb : FPX X b fb) (hg : Gl X "range" := by rfl) (hs : starEach [a, b] X.env = (false, eval a X.env) :: starEach [b] X.env := by rfl)
    (hs1 : starEach [b] X.env = (false, eval b X.env) :: starEach [] X.env := by rfl) (hs' : starEach [a, b] X.env = [(false, eval a X.env), (false, eval b X.env)] := by rfl) (hs2 : starEach [b] X.env = [(false, eval b X.env)] := by rfl) :
    PI X tg (.Call (.Name "range" p) [a, b] [] pos) (upIP X.K fa fb) := by
  refine PI.weak (pi_range2 hg hm (pa_cons ha (pa_cons hb pa_nil hs1) hs) hs' hs2) fun σ H R h => ?_
  obtain ⟨Γ, iv, mv, l, ps, e1, e2, e3, q⟩ := h
  obtain ⟨hj, el⟩ := rg2_to e3
  obtain ⟨k1, k2⟩ := rgOk_to hj.1
  obtain ⟨k3, k4⟩ := rgOk_to hj.2
  exact ⟨Γ, iv, ps, e1, Γ, mv, ps, e2, iv, mv, rfl, ⟨k1, k2, k3, k4⟩, q _ fun O1 H1 => by rw [el]; exact itf_range⟩
def alLoop (s r i j it tw : Nat) (iv : Int) (fe : FE) : List PyData → Gm → Option Gm
  | [], Γ => some Γ
  | d :: l, Γ => (gN j d Γ).bind fun Γ1 => (isFree Γ1 r).bind fun _ => (alStep s i j it tw iv fe Γ1).bind fun Γ2 => alLoop s r i j it tw iv fe l Γ2
def fAlias (s r i m j it tw : Nat) (fe : FE) : FS := fun Γ => (pVar i Γ).bind fun iv => (pVar m Γ).bind fun mv => (rowP s (pVar i) Γ).bind fun _ => (isFree Γ r).bind fun _ => (rg2 iv mv).bind fun l => (alLoop s r i j it tw iv fe l Γ).map .nx
theorem fss_alias {s r i m j it tw : Nat} {x y ni nj : Str} {p1 p2 p3 p4 p5 pl pj pr : Pos} {body : List Stmt} {em : Expr} {fe : FE} (hp : PassesOwn (model X.prog X.w) X.A X.env X.xe) (hc : X.calm = true) (hN : X.N.Nodup) (hnp : np ≤ s) (hrg : X.mg "range" = none)
    (hb : ∀ iv, PSs X body (upAl X.K np s r i j it tw iv fe)) (hem : FPX X em (pVar m))
    (h1 : X.N[s]? = some x := by rfl) (h2 : X.N[r]? = some y := by rfl) (h3 : X.N[i]? = some ni := by rfl) (h4 : X.N[j]? = some nj := by rfl)
    (d1 : s ≠ r := by decide) (d2 : s ≠ j := by decide) (d3 : r ≠ j := by decide) (d4 : i ≠ r := by decide) (d5 : m ≠ r := by decide)
    (v1 : Vis X.env.scope x := by first | exact Or.inl rfl | exact Or.inr (Or.inl rfl) | exact Or.inr (Or.inr rfl)) (v2 : Loc X.env.scope y := by first | exact Or.inl rfl | exact Or.inr rfl) (v3 : Vis X.env.scope ni := by first | exact Or.inl rfl | exact Or.inr (Or.inl rfl) | exact Or.inr (Or.inr rfl)) (v4 : Loc X.env.scope nj := by first | exact Or.inl rfl | exact Or.inr rfl)
    (b1 : (x == ("__debug__" : Str)) = false := by decide) (b3 : (ni == ("__debug__" : Str)) = false := by decide) (c1 : (x == ("__classdict__" : Str)) = false := by decide) (c3 : (ni == ("__classdict__" : Str)) = false := by decide)
    (l2 : X.fn y = true ∨ X.env.scope.names.lookup y = some .local := by first | exact .inl rfl | exact .inr rfl | assumption) (l4 : X.fn nj = true ∨ X.env.scope.names.lookup nj = some .local := by first | exact .inl rfl | exact .inr rfl | assumption)
    (hg : Gl X "range" := by rfl) (hs : starEach [.Name ni p4, em] X.env = (false, eval (.Name ni p4) X.env) :: starEach [em] X.env := by rfl)
    (hs1 : starEach [em] X.env = (false, eval em X.env) :: starEach [] X.env := by rfl) (hs' : starEach [.Name ni p4, em] X.env = [(false, eval (.Name ni p4) X.env), (false, eval em X.env)] := by rfl) (hs2 : starEach [em] X.env = [(false, eval em X.env)] := by rfl)
    (px : PlainIx (.Name ni p2) := by intro _ _; rfl)
    (s1 : swapsWithSole [.Name y p5] (.Subscript (.Name x p1) (.Name ni p2) p3) pl.line X.env = pure false := by rfl) (s2 : swappedStores [.Name y p5] (.Subscript (.Name x p1) (.Name ni p2) p3) X.env = pure none := by rfl) (s3 : (assignEach [.Name y p5] X.env).map (·.2) = [assign (.Name y p5) X.env] := by rfl)
    (hfs : ∀ z, foldedSetIterable (.Call (.Name "range" pr) [.Name ni p4, em] [] pos) X.env z = pure z := by intro _; rfl) {pf : Pos} :
    FSsX X np [.Assign [.Name y p5] (.Subscript (.Name x p1) (.Name ni p2) p3) pl, .For (.Name nj pj) (.Call (.Name "range" pr) [.Name ni p4, em] [] pos) body [] pf] (fAlias s r i m j it tw fe) := by
  have S1 := ps_asg (pe_ix (pos := p3) ix_any (pe_var h1 v1 b1 c1) (fp_var (pos := p2) i h3 v3 b3 c3) px) (pg_name (pos := p5) hN h2 v2 l2) s1 s2 s3
  refine ⟨fun pins s' σ H D I h => ?_⟩
  obtain ⟨W, Γ, vs, ds, o, ⟨O, c⟩, e, q⟩ := h
  obtain ⟨iv, g1, e⟩ := Option.bind_eq_some_iff.mp e
  obtain ⟨mv, g2, e⟩ := Option.bind_eq_some_iff.mp e
  obtain ⟨⟨xss, kk, xs⟩, g3, e⟩ := Option.bind_eq_some_iff.mp e
  obtain ⟨u, g4, e⟩ := Option.bind_eq_some_iff.mp e
  obtain ⟨l, g5, e⟩ := Option.bind_eq_some_iff.mp e
  obtain ⟨Γ', g6, e⟩ := Option.map_eq_some_iff.mp e
  cases e
  have S2 := ps_for (pos := pf) hp hc (fi_range2P (tg := .Name nj pj) (p := pr) (pos := pos) hrg (fp_var (pos := p4) i h3 v3 b3 c3) hem hg hs hs1 hs' hs2) (pg_name (pos := pj) hN h4 v4 l4) (hb iv) hfs
  refine (pss_cons S1 (pss_cons S2 pss_nil)).run pins s' σ H D I ?_
  have hr := isFree_to g4
  obtain ⟨k, p, a, as, vss, ws, _, ek, hv0, op, h0, hnd, hpH, hp3, hp4, ha, haH, fa, hat, oa⟩ := rowP_at c g3
  rw [g1] at ek
  cases ek
  refine ⟨.ref p, hv0, Γ, iv, c.pSee, g1, .inl ⟨p, _, iv, .ref a, rfl, rfl, .of hpH, hat, ?_⟩⟩
  have c1 := c.free (k := r) (x := some (.ref a)) hr
  have hrl : r < σ.length := by rw [← c.len]; exact (List.getElem?_eq_some_iff.mp hr).1
  have al : AL s r iv (σ.set r (some (.ref a))) H := ⟨p, a, _, by rw [List.getElem?_set_ne d1.symm]; exact hv0, hpH, hat, List.getElem?_set_self hrl⟩
  refine ⟨Γ, iv, mv, l, c1.pSee, g1, g2, g5, fun J itf => ?_⟩
  refine ⟨fun i' m' σ' H' => i' + m' = l.length ∧ ∃ Γi, Cfg X.K np (W.at O H) σ' H' Γi vs (tsd ds) ∧ AL s r iv σ' H' ∧ alLoop s r i j it tw iv fe (l.drop i') Γi = some Γ', ⟨l.length, by simp, Γ, ⟨O, c1.rebase⟩, al, g6⟩, ?_⟩
  rintro i' m' σ' H' ⟨hl, Γi, ⟨Oi, ci⟩, ali, ei⟩
  obtain ⟨t1, t2⟩ := itf O H Oi H' i' ci.dom ci.kpAt
  cases m' with
  | zero =>
    have hi' : l.length ≤ i' := by omega
    rw [List.drop_eq_nil_of_le hi'] at ei
    cases ei
    exact .inl ⟨t2 hi', q σ' H' ⟨Oi, c1.unbase ci⟩⟩
  | succ m' =>
    have hi' : i' < l.length := by omega
    have ed : l[i']? = some l[i'] := List.getElem?_eq_getElem hi'
    obtain ⟨go, yl⟩ := t1 _ ed
    rw [List.drop_eq_getElem_cons hi'] at ei
    obtain ⟨Γ2, e2, ei⟩ := Option.bind_eq_some_iff.mp ei
    obtain ⟨u3, e3, ei⟩ := Option.bind_eq_some_iff.mp ei
    obtain ⟨Γ4, e4, ek⟩ := Option.bind_eq_some_iff.mp ei
    refine .inr ⟨go, fun σ9 H9 => ∃ Γi, Cfg X.K np (W.at O H) σ9 H9 Γi vs (tsd ds) ∧ AL s r iv σ9 H9 ∧ alLoop s r i j it tw iv fe (l.drop (i' + 1)) Γi = some Γ', fun σ9 H9 w => ⟨m', Nat.lt_succ_self _, by omega, w⟩, fun z H2 hy => ?_⟩
    obtain ⟨ev, rz⟩ := yl z H2 hy
    obtain ⟨p', a', ws', q1, q2, q3, q4⟩ := ali
    have q2' : H2 p' = some (.lst ws') := (ev.kp p' _ q2 fun _ _ z => z).1
    unfold gN at e2
    split at e2
    · cases e2
    · rename_i hno
      cases e2
      have c4 := ((ci.ev0 ev).push (t := .md (.dat l[i'])) rz).storeD (i := j) (by simpa using hno)
      refine ⟨W.at O H, _, vs, ds, Γ4, ⟨Oi, c4⟩, ⟨p', a', ws', ?_, q2', q3, ?_⟩, isFree_to e3, e4, fun σ5 H5 c5 al5 => ⟨Γ4, c5, al5, ek⟩⟩
      · rw [List.getElem?_set_ne d2.symm]; exact q1
      · rw [List.getElem?_set_ne d3.symm]; exact q4
end
end Fx

end

/-! Fx32: powers of great numbers -/
noncomputable section
namespace Fx
open PySem PySem.Spec PyProof.Rows L2

def CPowX (i j : Int) : Prop := 0 ≤ j ∧ j ≤ 1000 ∧ i.natAbs.log2 < 100000
theorem op_powX {X : Cx} : OpR X (binaryOp .Pow) (rI CPowX fun i j => .int (i ^ j.toNat)) := opI fun i j _ _ _ _ _ hc q => pow_int hc.1 (by
  obtain ⟨h0, h1, h2⟩ := hc
  have : Builtin.Int.intBits i ≤ 100000 := by
    unfold Builtin.Int.intBits
    split <;> omega
  have h3 : (Builtin.Int.intBits i : Int) * j ≤ 100000 * 1000 := Int.mul_le_mul (by omega) h1 h0 (by omega)
  omega) q
def powOkX (i j : Int) : Bool := decide (0 ≤ j ∧ j ≤ 1000 ∧ i.natAbs.log2 < 100000)
abbrev gPowX := gInt2C powOkX fun i j => i ^ j.toNat
theorem snd_powX {K : PySem.W.Frag} : Snd2 K (rI CPowX fun i j => .int (i ^ j.toNat)) gPowX := snd_int2C fun _ _ h => by
  have h' := dec1 h
  exact h'
/-- a, b, .. = a tuple or a list -/
def gTA (n : Nat) (g : FGs) : FG := fun d Γ => match d with
  | .tuple ds => if ds.length = n then g ds Γ else none
  | .list ds => if ds.length = n then g ds Γ else none
  | _ => none
theorem PG.or {X : Cx} {e : Expr} {t t' : TG} (h : PG X e t) (h' : PG X e t') : PG X e (fun v σ H Q => t v σ H Q ∨ t' v σ H Q) := ⟨fun pins s σ H v u Q I r q => q.elim (h.run pins s σ H v u Q I r) (h'.run pins s σ H v u Q I r)⟩
theorem fg_tupA {X : Cx} {np : Nat} {is : List Nat} {pos : Pos} {es : List Expr} {k : Nat} {g : FGs} {n : Nat} (hc : X.calm = true) (h : FGsX X np is es g) (hn : (assignEach es X.env).length = n := by rfl) (hst : (assignEach es X.env).findIdx? (·.1) = none := by rfl) : FGX X np is (.Tuple es k pos) (gTA n g) := by
  refine PG.weak (PG.or (pg_tup hc h hn hst) (pg_lst hc h hn hst)) fun v σ H Q hh => ?_
  obtain ⟨W, Γ, vs, ts, d, Γ', ⟨O, c⟩, e, q⟩ := hh
  unfold gTA at e
  split at e
  · rename_i ds
    split at e
    · rename_i hl
      obtain ⟨a, xs, rfl, ha, fa⟩ := Fz.sqT c.top
      exact .inl ⟨a, xs, rfl, ha, by rw [← fa.length]; exact hl, W, Γ, vs, ts, ds, Γ', ⟨O, c.pop.pushA fa⟩, fa.length.symm, e, q⟩
    · cases e
  · rename_i ds
    split at e
    · rename_i hl
      obtain ⟨a, xs, rfl, ha, fa, _⟩ := Fz.sqL c.top
      exact .inr ⟨a, xs, rfl, .of ha, by rw [← fa.length]; exact hl, W, Γ, vs, ts, ds, Γ', ⟨O, c.pop.pushA fa⟩, fa.length.symm, e, q⟩
    · cases e
  · cases e
end Fx

end

/-! Fy1: reckoning with meanings: the helpers that the laws share -/
noncomputable section
namespace Fx
open PySem PySem.Spec PyProof.Rows L2

theorem eqv_int (a b : Int) : PyData.eqv (.int a) (.int b) = decide (a = b) := by
  first | rfl | (unfold PyData.eqv; rfl) | (unfold PyData.eqv; exact Bool.beq_eq_decide_eq ..)
theorem eqX_int (neg : Bool) (a b : Int) : gEqX neg (.int a) (.int b) = some (.val (.bool (if neg then !decide (a = b) else decide (a = b)))) := by
  cases neg <;> simp [gEqX, gEq, shp, eqv_int]
theorem eqX_str (neg : Bool) (a b : Str) : gEqX neg (.str a) (.str b) = some (.val (.bool (if neg then !decide (a = b) else decide (a = b)))) := rfl
theorem own_dat (d : PyData) : (MD.dat d).own = false := rfl
theorem own_lst (d : List PyData) : (MD.lst d).own = true := rfl
theorem own_bag (c : List Int) (b m : Int) : (MD.bag c b m).own = true := rfl
theorem own_dcK (d : List (Key × PyData)) : (MD.dcK d).own = true := rfl
theorem own_scr (d : List Int) : (MD.scr d).own = false := rfl
theorem flat_dat (d : PyData) : (MD.dat d).flat = some d := rfl
theorem flat_lst (d : List PyData) : (MD.lst d).flat = some (.list d) := rfl
theorem dv_dat (Γ : Gm) (d : PyData) : dv Γ (.md (.dat d)) = some d := rfl
theorem dv_lst (Γ : Gm) (d : List PyData) : dv Γ (.md (.lst d)) = some (.list d) := rfl
theorem dv_al (Γ : Gm) (i : Nat) : dv Γ (.al i) = match Γ[i]? with
    | some (some (.lst xs)) => some (.list xs)
    | _ => none := rfl
theorem frz_dat (d : PyData) : frz (.md (.dat d)) = some d := rfl
theorem intT_int (j : Int) : intT (.md (.dat (.int j))) = some j := rfl
theorem frzs_nil : frzs [] = some [] := rfl
theorem frzs_cons (d : PyData) (ts : List TV) : frzs (.md (.dat d) :: ts) = (frzs ts).map fun ds => d :: ds := rfl
theorem shp_int (i : Int) : shp (.int i) = true := rfl
theorem shp_none : shp .none = true := rfl
theorem shp_bool (b : Bool) : shp (.bool b) = true := rfl
/-- whole numbers of a kind that never is too long to multiply -/
theorem mulOk_of {i j : Int} (hi : i.natAbs < 2 ^ 1000) (hj : j.natAbs < 2 ^ 1000) : mulOk i j = true := by
  have lg : ∀ n : Nat, n < 2 ^ 1000 → n.log2 < 1000 := fun n h => by
    by_cases h0 : n = 0
    · subst h0; decide
    · exact (Nat.log2_lt h0).mpr h
  have h1 := lg _ hi
  have h2 := lg _ hj
  exact decide_eq_true (by omega)
theorem divOk_of {i j : Int} (hj : 0 < j) (hj2 : j.natAbs < 2 ^ 1000) : divOk i j = true := by
  refine decide_eq_true ⟨hj, ?_⟩
  have h0 : j.natAbs ≠ 0 := by omega
  have := (Nat.log2_lt h0).mpr hj2
  omega
theorem big64 : (2 : Nat) ^ 64 ≤ 2 ^ 1000 := Nat.pow_le_pow_right (by decide) (by decide)

theorem gMulX_int (i j : Int) : gMulX (.int i) (.int j) = if mulOk i j = true then some (.val (.int (i * j))) else none := rfl
theorem gMul_rep (d : PyData) {n : Nat} (h : n ≤ 1000000) : gMulX (.list [d]) (.int n) = some (.new (List.replicate n d)) := by
  have e : (List.replicate n [d]).flatten = List.replicate n d := by
    induction n with
    | zero => rfl
    | succ n ih => rw [List.replicate_succ, List.flatten_cons, ih (by omega)]; rfl
  show @ite _ _ (Classical.propDecidable _) (some (Res.new (List.replicate (Int.toNat n) [d]).flatten)) none = _
  rw [if_pos, Int.toNat_natCast, e]
  refine ⟨by omega, by omega, ?_⟩
  rw [Int.toNat_natCast, sizeLine_eq]
  simp
  omega
theorem gMulX_tup (xs : List PyData) {k : Nat} (h : xs.length ≤ 1000) (hk : k ≤ 1000) : gMulX (.tuple xs) (.int k) = some (.val (.tuple (List.replicate k xs).flatten)) := by
  show @ite _ (-(2 ^ 63) ≤ (k : Int) ∧ (k : Int) < 2 ^ 63) (Classical.propDecidable _) (if xs = [] ∨ (k : Int) = 1 then some (Res.val (.tuple xs)) else if (k : Int) ≤ 0 then some (Res.val (.tuple [])) else gMul (.tuple xs) (.int k)) none = _
  rw [if_pos ⟨by omega, by omega⟩]
  by_cases h0 : xs = []
  · subst h0
    have e : (List.replicate k ([] : List PyData)).flatten = [] := by
      induction k with
      | zero => rfl
      | succ k ih => rw [List.replicate_succ, List.flatten_cons, ih (by omega)]; rfl
    rw [if_pos (.inl rfl), e]
  · by_cases h1 : k = 1
    · subst h1
      rw [if_pos (.inr rfl)]
      simp
    · by_cases h2 : k = 0
      · subst h2
        rw [if_neg (by simp [h0]), if_pos (by omega)]
        rfl
      · rw [if_neg (by simp [h0]; omega), if_neg (by omega)]
        show @ite _ _ (Classical.propDecidable _) (some (Res.val (.tuple (List.replicate (Int.toNat k) xs).flatten))) none = _
        rw [if_pos ⟨h0, by omega, by omega, h⟩, Int.toNat_natCast]
def lsStep (tg : FG) (b : FS) (d : PyData) (Γ : Gm) : Option Out := (tg d Γ).bind b
/-- one turn of a comprehension -/
def lcStep (tg : FG) (tt : FT) (fe : FE) (own : List Nat) (d : PyData) (Γ : Gm) : Option (Option PyData × Gm) := (tg d Γ).bind fun Γ1 => (tt Γ1).bind fun p => if p.1 = true then (fe p.2).bind fun q => (frz q.1).bind fun y => if noOwn q.2 own = true then some (some y, fgt q.2 own) else none
  else if noOwn p.2 own = true then some (none, fgt p.2 own) else none

/-! ### loops -/
theorem loopS_cons {tg : FG} {b : FS} {d : PyData} {r : List PyData} {Γ : Gm} : loopS tg b (d :: r) Γ = (lsStep tg b d Γ).bind fun o => match o with
    | .nx Γ2 => loopS tg b r Γ2
    | .ct Γ2 => loopS tg b r Γ2
    | .bk Γ2 => some (.nx Γ2)
    | .rt m Γ2 => some (.rt m Γ2) := by
  show (tg d Γ).bind (fun Γ1 => (b Γ1).bind _) = ((tg d Γ).bind b).bind _
  cases tg d Γ <;> rfl
theorem loopS_ok {tg : FG} {b : FS} {P : Nat → Gm → Prop} : ∀ {items : List PyData} {Γ : Gm} (k : Nat), P k Γ → (∀ (i : Nat) (d : PyData) (Γ : Gm), items[i]? = some d → P (k + i) Γ → ∃ Γ2, (lsStep tg b d Γ = some (.nx Γ2) ∨ lsStep tg b d Γ = some (.ct Γ2)) ∧ P (k + i + 1) Γ2) →
    ∃ Γ', loopS tg b items Γ = some (.nx Γ') ∧ P (k + items.length) Γ'
  | [], Γ, k, h, _ => ⟨Γ, rfl, h⟩
  | d :: r, Γ, k, h, st => by
    obtain ⟨Γ2, e2, h2⟩ := st 0 d Γ rfl h
    obtain ⟨Γ', e3, h3⟩ := loopS_ok (tg := tg) (b := b) (P := P) (items := r) (Γ := Γ2) (k + 1) h2 fun i d Γ e p => by
      have := st (i + 1) d Γ (by simpa using e) (by rw [show k + (i + 1) = k + 1 + i by omega]; exact p)
      rwa [show k + (i + 1) + 1 = k + 1 + i + 1 by omega] at this
    refine ⟨Γ', ?_, by rw [List.length_cons, show k + (r.length + 1) = k + 1 + r.length by omega]; exact h3⟩
    rw [loopS_cons]
    rcases e2 with e2 | e2
    · rw [e2]; exact e3
    · rw [e2]; exact e3
theorem loopL_cons {tg : FG} {tt : FT} {fe : FE} {own : List Nat} {d : PyData} {r acc : List PyData} {Γ Γ' : Gm} {y : Option PyData} (h : lcStep tg tt fe own d Γ = some (y, Γ')) (hl : acc.length < sizeLine) : loopL tg tt fe own (d :: r) acc Γ = loopL tg tt fe own r (acc ++ y.toList) Γ' := by
  unfold lcStep at h
  obtain ⟨Γ1, e1, h⟩ := Option.bind_eq_some_iff.mp h
  obtain ⟨⟨b, Γ2⟩, e2, h⟩ := Option.bind_eq_some_iff.mp h
  dsimp only at h
  split at h
  · rename_i hb
    have hb' : b = true := hb
    subst hb'
    obtain ⟨⟨t, Γ3⟩, e3, h⟩ := Option.bind_eq_some_iff.mp h
    obtain ⟨y', e4, h⟩ := Option.bind_eq_some_iff.mp h
    dsimp only at h
    split at h
    · rename_i hn
      cases h
      simp only at e4
      simp [loopL, e1, e2, e3, e4, hl, hn]
    · cases h
  · rename_i hb
    have hb' : b = false := by simpa using hb
    subst hb'
    split at h
    · rename_i hn
      cases h
      have hn' : noOwn Γ2 own = true := hn
      simp [loopL, e1, e2, hn']
    · cases h
theorem loopL_fm {α : Type} {tg : FG} {tt : FT} {fe : FE} {own : List Nat} {Γ : Gm} {g : α → PyData} {f : α → Option PyData} : ∀ {l : List α} {acc : List PyData}, acc.length + l.length ≤ sizeLine → (∀ x ∈ l, lcStep tg tt fe own (g x) Γ = some (f x, Γ)) → loopL tg tt fe own (l.map g) acc Γ = some (acc ++ l.filterMap f, Γ)
  | [], acc, _, _ => by simp [loopL]
  | x :: l, acc, hl, h => by
    have h1 := h x List.mem_cons_self
    have e : (f x).toList.length ≤ 1 := by cases f x <;> simp
    have ih := loopL_fm (tg := tg) (tt := tt) (fe := fe) (own := own) (Γ := Γ) (g := g) (f := f) (l := l) (acc := acc ++ (f x).toList) (by simp at hl ⊢; omega) fun y hy => h y (List.mem_cons_of_mem _ hy)
    rw [List.map_cons, loopL_cons h1 (by simp at hl; omega), ih]
    cases e2 : f x <;> simp [e2, List.filterMap_cons]
/-- a comprehension whose element is a function of the item -/
theorem loopL_map {α : Type} {tg : FG} {tt : FT} {fe : FE} {own : List Nat} {Γ : Gm} {g f : α → PyData} {l : List α} {acc : List PyData} (hl : acc.length + l.length ≤ sizeLine) (h : ∀ x ∈ l, lcStep tg tt fe own (g x) Γ = some (some (f x), Γ)) : loopL tg tt fe own (l.map g) acc Γ = some (acc ++ l.map f, Γ) := by
  have := loopL_fm (f := fun x => some (f x)) hl h
  rw [this]
  have e : l.filterMap (fun x => some (f x)) = l.map f := by
    induction l with
    | nil => rfl
    | cons x l ih => simp
  rw [e]
/-- with a test -/
theorem loopL_filter {α : Type} {tg : FG} {tt : FT} {fe : FE} {own : List Nat} {Γ : Gm} {g f : α → PyData} {p : α → Bool} {l : List α} {acc : List PyData} (hl : acc.length + l.length ≤ sizeLine) (h : ∀ x ∈ l, lcStep tg tt fe own (g x) Γ = some (if p x = true then some (f x) else none, Γ)) : loopL tg tt fe own (l.map g) acc Γ = some (acc ++ (l.filter p).map f, Γ) := by
  have := loopL_fm (f := fun x => if p x = true then some (f x) else none) hl h
  rw [this]
  have e : l.filterMap (fun x => if p x = true then some (f x) else none) = (l.filter p).map f := by
    clear this h hl
    induction l with
    | nil => rfl
    | cons x l ih =>
      cases hp : p x with
      | true => simp [hp, ih]
      | false => simp [hp, ih]
  rw [e]
/-- with changes on the way -/
theorem loopL_ok {tg : FG} {tt : FT} {fe : FE} {own : List Nat} {P : Nat → List PyData → Gm → Prop} : ∀ {items : List PyData} {acc : List PyData} {Γ : Gm} (k : Nat), P k acc Γ → acc.length + items.length ≤ sizeLine →
    (∀ (i : Nat) (d : PyData) (acc : List PyData) (Γ : Gm), items[i]? = some d → P (k + i) acc Γ → ∃ y Γ', lcStep tg tt fe own d Γ = some (y, Γ') ∧ P (k + i + 1) (acc ++ y.toList) Γ') →
    ∃ acc' Γ', loopL tg tt fe own items acc Γ = some (acc', Γ') ∧ P (k + items.length) acc' Γ' ∧ acc'.length ≤ acc.length + items.length
  | [], acc, Γ, k, h, _, _ => ⟨acc, Γ, rfl, h, Nat.le_refl _⟩
  | d :: r, acc, Γ, k, h, hl, st => by
    obtain ⟨y, Γ1, e1, h1⟩ := st 0 d acc Γ rfl h
    have ey : y.toList.length ≤ 1 := by cases y <;> simp
    obtain ⟨acc', Γ', e5, h5, l5⟩ := loopL_ok (items := r) (acc := acc ++ y.toList) (Γ := Γ1) (k + 1) h1 (by simp at hl ⊢; omega) fun i d acc Γ e p => by
      have := st (i + 1) d acc Γ (by simpa using e) (by rw [show k + (i + 1) = k + 1 + i by omega]; exact p)
      rwa [show k + (i + 1) + 1 = k + 1 + i + 1 by omega] at this
    refine ⟨acc', Γ', ?_, by rw [List.length_cons, show k + (r.length + 1) = k + 1 + r.length by omega]; exact h5, by simp at l5 ⊢; omega⟩
    rw [loopL_cons e1 (by simp at hl; omega)]
    exact e5

/-! ### the draws -/
def BagOk (B : MD) : Prop := ∃ c b m, B = .bag c b m ∧ c.length ≤ 63 ∧ 0 ≤ m ∧ m < 2147483647
theorem BagOk.own {B : MD} (h : BagOk B) : B.own = true := by
  obtain ⟨c, b, m, rfl, _⟩ := h
  rfl
def DRAWS : Nat := 1000000
def drawC : FT := fAnd (fT (fOp2 (gEqX false) false (fBagIx 0 1) (fC (.int 0)))) (fT (fBagNe 0))
def drawB : FS := fFgt [2] (fSeq (fSet 2 2 (fBagPop 0)) (fBagPut 0 1 (fIfE (fT (fOp2 gGt false (fVar 2) (fOp2 gPow false (fC (.int 10)) (fC (.int 9))))) (fVar 2) (fC (.int 0)))))
theorem fWhile_step {c : FT} {b : FS} {n : Nat} {Γ Γ1 Γ2 : Gm} (h1 : c Γ = some (true, Γ1)) (h2 : b Γ1 = some (.nx Γ2)) : fWhile c b (n + 1) Γ = fWhile c b n Γ2 := by
  simp [fWhile, h1, h2]
theorem fWhile_stop {c : FT} {b : FS} {n : Nat} {Γ Γ1 : Gm} (h1 : c Γ = some (false, Γ1)) : fWhile c b (n + 1) Γ = some (.nx Γ1) := by
  simp [fWhile, h1]
theorem draw_while (m n : Int) : ∀ (fuel : Nat) (c : List Int) (b : Int), c.length < fuel → ∃ c' b', fWhile drawC drawB fuel [some (.bag c b m), some (.dat (.int n)), none, none] = some (.nx [some (.bag c' b' m), some (.dat (.int n)), none, none]) ∧ c'.length ≤ c.length := by
  intro fuel
  induction fuel with
  | zero => intro c b h; omega
  | succ fuel ih =>
    intro c b h
    by_cases hb : b = 0
    · subst hb
      by_cases hc : c = []
      · subst hc
        refine ⟨[], 0, ?_, Nat.le_refl _⟩
        simp [fnOf, fSeq, fNil, fSet, fRet, fDrop, fIf, fFgt, fgtO, fgt, fFor, fIfE, fT, fTru, truD, fAnd, fOr, fNot, fAndV, fOrV, fNotV, fOp2, fVar, fC, fB, fACons, fANil, fTup, fLst, fNeg, gRel, gInt2, gInt2C, gAdd, gMulX_int, gIx, gLen, gAbs, gInt, gEq, gIs, gIsNot, dv_dat, dv_lst, dv_al, dvs, own_dat, own_lst, own_bag, own_dcK, own_scr, flat_dat, flat_lst, Res.fin, frzs_nil, frzs_cons, frz_dat, intT_int, outs, als, argsOf, putArgs, fCall, eqv_int, shp_int, shp_none, shp_bool, noOwn, ownAt, sizeLine_eq, fIter, itemsOf, fRange1, fRange2, eqX_int, eqX_str, fEnumA, fFrz, fNever, permOk, perm, fCallK, fCallP, gMax2, gMin2, gMax3, gMin3, fPar2, fMulti, putM, fAsgG, fLc, fWhile, drawC, drawB, fBagIx, fBagNe, bagS]
      · obtain ⟨l, x, rfl⟩ : ∃ l x, c = l ++ [x] := ⟨c.dropLast, c.getLast hc, (List.dropLast_concat_getLast hc).symm⟩
        rw [List.length_append] at h
        obtain ⟨c', b', e, hl⟩ := ih l (if (10 : Int) ^ 9 < x then x else 0) (by simp at h; omega)
        refine ⟨c', b', ?_, by simp; omega⟩
        have h1 : drawC [some (.bag (l ++ [x]) 0 m), some (.dat (.int n)), none, none] = some (true, [some (.bag (l ++ [x]) 0 m), some (.dat (.int n)), none, none]) := by
          simp [fnOf, fSeq, fNil, fSet, fRet, fDrop, fIf, fFgt, fgtO, fgt, fFor, fIfE, fT, fTru, truD, fAnd, fOr, fNot, fAndV, fOrV, fNotV, fOp2, fVar, fC, fB, fACons, fANil, fTup, fLst, fNeg, gRel, gInt2, gInt2C, gAdd, gMulX_int, gIx, gLen, gAbs, gInt, gEq, gIs, gIsNot, dv_dat, dv_lst, dv_al, dvs, own_dat, own_lst, own_bag, own_dcK, own_scr, flat_dat, flat_lst, Res.fin, frzs_nil, frzs_cons, frz_dat, intT_int, outs, als, argsOf, putArgs, fCall, eqv_int, shp_int, shp_none, shp_bool, noOwn, ownAt, sizeLine_eq, fIter, itemsOf, fRange1, fRange2, eqX_int, eqX_str, fEnumA, fFrz, fNever, permOk, perm, fCallK, fCallP, gMax2, gMin2, gMax3, gMin3, fPar2, fMulti, putM, fAsgG, fLc, drawC, fBagIx, fBagNe, bagS]
        have h2 : drawB [some (.bag (l ++ [x]) 0 m), some (.dat (.int n)), none, none] = some (.nx [some (.bag l (if (10 : Int) ^ 9 < x then x else 0) m), some (.dat (.int n)), none, none]) := by
          by_cases hx : (10 : Int) ^ 9 < x
          · have hx' : (1000000000 : Int) < x := by omega
            simp [fnOf, fSeq, fNil, fSet, fRet, fDrop, fIf, fFgt, fgtO, fgt, fFor, fIfE, fT, fTru, truD, fAnd, fOr, fNot, fAndV, fOrV, fNotV, fOp2, fVar, fC, fB, fACons, fANil, fTup, fLst, fNeg, gRel, gInt2, gInt2C, gAdd, gMulX_int, gIx, gLen, gAbs, gInt, gEq, gIs, gIsNot, dv_dat, dv_lst, dv_al, dvs, own_dat, own_lst, own_bag, own_dcK, own_scr, flat_dat, flat_lst, Res.fin, frzs_nil, frzs_cons, frz_dat, intT_int, outs, als, argsOf, putArgs, fCall, eqv_int, shp_int, shp_none, shp_bool, noOwn, ownAt, sizeLine_eq, fIter, itemsOf, fRange1, fRange2, eqX_int, eqX_str, fEnumA, fFrz, fNever, permOk, perm, fCallK, fCallP, gMax2, gMin2, gMax3, gMin3, fPar2, fMulti, putM, fAsgG, fLc, drawB, fBagPop, fBagPut, bagS, powOk, hx, hx']
          · have hx' : ¬ (1000000000 : Int) < x := by omega
            simp [fnOf, fSeq, fNil, fSet, fRet, fDrop, fIf, fFgt, fgtO, fgt, fFor, fIfE, fT, fTru, truD, fAnd, fOr, fNot, fAndV, fOrV, fNotV, fOp2, fVar, fC, fB, fACons, fANil, fTup, fLst, fNeg, gRel, gInt2, gInt2C, gAdd, gMulX_int, gIx, gLen, gAbs, gInt, gEq, gIs, gIsNot, dv_dat, dv_lst, dv_al, dvs, own_dat, own_lst, own_bag, own_dcK, own_scr, flat_dat, flat_lst, Res.fin, frzs_nil, frzs_cons, frz_dat, intT_int, outs, als, argsOf, putArgs, fCall, eqv_int, shp_int, shp_none, shp_bool, noOwn, ownAt, sizeLine_eq, fIter, itemsOf, fRange1, fRange2, eqX_int, eqX_str, fEnumA, fFrz, fNever, permOk, perm, fCallK, fCallP, gMax2, gMin2, gMax3, gMin3, fPar2, fMulti, putM, fAsgG, fLc, drawB, fBagPop, fBagPut, bagS, powOk, hx, hx']
        rw [fWhile_step h1 h2, e]
    · refine ⟨c, b, ?_, Nat.le_refl _⟩
      simp [fnOf, fSeq, fNil, fSet, fRet, fDrop, fIf, fFgt, fgtO, fgt, fFor, fIfE, fT, fTru, truD, fAnd, fOr, fNot, fAndV, fOrV, fNotV, fOp2, fVar, fC, fB, fACons, fANil, fTup, fLst, fNeg, gRel, gInt2, gInt2C, gAdd, gMulX_int, gIx, gLen, gAbs, gInt, gEq, gIs, gIsNot, dv_dat, dv_lst, dv_al, dvs, own_dat, own_lst, own_bag, own_dcK, own_scr, flat_dat, flat_lst, Res.fin, frzs_nil, frzs_cons, frz_dat, intT_int, outs, als, argsOf, putArgs, fCall, eqv_int, shp_int, shp_none, shp_bool, noOwn, ownAt, sizeLine_eq, fIter, itemsOf, fRange1, fRange2, eqX_int, eqX_str, fEnumA, fFrz, fNever, permOk, perm, fCallK, fCallP, gMax2, gMin2, gMax3, gMin3, fPar2, fMulti, putM, fAsgG, fLc, fWhile, drawC, drawB, fBagIx, fBagNe, bagS, hb]
def drawF : FF := fnOf 2 4 (fSeq (fWhile drawC drawB DRAWS) (fSeq (fIf (fT (fOp2 gGt false (fBagIx 0 1) (fC (.int 0)))) (fSeq (fSet 2 3 (fOp2 gMod false (fB gInt false (fACons (fBagIx 0 1) fANil)) (fVar 1))) (fSeq (fBagPut 0 1 (fOp2 gDiv false (fBagIx 0 1) (fVar 1))) (fRet 2 true (fVar 3)))) fNil)
  (fSeq (fBagPut 0 2 (fOp2 gMod false (fB gInt false (fACons (fOp2 gAdd false (fOp2 gMulX false (fBagIx 0 2) (fC (.int 48271))) (fC (.int 11))) fANil)) (fC (.int 2147483647)))) (fRet 2 true (fOp2 gMod false (fB gInt false (fACons (fOp2 gDiv false (fOp2 gMod false (fB gInt false (fACons (fOp2 gMulX false (fBagIx 0 2) (fBagIx 0 2)) fANil)) (fC (.int 2147483629))) (fC (.int 7))) fANil)) (fVar 1))))))
theorem drawF_ok {B : MD} {n : Int} (h : BagOk B) (hn : 0 < n) (hn2 : n < 2 ^ 64) : ∃ v B', drawF [B, .dat (.int n)] = some (.dat (.int v), [some B', none]) ∧ BagOk B' ∧ 0 ≤ v ∧ v < n := by
  obtain ⟨c, b, m, rfl, hc, hm, hm2⟩ := h
  obtain ⟨c', b', e, hl⟩ := draw_while m n DRAWS c b (by unfold DRAWS; omega)
  have hd : ∀ i : Int, divOk i n = true := fun i => divOk_of hn (Nat.lt_of_lt_of_le (by omega) big64)
  by_cases hb : 0 < b'
  · refine ⟨b' % n, .bag c' (b' / n) m, ?_, ⟨_, _, _, rfl, by omega, hm, hm2⟩, Int.emod_nonneg _ (by omega), Int.emod_lt_of_pos _ hn⟩
    simp [fnOf, fSeq, fNil, fSet, fRet, fDrop, fIf, fFgt, fgtO, fgt, fFor, fIfE, fT, fTru, truD, fAnd, fOr, fNot, fAndV, fOrV, fNotV, fOp2, fVar, fC, fB, fACons, fANil, fTup, fLst, fNeg, gRel, gInt2, gInt2C, gAdd, gMulX_int, gIx, gLen, gAbs, gInt, gEq, gIs, gIsNot, dv_dat, dv_lst, dv_al, dvs, own_dat, own_lst, own_bag, own_dcK, own_scr, flat_dat, flat_lst, Res.fin, frzs_nil, frzs_cons, frz_dat, intT_int, outs, als, argsOf, putArgs, fCall, eqv_int, shp_int, shp_none, shp_bool, noOwn, ownAt, sizeLine_eq, fIter, itemsOf, fRange1, fRange2, eqX_int, eqX_str, fEnumA, fFrz, fNever, permOk, perm, fCallK, fCallP, gMax2, gMin2, gMax3, gMin3, fPar2, fMulti, putM, fAsgG, fLc, drawF, e, fBagIx, fBagPut, bagS, hb, hn, hd]
  · have h1 : mulOk m 48271 = true := mulOk_of (Nat.lt_of_lt_of_le (by omega) big64) (Nat.lt_of_lt_of_le (by decide) big64)
    have k1 : 0 ≤ (m * 48271 + 11) % 2147483647 := Int.emod_nonneg _ (by omega)
    have k2 : (m * 48271 + 11) % 2147483647 < 2147483647 := Int.emod_lt_of_pos _ (by omega)
    have h2 : mulOk ((m * 48271 + 11) % 2147483647) ((m * 48271 + 11) % 2147483647) = true := mulOk_of (Nat.lt_of_lt_of_le (by omega) big64) (Nat.lt_of_lt_of_le (by omega) big64)
    have h3 : ∀ i : Int, divOk i 7 = true := fun i => divOk_of (by decide) (Nat.lt_of_lt_of_le (by decide) big64)
    refine ⟨(((m * 48271 + 11) % 2147483647) * ((m * 48271 + 11) % 2147483647)) % 2147483629 / 7 % n, .bag c' b' ((m * 48271 + 11) % 2147483647), ?_, ⟨_, _, _, rfl, by omega, k1, k2⟩, Int.emod_nonneg _ (by omega), Int.emod_lt_of_pos _ hn⟩
    simp [fnOf, fSeq, fNil, fSet, fRet, fDrop, fIf, fFgt, fgtO, fgt, fFor, fIfE, fT, fTru, truD, fAnd, fOr, fNot, fAndV, fOrV, fNotV, fOp2, fVar, fC, fB, fACons, fANil, fTup, fLst, fNeg, gRel, gInt2, gInt2C, gAdd, gMulX_int, gIx, gLen, gAbs, gInt, gEq, gIs, gIsNot, dv_dat, dv_lst, dv_al, dvs, own_dat, own_lst, own_bag, own_dcK, own_scr, flat_dat, flat_lst, Res.fin, frzs_nil, frzs_cons, frz_dat, intT_int, outs, als, argsOf, putArgs, fCall, eqv_int, shp_int, shp_none, shp_bool, noOwn, ownAt, sizeLine_eq, fIter, itemsOf, fRange1, fRange2, eqX_int, eqX_str, fEnumA, fFrz, fNever, permOk, perm, fCallK, fCallP, gMax2, gMin2, gMax3, gMin3, fPar2, fMulti, putM, fAsgG, fLc, drawF, e, fBagIx, fBagPut, bagS, hb, hn, h1, h2, h3]
/-- a bag that is made smaller by 2 where 1 is drawn below -/
def draw2F : FF := fnOf 2 4 (fSeq (fWhile drawC drawB DRAWS) (fSeq (fIf (fT (fOp2 gGt false (fBagIx 0 1) (fC (.int 0)))) (fSeq (fSet 2 3 (fOp2 gMod false (fB gInt false (fACons (fBagIx 0 1) fANil)) (fVar 1))) (fSeq (fBagPut 0 1 (fIfE (fT (fOp2 gGt false (fVar 1) (fC (.int 1)))) (fOp2 gDiv false (fBagIx 0 1) (fVar 1)) (fOp2 gDiv false (fBagIx 0 1) (fC (.int 2))))) (fRet 2 true (fVar 3)))) fNil)
  (fSeq (fBagPut 0 2 (fOp2 gMod false (fB gInt false (fACons (fOp2 gAdd false (fOp2 gMulX false (fBagIx 0 2) (fC (.int 48271))) (fC (.int 11))) fANil)) (fC (.int 2147483647)))) (fRet 2 true (fOp2 gMod false (fB gInt false (fACons (fOp2 gDiv false (fOp2 gMod false (fB gInt false (fACons (fOp2 gMulX false (fBagIx 0 2) (fBagIx 0 2)) fANil)) (fC (.int 2147483629))) (fC (.int 7))) fANil)) (fVar 1))))))
theorem draw2F_ok {B : MD} {n : Int} (h : BagOk B) (hn : 0 < n) (hn2 : n < 2 ^ 64) : ∃ v B', draw2F [B, .dat (.int n)] = some (.dat (.int v), [some B', none]) ∧ BagOk B' ∧ 0 ≤ v ∧ v < n := by
  obtain ⟨c, b, m, rfl, hc, hm, hm2⟩ := h
  obtain ⟨c', b', e, hl⟩ := draw_while m n DRAWS c b (by unfold DRAWS; omega)
  have hd : ∀ i : Int, divOk i n = true := fun i => divOk_of hn (Nat.lt_of_lt_of_le (by omega) big64)
  by_cases hb : 0 < b'
  · refine ⟨b' % n, .bag c' (if 1 < n then b' / n else b' / 2) m, ?_, ⟨_, _, _, rfl, by omega, hm, hm2⟩, Int.emod_nonneg _ (by omega), Int.emod_lt_of_pos _ hn⟩
    have h22 : ∀ i : Int, divOk i 2 = true := fun i => divOk_of (by decide) (Nat.lt_of_lt_of_le (by decide) big64)
    by_cases h1n : 1 < n
    · simp [fnOf, fSeq, fNil, fSet, fRet, fDrop, fIf, fFgt, fgtO, fgt, fFor, fIfE, fT, fTru, truD, fAnd, fOr, fNot, fAndV, fOrV, fNotV, fOp2, fVar, fC, fB, fACons, fANil, fTup, fLst, fNeg, gRel, gInt2, gInt2C, gAdd, gMulX_int, gIx, gLen, gAbs, gInt, gEq, gIs, gIsNot, dv_dat, dv_lst, dv_al, dvs, own_dat, own_lst, own_bag, own_dcK, own_scr, flat_dat, flat_lst, Res.fin, frzs_nil, frzs_cons, frz_dat, intT_int, outs, als, argsOf, putArgs, fCall, eqv_int, shp_int, shp_none, shp_bool, noOwn, ownAt, sizeLine_eq, fIter, itemsOf, fRange1, fRange2, eqX_int, eqX_str, fEnumA, fFrz, fNever, permOk, perm, fCallK, fCallP, gMax2, gMin2, gMax3, gMin3, fPar2, fMulti, putM, fAsgG, fLc, draw2F, e, fBagIx, fBagPut, bagS, hb, hn, hd, h1n]
    · simp [fnOf, fSeq, fNil, fSet, fRet, fDrop, fIf, fFgt, fgtO, fgt, fFor, fIfE, fT, fTru, truD, fAnd, fOr, fNot, fAndV, fOrV, fNotV, fOp2, fVar, fC, fB, fACons, fANil, fTup, fLst, fNeg, gRel, gInt2, gInt2C, gAdd, gMulX_int, gIx, gLen, gAbs, gInt, gEq, gIs, gIsNot, dv_dat, dv_lst, dv_al, dvs, own_dat, own_lst, own_bag, own_dcK, own_scr, flat_dat, flat_lst, Res.fin, frzs_nil, frzs_cons, frz_dat, intT_int, outs, als, argsOf, putArgs, fCall, eqv_int, shp_int, shp_none, shp_bool, noOwn, ownAt, sizeLine_eq, fIter, itemsOf, fRange1, fRange2, eqX_int, eqX_str, fEnumA, fFrz, fNever, permOk, perm, fCallK, fCallP, gMax2, gMin2, gMax3, gMin3, fPar2, fMulti, putM, fAsgG, fLc, draw2F, e, fBagIx, fBagPut, bagS, hb, hn, hd, h1n, h22]
  · have h1 : mulOk m 48271 = true := mulOk_of (Nat.lt_of_lt_of_le (by omega) big64) (Nat.lt_of_lt_of_le (by decide) big64)
    have k1 : 0 ≤ (m * 48271 + 11) % 2147483647 := Int.emod_nonneg _ (by omega)
    have k2 : (m * 48271 + 11) % 2147483647 < 2147483647 := Int.emod_lt_of_pos _ (by omega)
    have h2 : mulOk ((m * 48271 + 11) % 2147483647) ((m * 48271 + 11) % 2147483647) = true := mulOk_of (Nat.lt_of_lt_of_le (by omega) big64) (Nat.lt_of_lt_of_le (by omega) big64)
    have h3 : ∀ i : Int, divOk i 7 = true := fun i => divOk_of (by decide) (Nat.lt_of_lt_of_le (by decide) big64)
    refine ⟨(((m * 48271 + 11) % 2147483647) * ((m * 48271 + 11) % 2147483647)) % 2147483629 / 7 % n, .bag c' b' ((m * 48271 + 11) % 2147483647), ?_, ⟨_, _, _, rfl, by omega, k1, k2⟩, Int.emod_nonneg _ (by omega), Int.emod_lt_of_pos _ hn⟩
    simp [fnOf, fSeq, fNil, fSet, fRet, fDrop, fIf, fFgt, fgtO, fgt, fFor, fIfE, fT, fTru, truD, fAnd, fOr, fNot, fAndV, fOrV, fNotV, fOp2, fVar, fC, fB, fACons, fANil, fTup, fLst, fNeg, gRel, gInt2, gInt2C, gAdd, gMulX_int, gIx, gLen, gAbs, gInt, gEq, gIs, gIsNot, dv_dat, dv_lst, dv_al, dvs, own_dat, own_lst, own_bag, own_dcK, own_scr, flat_dat, flat_lst, Res.fin, frzs_nil, frzs_cons, frz_dat, intT_int, outs, als, argsOf, putArgs, fCall, eqv_int, shp_int, shp_none, shp_bool, noOwn, ownAt, sizeLine_eq, fIter, itemsOf, fRange1, fRange2, eqX_int, eqX_str, fEnumA, fFrz, fNever, permOk, perm, fCallK, fCallP, gMax2, gMin2, gMax3, gMin3, fPar2, fMulti, putM, fAsgG, fLc, draw2F, e, fBagIx, fBagPut, bagS, hb, hn, h1, h2, h3]
end Fx

end

/-! Fy2: picks, the bag that is made of the script, gcd -/
noncomputable section
namespace Fx
open PySem PySem.Spec PyProof.Rows L2

/-- a def that draws -/
def DrawOk (D : FF) : Prop := ∀ (B : MD) (n : Int), BagOk B → 0 < n → n < 2 ^ 64 → ∃ v B', D [B, .dat (.int n)] = some (.dat (.int v), [some B', none]) ∧ BagOk B' ∧ 0 ≤ v ∧ v < n
theorem drawOk : DrawOk drawF := fun B n h h1 h2 => drawF_ok h h1 h2
def pickF (D : FF) : FF := fnOf 2 2 (fRet 2 true (fOp2 gIx false (fVar 1) (fCall D (fACons (fVar 0) (fACons (fB gLen false (fACons (fVar 1) fANil)) fANil)))))
theorem pickF_ok {D : FF} (hD : DrawOk D) {B : MD} {ds : List PyData} (h : BagOk B) (h0 : ds ≠ []) (hl : ds.length < 2 ^ 64) : ∃ d B', pickF D [B, .dat (.list ds)] = some (.dat d, [some B', none]) ∧ BagOk B' ∧ d ∈ ds := by
  have hp : 0 < ds.length := List.length_pos_iff.mpr h0
  obtain ⟨v, B', e, h', v0, v1⟩ := hD B ds.length h (by omega) (by omega)
  obtain ⟨j, rfl⟩ : ∃ j : Nat, v = (j : Int) := ⟨v.toNat, by omega⟩
  have hj : j < ds.length := by omega
  have ej : ds[j]? = some ds[j] := List.getElem?_eq_getElem hj
  refine ⟨ds[j], B', ?_, h', List.getElem_mem hj⟩
  simp [fnOf, fSeq, fNil, fSet, fRet, fDrop, fIf, fFgt, fgtO, fgt, fFor, fIfE, fT, fTru, truD, fAnd, fOr, fNot, fAndV, fOrV, fNotV, fOp2, fVar, fC, fB, fACons, fANil, fTup, fLst, fNeg, gRel, gInt2, gInt2C, gAdd, gMulX_int, gIx, gLen, gAbs, gInt, gEq, gIs, gIsNot, dv_dat, dv_lst, dv_al, dvs, own_dat, own_lst, own_bag, own_dcK, own_scr, flat_dat, flat_lst, Res.fin, frzs_nil, frzs_cons, frz_dat, intT_int, outs, als, argsOf, putArgs, fCall, eqv_int, shp_int, shp_none, shp_bool, noOwn, ownAt, sizeLine_eq, fIter, itemsOf, fRange1, fRange2, eqX_int, eqX_str, fEnumA, fFrz, fNever, permOk, perm, fCallK, fCallP, gMax2, gMin2, gMax3, gMin3, fPar2, fMulti, putM, fAsgG, fLc, pickF, h.own, h'.own, e, atI_nat ej]
theorem pickF_okT {D : FF} (hD : DrawOk D) {B : MD} {ds : List PyData} (h : BagOk B) (h0 : ds ≠ []) (hl : ds.length < 2 ^ 64) : ∃ d B', pickF D [B, .dat (.tuple ds)] = some (.dat d, [some B', none]) ∧ BagOk B' ∧ d ∈ ds := by
  have hp : 0 < ds.length := List.length_pos_iff.mpr h0
  obtain ⟨v, B', e, h', v0, v1⟩ := hD B ds.length h (by omega) (by omega)
  obtain ⟨j, rfl⟩ : ∃ j : Nat, v = (j : Int) := ⟨v.toNat, by omega⟩
  have hj : j < ds.length := by omega
  have ej : ds[j]? = some ds[j] := List.getElem?_eq_getElem hj
  refine ⟨ds[j], B', ?_, h', List.getElem_mem hj⟩
  simp [fnOf, fSeq, fNil, fSet, fRet, fDrop, fIf, fFgt, fgtO, fgt, fFor, fIfE, fT, fTru, truD, fAnd, fOr, fNot, fAndV, fOrV, fNotV, fOp2, fVar, fC, fB, fACons, fANil, fTup, fLst, fNeg, gRel, gInt2, gInt2C, gAdd, gMulX_int, gIx, gLen, gAbs, gInt, gEq, gIs, gIsNot, dv_dat, dv_lst, dv_al, dvs, own_dat, own_lst, own_bag, own_dcK, own_scr, flat_dat, flat_lst, Res.fin, frzs_nil, frzs_cons, frz_dat, intT_int, outs, als, argsOf, putArgs, fCall, eqv_int, shp_int, shp_none, shp_bool, noOwn, ownAt, sizeLine_eq, fIter, itemsOf, fRange1, fRange2, eqX_int, eqX_str, fEnumA, fFrz, fNever, permOk, perm, fCallK, fCallP, gMax2, gMin2, gMax3, gMin3, fPar2, fMulti, putM, fAsgG, fLc, pickF, h.own, h'.own, e, atI_nat ej]

/-! ### kinds of values -/
theorem kit_eq (T : String) (h : kitB T T = some true := by decide) : kitB T T = some true := h
theorem kit1 : kitB "tuple" "tuple" = some true := by decide
theorem kit2 : kitB "int" "tuple" = some false := by decide
theorem kit3 : kitB "str" "tuple" = some false := by decide
theorem kit4 : kitB "NoneType" "tuple" = some false := by decide
theorem kit5 : kitB "int" "str" = some false := by decide
theorem kit6 : kitB "str" "str" = some true := by decide
theorem kit7 : kitB "int" "int" = some true := by decide
theorem kit8 : kitB "int" "bool" = some false := by decide
theorem cut63 {α : Type} (l : List α) (h : l.length ≤ 63) : cutL l none (some 63) = l := by
  refine cutL_whole ⟨rfl, ?_⟩
  rw [show (some (63 : Int)) = some ((63 : Nat) : Int) from rfl, HT.sIx_nat]
  omega
theorem zipD_self (ds : List PyData) : zipD ds ds = ds.map fun d => .tuple [d, d] := by
  unfold zipD
  induction ds with
  | nil => rfl
  | cons d r ih => rw [List.zip_cons_cons, List.map_cons, List.map_cons, ih]
theorem gAll_true (ds : List PyData) : gAll [.list (ds.map fun _ => PyData.bool true)] = some (.val (.bool true)) := by
  have e : (ds.map fun _ => PyData.bool true) = (ds.map fun _ => true).map PyData.bool := by rw [List.map_map]; rfl
  show (boolsOf (ds.map fun _ => PyData.bool true)).map (fun bs => Res.val (.bool (bs.all id))) = _
  rw [e, boolsOf_map]
  simp
theorem rangeD0 (n : Nat) : rangeD 0 n = (List.range n).map fun (x : Nat) => PyData.int x := by
  unfold rangeD
  simp
theorem rg1_nat {p : Nat} (h : p < 2 ^ 62) : rg1 p = some ((List.range p).map fun (x : Nat) => PyData.int x) := by
  unfold rg1
  rw [if_pos (show rgOk p = true from decide_eq_true (by omega)), Int.toNat_natCast, rangeD0]
theorem rgA_nat {p : Nat} (h : p ≤ 2 ^ 24) : rgA p = some ((List.range p).map fun (x : Nat) => PyData.int x) := by
  unfold rgA
  rw [if_pos (show rg2Ok 0 p = true from decide_eq_true (by omega)), Int.toNat_natCast, rangeD0]
theorem cut_from {α : Type} (l : List α) (b : Nat) (h : b ≤ l.length) : cutL l (some (b : Int)) none = l.drop b := by
  unfold cutL
  rw [HT.sIx_nat, HT.sIx_none, Nat.min_eq_left h, List.take_of_length_le (by simp)]
theorem cut_to {α : Type} (l : List α) (b : Nat) (h : b ≤ l.length) : cutL l none (some (b : Int)) = l.take b := by
  unfold cutL
  rw [HT.sIx_nat, HT.sIx_none, Nat.min_eq_left h, Nat.sub_zero, List.drop_zero]
theorem gSum_ints (l : List Int) : gSum [.list (l.map .int)] = some (.val (.int l.sum)) := by
  show (intsOf (l.map .int)).map _ = _
  rw [intsOf_map]
  rfl
/-- plain data: whole numbers, texts, None, tuples of such -/
inductive Plain : Nat → PyData → Prop
  | int (n : Nat) (i : Int) : Plain (n + 1) (.int i)
  | str (n : Nat) (x : Str) : x.length ≤ sizeLine → shp (.str x) = true → PyData.eqv (.str x) (.str x) = true → Plain (n + 1) (.str x)
  | non (n : Nat) : Plain (n + 1) .none
  | tup (n : Nat) (ds : List PyData) : ds.length ≤ sizeLine → (∀ d ∈ ds, Plain n d) → Plain (n + 1) (.tuple ds)
end Fx

end

/-! Fy3: tallies: in a dict, in a list -/
noncomputable section
namespace Fx
open PySem PySem.Spec PyProof.Rows L2

theorem isum_perm {l m : List Int} (h : l.Perm m) : l.sum = m.sum := by
  induction h with
  | nil => rfl
  | cons x _ ih => simp [ih]
  | swap x y l => simp; omega
  | trans _ _ h1 h2 => exact h1.trans h2
theorem sum_one {L : List Int} (nd : L.Nodup) {x : Int} (hx : x ∈ L) (f : Int → Int) : (L.map fun n => (if x = n then 1 else 0) * f n).sum = f x := by
  induction L with
  | nil => cases hx
  | cons y L ih =>
    have nd' := List.nodup_cons.mp nd
    rw [List.map_cons, List.sum_cons]
    by_cases e : x = y
    · subst e
      have z : (L.map fun n => (if x = n then 1 else 0) * f n).sum = 0 := by
        have : ∀ M : List Int, x ∉ M → (M.map fun n => (if x = n then 1 else 0) * f n).sum = 0 := by
          intro M
          induction M with
          | nil => intro _; rfl
          | cons z M ihM =>
            intro h
            have h' : x ≠ z ∧ x ∉ M := by simpa using h
            rw [List.map_cons, List.sum_cons, if_neg h'.1, ihM h'.2]
            simp
        exact this L nd'.1
      rw [if_pos rfl, z]
      simp
    · rw [if_neg e, ih nd'.2 ((List.mem_cons.mp hx).resolve_left e)]
      simp
/-- summed by what is met, each with its number of times -/
theorem tally_sum {L l : List Int} (nd : L.Nodup) (sub : ∀ x ∈ l, x ∈ L) (f : Int → Int) : (L.map fun n => (l.count n : Int) * f n).sum = (l.map f).sum := by
  induction l with
  | nil =>
    have : ∀ M : List Int, (M.map fun n => ((([] : List Int).count n : Nat) : Int) * f n).sum = 0 := by
      intro M
      induction M with
      | nil => rfl
      | cons z M ih => rw [List.map_cons, List.sum_cons, ih]; simp
    exact this L
  | cons x l ih =>
    have ih' := ih fun y hy => sub y (List.mem_cons_of_mem _ hy)
    rw [List.map_cons, List.sum_cons, ← ih', ← sum_one nd (sub x List.mem_cons_self) f]
    have : ∀ M : List Int, (M.map fun n => (((x :: l).count n : Nat) : Int) * f n).sum = (M.map fun n => (if x = n then 1 else 0) * f n).sum + (M.map fun n => (l.count n : Int) * f n).sum := by
      intro M
      induction M with
      | nil => rfl
      | cons z M ihM =>
        rw [List.map_cons, List.sum_cons, ihM, List.map_cons, List.sum_cons, List.map_cons, List.sum_cons, List.count_cons]
        by_cases e : x = z
        · subst e
          simp [Int.add_mul]
          omega
        · have e' : (x == z) = false := by simpa using e
          simp [e, e']
          omega
    exact this L
/-! ### in a dict -/
def dtal (l : List Int) : List (Key × PyData) := (dd l).map fun n => (Sum.inl n, PyData.int (l.count n))
theorem dtal_val (l : List Int) (n : Int) : (valD (dtal l) (.inl n)).getD (.int 0) = .int (l.count n) := by
  have go : ∀ M : List Int, (valD (M.map fun m => ((Sum.inl m : Key), PyData.int (l.count m))) (.inl n)) = if n ∈ M then some (.int (l.count n)) else none := by
    intro M
    induction M with
    | nil => rfl
    | cons z M ih =>
      unfold valD at ih ⊢
      rw [List.map_cons, List.find?_cons]
      by_cases e : z = n
      · subst e
        simp
      · have e' : decide ((Sum.inl z : Key) = Sum.inl n) = false := decide_eq_false fun h => e (Sum.inl.inj h)
        rw [e', ih]
        have : n ∈ z :: M ↔ n ∈ M := by simp [Ne.symm e]
        simp [this]
  unfold dtal
  rw [go]
  split
  · rfl
  · rename_i h
    have : n ∉ l := fun hn => h (((dd_nodup_mem l).2 n).mpr hn)
    rw [List.count_eq_zero.mpr this]
    rfl
theorem dtal_put (l : List Int) (n : Int) : putD (dtal l) (.inl n) (.int (l.count n + 1)) = dtal (l ++ [n]) := by
  have hc : ∀ m : Int, (l ++ [n]).count m = l.count m + if n = m then 1 else 0 := fun m => by
    rw [List.count_append, List.count_cons, List.count_nil]
    by_cases e : n = m
    · subst e; simp
    · simp [e]
  have any : ((dtal l).any fun p => decide (p.1 = (.inl n : Key))) = decide (n ∈ dd l) := by
    unfold dtal
    induction dd l with
    | nil => rfl
    | cons z M ih =>
      rw [List.map_cons, List.any_cons, ih]
      by_cases e : z = n
      · subst e; simp
      · have e' : decide ((Sum.inl z : Key) = Sum.inl n) = false := decide_eq_false fun h => e (Sum.inl.inj h)
        show (decide ((Sum.inl z : Key) = Sum.inl n) || _) = _
        rw [e']
        simp [Ne.symm e]
  unfold putD
  rw [any]
  by_cases h : n ∈ dd l
  · rw [if_pos (decide_eq_true h)]
    unfold dtal
    rw [dd_snoc, if_pos h, List.map_map]
    refine List.map_congr_left fun m _ => ?_
    show (if (Sum.inl m : Key) = Sum.inl n then ((Sum.inl m : Key), PyData.int (l.count n + 1)) else (Sum.inl m, PyData.int (l.count m))) = _
    by_cases e : m = n
    · subst e
      rw [if_pos rfl, hc, if_pos rfl]
      rfl
    · rw [if_neg (fun z => e (Sum.inl.inj z)), hc, if_neg (Ne.symm e)]
      rfl
  · rw [if_neg (by simpa using h)]
    unfold dtal
    rw [dd_snoc, if_neg h, List.map_append]
    have h0 : l.count n = 0 := List.count_eq_zero.mpr fun z => h (((dd_nodup_mem l).2 n).mpr z)
    congr 1
    · refine List.map_congr_left fun m hm => ?_
      rw [hc, if_neg (fun (z : n = m) => h (z ▸ hm))]
      rfl
    · show [((Sum.inl n : Key), PyData.int (l.count n + 1))] = [(Sum.inl n, PyData.int ((l ++ [n]).count n : Nat))]
      rw [hc, if_pos rfl]
      rfl
theorem dtal_keys (l : List Int) : intK (dtal l) = some (dd l) := by
  unfold dtal
  induction dd l with
  | nil => rfl
  | cons z M ih =>
    show (intK (M.map fun n => ((Sum.inl n : Key), PyData.int (l.count n)))).map (fun r => z :: r) = some (z :: M)
    rw [ih]
    rfl
/-! ### in a list -/
def tally (k : Nat) (l : List Int) : List PyData := (List.range (k + 1)).map fun (j : Nat) => PyData.int (l.count (j : Int))
theorem tally_nil (k : Nat) : tally k [] = List.replicate (k + 1) (.int 0) := by
  unfold tally
  apply List.ext_getElem
  · simp
  · intro i h1 h2
    simp
theorem tally_set {k n : Nat} (l : List Int) (h : n ≤ k) : (tally k l).set n (.int (l.count (n : Int) + 1)) = tally k (l ++ [(n : Int)]) := by
  unfold tally
  apply List.ext_getElem
  · simp
  · intro i h1 h2
    simp only [List.getElem_set, List.getElem_map, List.getElem_range]
    rw [List.count_append, List.count_cons, List.count_nil]
    by_cases e : n = i
    · subst e; simp
    · have : ¬ (n : Int) = i := by omega
      simp [e, this]
theorem tally_get {k n : Nat} (l : List Int) (h : n ≤ k) : (tally k l)[n]? = some (.int (l.count (n : Int))) := by
  unfold tally
  rw [List.getElem?_map, List.getElem?_range (by omega)]
  rfl
end Fx

end

/-! Fy4: loops as folds and searches, texts that repr tells -/
noncomputable section
namespace Fx
open PySem PySem.Spec PyProof.Rows L2

/-! ### loops -/
/-- a loop that hands a state on -/
theorem loopS_foldI {σ α : Type} {tg : FG} {b : FS} {g : α → PyData} {st : σ → Gm} {f : σ → α → σ} (I : σ → Prop) : ∀ (l : List α) (s : σ), I s → (∀ x ∈ l, ∀ s, I s → lsStep tg b (g x) (st s) = some (.nx (st (f s x))) ∧ I (f s x)) → loopS tg b (l.map g) (st s) = some (.nx (st (l.foldl f s))) ∧ I (l.foldl f s)
  | [], s, hs, _ => ⟨rfl, hs⟩
  | x :: l, s, hs, h => by
    obtain ⟨h1, h2⟩ := h x List.mem_cons_self s hs
    have ih := loopS_foldI (tg := tg) (b := b) (g := g) (st := st) (f := f) I l (f s x) h2 fun y hy => h y (List.mem_cons_of_mem _ hy)
    rw [List.map_cons, loopS_cons, h1]
    exact ih
theorem loopS_fold {σ α : Type} {tg : FG} {b : FS} {g : α → PyData} {st : σ → Gm} {f : σ → α → σ} (l : List α) (s : σ) (h : ∀ x ∈ l, ∀ s, lsStep tg b (g x) (st s) = some (.nx (st (f s x)))) : loopS tg b (l.map g) (st s) = some (.nx (st (l.foldl f s))) :=
  (loopS_foldI (fun _ => True) l s True.intro fun x hx s _ => ⟨h x hx s, True.intro⟩).1
/-- a loop that searches -/
theorem loopS_find {α : Type} {tg : FG} {b : FS} {g : α → PyData} {Γ : Gm} {p : α → Option (MD × Gm)} : ∀ (l : List α), (∀ x ∈ l, lsStep tg b (g x) Γ = some (match p x with | none => .nx Γ | some (m, Γ') => .rt m Γ')) → loopS tg b (l.map g) Γ = some (match l.findSome? p with | none => .nx Γ | some (m, Γ') => .rt m Γ')
  | [], _ => rfl
  | x :: l, h => by
    have h1 := h x List.mem_cons_self
    have ih := loopS_find (tg := tg) (b := b) (g := g) (Γ := Γ) (p := p) l fun y hy => h y (List.mem_cons_of_mem _ hy)
    rw [List.map_cons, loopS_cons, h1, List.findSome?_cons]
    cases hp : p x with
    | none => exact ih
    | some q => rfl
/-- all turns are gone through -/
theorem loopS_all {α : Type} {tg : FG} {b : FS} {g : α → PyData} {Γ : Gm} (l : List α) (h : ∀ x ∈ l, lsStep tg b (g x) Γ = some (.nx Γ)) : loopS tg b (l.map g) Γ = some (.nx Γ) := by
  have := loopS_find (tg := tg) (b := b) (g := g) (Γ := Γ) (p := fun _ => none) l h
  rw [this]
  have e : l.findSome? (fun _ => (none : Option (MD × Gm))) = none := by simp
  rw [e]
theorem enumD_map {α : Type} (g : α → PyData) (l : List α) : enumD (l.map g) = l.zipIdx.map fun p => .tuple [.int (p.2 : Nat), g p.1] := by
  unfold enumD
  rw [List.zipIdx_map, List.map_map]
  rfl
theorem zipD_map {α β : Type} (f : α → PyData) (g : β → PyData) (l : List α) (m : List β) : zipD (l.map f) (m.map g) = (l.zip m).map fun p => .tuple [f p.1, g p.2] := by
  unfold zipD
  rw [List.zip_map, List.map_map]
  rfl
theorem gSumA_list (l : List Int) : gSumA [.list (l.map .int)] = some (.val (.int l.sum)) := by
  show (intsOf (l.map .int)).map _ = _
  rw [intsOf_map]
  rfl
theorem gSumA_tuple (l : List Int) : gSumA [.tuple (l.map .int)] = some (.val (.int l.sum)) := by
  show (intsOf (l.map .int)).map _ = _
  rw [intsOf_map]
  rfl
theorem gAll_trueA {α : Type} (l : List α) : gAll [.list (l.map fun _ => PyData.bool true)] = some (.val (.bool true)) := by
  have e : (l.map fun _ => PyData.bool true) = (l.map fun _ => true).map PyData.bool := by rw [List.map_map]; rfl
  show (boolsOf (l.map fun _ => PyData.bool true)).map (fun bs => Res.val (.bool (bs.all id))) = _
  rw [e, boolsOf_map]
  simp
/-! ### what repr tells -/
/-- data of depth n whose text is no longer than 1930 c signs -/
def Rp (n c : Nat) (d : PyData) : Prop := d.showable = true ∧ d.canLay0 = true ∧ d.depth ≤ n ∧ d.shown.length + 4 ≤ 1930 * c
theorem Rp.mono {n m c e : Nat} {d : PyData} (h : Rp n c d) (h1 : n ≤ m) (h2 : c ≤ e) : Rp m e d := ⟨h.1, h.2.1, by have := h.2.2.1; omega, by have := h.2.2.2; have := Nat.mul_le_mul_left 1930 h2; omega⟩
theorem Rp.int {i : Int} (h : i.natAbs.log2 < 1920) : Rp 0 1 (.int i) := ⟨by simpa [PyData.showable] using h, rfl, Nat.le_refl _, by
  have := int_text_len_1921 h
  have e : (PyData.int i).shown = PySem.Str.ofString (toString i) := rfl
  rw [e]
  omega⟩
theorem Rp.small {i : Int} (h : i.natAbs < 2 ^ 1000) : Rp 0 1 (.int i) := .int (by
  by_cases h0 : i.natAbs = 0
  · rw [h0]; decide
  · have := (Nat.log2_lt h0).mpr h
    omega)
theorem Rp.non : Rp 0 1 .none := ⟨rfl, rfl, Nat.le_refl _, by decide +kernel⟩
theorem Rp.bool (b : Bool) : Rp 0 1 (.bool b) := ⟨rfl, rfl, Nat.le_refl _, by cases b <;> decide +kernel⟩
theorem Rp.str {x : Str} (h : (PyData.str x).canLay0 = true) (hl : x.length ≤ 100) : Rp 0 1 (.str x) := ⟨rfl, h, Nat.le_refl _, by
  have e : (PyData.str x).shown = reprText x := PyData.shown_str x
  have h' : PyData.strOk x = true := by simpa only [PyData.canLay0] using h
  have := StrLaws.reprText_len x fun c hc => by
    unfold PyData.strOk at h'
    have := Array.all_eq_true_iff_forall_mem.mp h' c (by simpa using hc)
    have : c < 0x110000 := by simpa using this
    omega
  rw [e]
  omega⟩
theorem shownAll_map : ∀ ds : List PyData, PyData.shownAll ds = ds.map PyData.shown
  | [] => rfl
  | d :: ds => by rw [PyData.shownAll, shownAll_map ds, List.map_cons]
theorem Rp.all {n c : Nat} : ∀ {ds : List PyData}, (∀ d ∈ ds, Rp n c d) → PyData.showableAll ds = true ∧ PyData.canLayAll0 ds = true ∧ PyData.depthAll ds ≤ n ∧ piled (PyData.shownAll ds) ≤ 1930 * (ds.length * c)
  | [], _ => ⟨rfl, rfl, Nat.zero_le _, Nat.zero_le _⟩
  | d :: ds, h => by
    obtain ⟨h1, h2, h3, h4⟩ := h d List.mem_cons_self
    obtain ⟨k1, k2, k3, k4⟩ := Rp.all fun e he => h e (List.mem_cons_of_mem _ he)
    refine ⟨by simp [PyData.showableAll, h1, k1], by simp [PyData.canLayAll0, h2, k2], by simp only [PyData.depthAll]; omega, ?_⟩
    rw [PyData.shownAll, piled_cons, List.length_cons, Nat.add_mul]
    omega
theorem textFrom_le (ts : List Str) : (listText ts).length ≤ piled ts + 2 := by
  cases ts with
  | nil => decide +kernel
  | cons t r =>
    have h := textFrom_length_pos r 1 (("[" : Str) ++ (if (0 : Nat) > 0 then ", " else "" : String) ++ t) (Nat.succ_pos 0)
    have e : (("[" : Str) ++ (if (0 : Nat) > 0 then ", " else "" : String) ++ t).length = 1 + t.length := by
      rw [strLen_append, strLen_append]
      rfl
    show (textFrom 1 _ r ++ ("]" : Str)).length ≤ _
    rw [strLen_append, h, e, piled_cons]
    have : ("]" : Str).length = 1 := rfl
    omega
theorem tupleText_le (ts : List Str) : (tupleText ts).length ≤ piled ts + 3 := by
  cases ts with
  | nil => decide +kernel
  | cons t r =>
    have h := join_length_add (t :: r) (by simp)
    show ((("(" : Str) ++ Str.join ", " (t :: r)) ++ (if (t :: r).length == 1 then ",)" else ")" : String)).length ≤ _
    rw [strLen_append, strLen_append]
    have e1 : ("(" : Str).length = 1 := rfl
    have e2 : ((if (t :: r).length == 1 then ",)" else ")" : String) : Str).length ≤ 2 := by
      split <;> decide +kernel
    omega
theorem Rp.list {n c k : Nat} {ds : List PyData} (h : ∀ d ∈ ds, Rp n c d) (hk : ds.length ≤ k) : Rp (n + 1) (1 + k * c) (.list ds) := by
  obtain ⟨k1, k2, k3, k4⟩ := Rp.all h
  refine ⟨by simpa [PyData.showable] using k1, by simpa only [PyData.canLay0] using k2, by simp only [PyData.depth]; omega, ?_⟩
  have := textFrom_le (PyData.shownAll ds)
  have hm := Nat.mul_le_mul_right c hk
  have hm2 := Nat.mul_le_mul_left 1930 hm
  rw [PyData.shown]
  omega
theorem Rp.tuple {n c k : Nat} {ds : List PyData} (h : ∀ d ∈ ds, Rp n c d) (hk : ds.length ≤ k) : Rp (n + 1) (1 + k * c) (.tuple ds) := by
  obtain ⟨k1, k2, k3, k4⟩ := Rp.all h
  refine ⟨by simpa [PyData.showable] using k1, by simpa only [PyData.canLay0] using k2, by simp only [PyData.depth]; omega, ?_⟩
  have := tupleText_le (PyData.shownAll ds)
  have hm := Nat.mul_le_mul_right c hk
  have hm2 := Nat.mul_le_mul_left 1930 hm
  rw [PyData.shown]
  omega
theorem Rp.shaped {n c : Nat} {d : PyData} (h : Rp n c d) (hn : n ≤ 64) : SeqAt.shaped d = true := by
  unfold SeqAt.shaped
  have := h.2.2.1
  rw [h.2.1, Bool.true_and]
  exact decide_eq_true (by omega)
theorem gRepr_ok {n c : Nat} {d : PyData} (h : Rp n c d) (hn : n ≤ 64) (hc : c ≤ 8000) : gRepr [d] = some (.val (.str d.shown)) := by
  have sh := h.shaped hn
  have hz : d.shown.length ≤ sizeLine := by
    have := h.2.2.2
    rw [PySem.sizeLine_eq]
    omega
  have h1 := h.1
  cases d with
  | none => rfl
  | bool b => rfl
  | int i =>
    have : i.natAbs.log2 < 1920 := by simpa [PyData.showable] using h1
    simp [gRepr, this]
  | str x =>
    have e : (PyData.str x).shown = reprText x := PyData.shown_str x
    rw [e] at hz
    simp [gRepr, hz]
  | list ds => simp [gRepr, h1, sh, hz]
  | tuple ds => simp [gRepr, h1, sh, hz]
  | dict _ => have := h.2.1; simp [PyData.canLay0] at this
end Fx

end

/-! Fy5: slices, comparisons of data with itself -/
noncomputable section
namespace Fx
open PySem PySem.Spec PyProof.Rows L2

theorem cut_mid {α : Type} (l : List α) (b e : Nat) (h : b ≤ e) (h2 : e ≤ l.length) : cutL l (some (b : Int)) (some (e : Int)) = (l.drop b).take (e - b) := by
  unfold cutL
  rw [HT.sIx_nat, HT.sIx_nat, Nat.min_eq_left h2, Nat.min_eq_left (Nat.le_trans h h2)]
theorem ixN_nat {n j : Nat} (h : j < n) : ixN n (j : Int) = some j := by
  unfold ixN
  rw [if_pos (by omega), if_pos (by omega), Int.toNat_natCast]
theorem shp_ints (l : List Int) : shp (.tuple (l.map .int)) = true := by
  show SeqAt.shaped (.tuple (l.map .int)) = true
  unfold SeqAt.shaped
  simp [PyData.canLay0, canLay_ints, PyData.depth, depth_ints]
theorem shp_intsL (l : List Int) : shp (.list (l.map .int)) = true := by
  show SeqAt.shaped (.list (l.map .int)) = true
  unfold SeqAt.shaped
  simp [PyData.canLay0, canLay_ints, PyData.depth, depth_ints]
theorem eqvAll_ints : ∀ a b : List Int, PyData.eqvAll (a.map .int) (b.map .int) = decide (a = b)
  | [], [] => by simp [PyData.eqvAll]
  | [], _ :: _ => by simp [PyData.eqvAll]
  | _ :: _, [] => by simp [PyData.eqvAll]
  | x :: a, y :: b => by
    rw [List.map_cons, List.map_cons, PyData.eqvAll, eqvAll_ints a b, eqv_int]
    by_cases h1 : x = y <;> by_cases h2 : a = b <;> simp [h1, h2]
theorem eqv_ints (a b : List Int) : PyData.eqv (.tuple (a.map .int)) (.tuple (b.map .int)) = decide (a = b) := by rw [PyData.eqv, eqvAll_ints]
theorem eqv_intsL (a b : List Int) : PyData.eqv (.list (a.map .int)) (.list (b.map .int)) = decide (a = b) := by rw [PyData.eqv, eqvAll_ints]
theorem eqX_ints (neg : Bool) (a b : List Int) : gEqX neg (.tuple (a.map .int)) (.tuple (b.map .int)) = some (.val (.bool (if neg then !decide (a = b) else decide (a = b)))) := by
  have e : PyData.eqv (.tuple (a.map .int)) (.tuple (b.map .int)) = decide (a = b) := by rw [PyData.eqv, eqvAll_ints]
  simp [gEqX, gEq, shp_ints, e]
theorem eqX_intsL (neg : Bool) (a b : List Int) : gEqX neg (.list (a.map .int)) (.list (b.map .int)) = some (.val (.bool (if neg then !decide (a = b) else decide (a = b)))) := by
  have e : PyData.eqv (.list (a.map .int)) (.list (b.map .int)) = decide (a = b) := by rw [PyData.eqv, eqvAll_ints]
  simp [gEqX, gEq, shp_intsL, e]
theorem eqX_self {n c : Nat} {d : PyData} (neg : Bool) (h : Rp n c d) (hn : n ≤ 64) : gEqX neg d d = some (.val (.bool (!neg))) := by
  have sh := h.shaped hn
  have e := SeqAt.eqv_refl d h.2.1
  have s2 : shp d = true := by
    unfold shp
    split <;> first | rfl | exact sh
  cases d <;> cases neg <;> simp [gEqX, gEq, s2, e]
theorem gReprX_ok {n c : Nat} {d : PyData} (h : Rp n c d) (hn : n ≤ 64) (hc : c ≤ 8000) : gReprX [d] = some (.val (.str d.shown)) := by
  unfold gReprX
  rw [gRepr_ok h hn hc]
theorem gReprX_dict0 : gReprX [.dict []] = some (.val (.str (PyData.dict []).shown)) := rfl
/-- data without lists, {} among it -/
def Rq (n c : Nat) (d : PyData) : Prop := d.showable = true ∧ rdD d = true ∧ d.depth ≤ n ∧ d.shown.length + 4 ≤ 1930 * c
theorem Rq.flat {d : PyData} (h : Rp 0 1 d) : Rq 0 1 d := ⟨h.1, by
  have h2 := h.2.2.1
  cases d with
  | list _ => simp [PyData.depth] at h2
  | tuple _ => simp [PyData.depth] at h2
  | dict _ => simp [PyData.depth] at h2
  | _ => rfl, h.2.2.1, h.2.2.2⟩
theorem Rq.mono {n m c e : Nat} {d : PyData} (h : Rq n c d) (h1 : n ≤ m) (h2 : c ≤ e) : Rq m e d := ⟨h.1, h.2.1, by have := h.2.2.1; omega, by have := h.2.2.2; have := Nat.mul_le_mul_left 1930 h2; omega⟩
theorem Rq.dict : Rq 1 1 (.dict []) := ⟨rfl, rfl, by decide, by decide +kernel⟩
theorem Rq.all {n c : Nat} : ∀ {ds : List PyData}, (∀ d ∈ ds, Rq n c d) → PyData.showableAll ds = true ∧ rdDs ds = true ∧ PyData.depthAll ds ≤ n ∧ piled (PyData.shownAll ds) ≤ 1930 * (ds.length * c)
  | [], _ => ⟨rfl, rfl, Nat.zero_le _, Nat.zero_le _⟩
  | d :: ds, h => by
    obtain ⟨h1, h2, h3, h4⟩ := h d List.mem_cons_self
    obtain ⟨k1, k2, k3, k4⟩ := Rq.all fun e he => h e (List.mem_cons_of_mem _ he)
    refine ⟨by simp [PyData.showableAll, h1, k1], by simp [rdDs, h2, k2], by simp only [PyData.depthAll]; omega, ?_⟩
    rw [PyData.shownAll, piled_cons, List.length_cons, Nat.add_mul]
    omega
theorem Rq.tuple {n c k : Nat} {ds : List PyData} (h : ∀ d ∈ ds, Rq n c d) (hk : ds.length ≤ k) : Rq (n + 1) (1 + k * c) (.tuple ds) := by
  obtain ⟨k1, k2, k3, k4⟩ := Rq.all h
  refine ⟨by simpa [PyData.showable] using k1, by simpa only [rdD] using k2, by simp only [PyData.depth]; omega, ?_⟩
  have := tupleText_le (PyData.shownAll ds)
  have hm := Nat.mul_le_mul_right c hk
  have hm2 := Nat.mul_le_mul_left 1930 hm
  rw [PyData.shown]
  omega
/-- repr tells of it, one way or the other -/
theorem gReprX_tuple {n c : Nat} {ds : List PyData} (h : Rq n c (.tuple ds)) (hn : n ≤ 60) (hc : c ≤ 8000) : ∃ s, gReprX [.tuple ds] = some (.val (.str s)) := by
  have hz : (PyData.tuple ds).shown.length ≤ sizeLine := by
    have := h.2.2.2
    rw [PySem.sizeLine_eq]
    omega
  have h2 : rdDs ds = true := by simpa only [rdD] using h.2.1
  have h3 : (PyData.tuple ds).depth ≤ 60 := Nat.le_trans h.2.2.1 hn
  unfold gReprX
  cases q : gRepr [.tuple ds] with
  | some r =>
    simp only [gRepr] at q
    split at q
    · cases q
      exact ⟨_, rfl⟩
    · cases q
  | none =>
    refine ⟨(PyData.tuple ds).shown, ?_⟩
    simp [h2, h.1, h3, hz]
end Fx

end

/-! Ms: sums, bounds by bits, least common multiples, fractions in lowest terms (plain) -/
namespace Ms

/-! ### sums over lists -/
def S {α : Type} (l : List α) (f : α → Int) : Int := (l.map f).sum
section
variable {α β : Type}
@[simp] theorem S_nil (f : α → Int) : S [] f = 0 := rfl
@[simp] theorem S_cons (a : α) (l : List α) (f : α → Int) : S (a :: l) f = f a + S l f := by simp [S]
theorem S_congr {l : List α} {f g : α → Int} (h : ∀ x ∈ l, f x = g x) : S l f = S l g := by
  unfold S; rw [List.map_congr_left h]
theorem S_add (l : List α) (f g : α → Int) : S l (fun x => f x + g x) = S l f + S l g := by
  induction l with
  | nil => rfl
  | cons a l ih => simp only [S_cons, ih]; omega
theorem S_mul (l : List α) (c : Int) (f : α → Int) : S l (fun x => c * f x) = c * S l f := by
  induction l with
  | nil => simp
  | cons a l ih => simp only [S_cons, ih, Int.mul_add]
theorem S_mulr (l : List α) (c : Int) (f : α → Int) : S l (fun x => f x * c) = S l f * c := by
  rw [Int.mul_comm, ← S_mul]; exact S_congr fun x _ => Int.mul_comm _ _
theorem S_zero (l : List α) : S l (fun _ => 0) = 0 := by
  induction l with
  | nil => rfl
  | cons a l ih => simp [ih]
theorem S_const (l : List α) (c : Int) : S l (fun _ => c) = l.length * c := by
  induction l with
  | nil => simp
  | cons a l ih => simp only [S_cons, ih, List.length_cons]; grind
theorem S_swap (l : List α) (m : List β) (f : α → β → Int) : S l (fun x => S m (f x)) = S m (fun y => S l fun x => f x y) := by
  induction l with
  | nil => simp [S_zero]
  | cons a l ih => simp only [S_cons, ih, S_add]
theorem S_map (g : β → α) (l : List β) (f : α → Int) : S (l.map g) f = S l (fun x => f (g x)) := by simp [S, Function.comp_def]
theorem S_sq (l : List α) (f : α → Int) : S l f * S l f = S l fun a => S l fun b => f a * f b := by
  have : (fun a => S l fun b => f a * f b) = fun a => f a * S l f := funext fun a => S_mul l (f a) f
  rw [this, S_mulr]
theorem S_one {l : List Nat} (h : l.Nodup) {a : Nat} (ha : a ∈ l) (c : Int) : S l (fun b => if a = b then c else 0) = c := by
  induction l with
  | nil => cases ha
  | cons x l ih =>
    rw [List.nodup_cons] at h
    rw [S_cons]
    by_cases e : a = x
    · subst e
      have : S l (fun b => if a = b then c else 0) = 0 := by
        rw [S_congr (g := fun _ => 0) fun b hb => if_neg (by rintro rfl; exact h.1 hb), S_zero]
      simp [this]
    · rw [if_neg e, ih h.2 (by simpa [e] using ha)]; omega
theorem S_nonneg {l : List α} {f : α → Int} (h : ∀ x ∈ l, 0 ≤ f x) : 0 ≤ S l f := by
  induction l with
  | nil => simp
  | cons a l ih =>
    have h1 := h a List.mem_cons_self
    have h2 := ih fun x hx => h x (List.mem_cons_of_mem _ hx)
    rw [S_cons]; omega
theorem S_mono {l : List α} {f g : α → Int} (h : ∀ x ∈ l, f x ≤ g x) : S l f ≤ S l g := by
  induction l with
  | nil => simp
  | cons a l ih =>
    have h1 := h a List.mem_cons_self
    have h2 := ih fun x hx => h x (List.mem_cons_of_mem _ hx)
    rw [S_cons, S_cons]; omega
theorem S_sub {l m : List α} (s : l.Sublist m) {f : α → Int} (h : ∀ x ∈ m, 0 ≤ f x) : S l f ≤ S m f := by
  induction s with
  | slnil => simp
  | cons a s ih =>
    have h1 := h a List.mem_cons_self
    have h2 := ih fun x hx => h x (List.mem_cons_of_mem _ hx)
    rw [S_cons]; omega
  | cons_cons a s ih =>
    have h2 := ih fun x hx => h x (List.mem_cons_of_mem _ hx)
    rw [S_cons, S_cons]; omega
theorem S_perm {l m : List α} (p : l.Perm m) (f : α → Int) : S l f = S m f := by
  induction p with
  | nil => rfl
  | cons a _ ih => rw [S_cons, S_cons, ih]
  | swap a b l => simp only [S_cons]; omega
  | trans _ _ i j => exact i.trans j
theorem cauchy (l : List α) (f : α → Int) : S l f * S l f ≤ l.length * S l (fun x => f x * f x) := by
  induction l with
  | nil => simp
  | cons a l ih =>
    simp only [S_cons, List.length_cons]
    have hq : 0 ≤ S l (fun x => f x * f x) := S_nonneg fun x _ => by
      rcases Int.le_total 0 (f x) with h | h
      · exact Int.mul_nonneg h h
      · exact Int.mul_nonneg_of_nonpos_of_nonpos h h
    generalize S l f = s at *
    generalize S l (fun x => f x * f x) = q at *
    generalize f a = x
    generalize hm : (l.length : Int) = m at *
    have hm0 : 0 ≤ m := by omega
    push_cast
    -- 2 s x <= q + m x^2
    have key : 2 * (s * x) ≤ q + m * (x * x) := by
      rcases Int.lt_or_eq_of_le hm0 with h | h
      · have hsq : 0 ≤ (s - m * x) * (s - m * x) := by
          rcases Int.le_total 0 (s - m * x) with h | h
          · exact Int.mul_nonneg h h
          · exact Int.mul_nonneg_of_nonpos_of_nonpos h h
        have h2 : m * (2 * (s * x)) ≤ m * (q + m * (x * x)) := by grind
        exact Int.le_of_mul_le_mul_left h2 h
      · have e : m = 0 := h.symm
        subst e
        have : s * s ≤ 0 := by simpa using ih
        have s0 : s = 0 := by
          rcases Int.lt_trichotomy s 0 with h | h | h
          · have := Int.mul_pos_of_neg_of_neg h h; omega
          · exact h
          · have := Int.mul_pos h h; omega
        subst s0
        simp; exact hq
    rw [hm]
    have e1 : (x + s) * (x + s) = x * x + 2 * (s * x) + s * s := by grind
    have e2 : (m + 1) * (x * x + q) = m * (x * x) + m * q + x * x + q := by grind
    omega
end

/-! ### bounds by bits -/
def Bd (n : Nat) (x : Int) : Prop := x.natAbs < 2 ^ n
theorem Bd.mono {n m : Nat} {x : Int} (h : Bd n x) (k : n ≤ m) : Bd m x := Nat.lt_of_lt_of_le h (Nat.pow_le_pow_right (by decide) k)
theorem Bd.mul {n m : Nat} {x y : Int} (h : Bd n x) (k : Bd m y) : Bd (n + m) (x * y) := by
  unfold Bd at *
  rw [Int.natAbs_mul, Nat.pow_add]
  by_cases q : y.natAbs = 0
  · rw [q, Nat.mul_zero]; exact Nat.mul_pos (Nat.two_pow_pos n) (Nat.two_pow_pos m)
  · exact Nat.mul_lt_mul'' h k
theorem Bd.add {n : Nat} {x y : Int} (h : Bd n x) (k : Bd n y) : Bd (n + 1) (x + y) := by
  unfold Bd at *
  have := Int.natAbs_add_le x y
  rw [Nat.pow_succ]; omega
theorem Bd.neg {n : Nat} {x : Int} (h : Bd n x) : Bd n (-x) := by unfold Bd at *; rwa [Int.natAbs_neg]
theorem Bd.sub {n : Nat} {x y : Int} (h : Bd n x) (k : Bd n y) : Bd (n + 1) (x - y) := by
  rw [Int.sub_eq_add_neg]; exact h.add k.neg
theorem Bd.zero (n : Nat) : Bd n 0 := Nat.two_pow_pos n
theorem Bd.one (n : Nat) : Bd (n + 1) 1 := by
  unfold Bd
  have := Nat.two_pow_pos n
  rw [Nat.pow_succ]; show (1 : Nat) < _; omega
theorem Bd.nat {n a : Nat} (h : a < 2 ^ n) : Bd n (a : Int) := by unfold Bd; simpa using h
theorem Bd.of_le {n : Nat} {x y : Int} (h : Bd n y) (k : x.natAbs ≤ y.natAbs) : Bd n x := Nat.lt_of_le_of_lt k h
theorem Bd.div {n : Nat} {x y : Int} (h : Bd n x) : Bd n (x / y) := h.of_le (by
  have := Int.natAbs_ediv_le_natAbs x y
  omega)
theorem abs_sum_le {n : Nat} : ∀ {l : List Int}, (∀ x ∈ l, Bd n x) → l.sum.natAbs ≤ l.length * 2 ^ n
  | [], _ => by simp
  | a :: l, h => by
    have h1 : a.natAbs < 2 ^ n := h a List.mem_cons_self
    have h2 := abs_sum_le (l := l) fun x hx => h x (List.mem_cons_of_mem _ hx)
    have h3 := Int.natAbs_add_le a l.sum
    rw [List.sum_cons, List.length_cons, Nat.add_mul]
    omega
theorem Bd.sum {n k : Nat} {l : List Int} (h : ∀ x ∈ l, Bd n x) (hl : l.length < 2 ^ k) : Bd (n + k) l.sum := by
  have h1 := abs_sum_le h
  have h2 : l.length * 2 ^ n < 2 ^ k * 2 ^ n := Nat.mul_lt_mul_of_pos_right hl (Nat.two_pow_pos n)
  unfold Bd
  rw [Nat.add_comm n k, Nat.pow_add]
  omega
theorem Bd.S {n k : Nat} {α : Type} {l : List α} {f : α → Int} (h : ∀ x ∈ l, Bd n (f x)) (hl : l.length < 2 ^ k) : Bd (n + k) (S l f) := by
  refine Bd.sum (l := l.map f) (fun x hx => ?_) (by simpa using hl)
  obtain ⟨a, ha, rfl⟩ := List.mem_map.mp hx
  exact h a ha
theorem Bd.pow {n k : Nat} {x : Int} (h : Bd n x) (h1 : 1 ≤ n) : Bd (n * k + 1) (x ^ k) := by
  induction k with
  | zero => rw [Int.pow_zero, Nat.mul_zero]; exact Bd.one 0
  | succ k ih =>
    rw [Int.pow_succ]
    exact (ih.mul h).mono (by rw [Nat.mul_succ]; omega)
theorem Bd.log {n : Nat} {x : Int} (h : Bd n x) : x.natAbs.log2 ≤ n := by
  by_cases q : x.natAbs = 0
  · rw [q]; simp
  · have := (Nat.log2_lt q).mpr h
    omega

/-! ### least common multiples -/
def lcmL (l : List Nat) : Nat := l.foldl Nat.lcm 1
theorem lcm_fold (l : List Nat) : ∀ a : Nat, l.foldl Nat.lcm a = Nat.lcm a (lcmL l) := by
  induction l with
  | nil => intro a; simp [lcmL]
  | cons x l ih => intro a; rw [lcmL, List.foldl_cons, List.foldl_cons, ih, ih (Nat.lcm 1 x), Nat.lcm_one_left, Nat.lcm_assoc]
theorem lcmL_cons (x : Nat) (l : List Nat) : lcmL (x :: l) = Nat.lcm x (lcmL l) := by
  rw [lcmL, List.foldl_cons, lcm_fold, Nat.lcm_one_left]
theorem lcmL_append (l m : List Nat) : lcmL (l ++ m) = Nat.lcm (lcmL l) (lcmL m) := by
  unfold lcmL
  rw [List.foldl_append, lcm_fold]; rfl
theorem dvd_lcmL {l : List Nat} {d : Nat} (h : d ∈ l) : d ∣ lcmL l := by
  induction l with
  | nil => cases h
  | cons x l ih =>
    rw [lcmL_cons]
    rcases List.mem_cons.mp h with rfl | h
    · exact Nat.dvd_lcm_left _ _
    · exact Nat.dvd_trans (ih h) (Nat.dvd_lcm_right _ _)
theorem lcmL_dvd {l : List Nat} {n : Nat} (h : ∀ d ∈ l, d ∣ n) : lcmL l ∣ n := by
  induction l with
  | nil => exact Nat.one_dvd n
  | cons x l ih =>
    rw [lcmL_cons]
    exact Nat.lcm_dvd (h x List.mem_cons_self) (ih fun d hd => h d (List.mem_cons_of_mem _ hd))
theorem lcmL_pos {l : List Nat} (h : ∀ d ∈ l, 0 < d) : 0 < lcmL l := by
  induction l with
  | nil => exact Nat.one_pos
  | cons x l ih =>
    rw [lcmL_cons]
    exact Nat.lcm_pos (h x List.mem_cons_self) (ih fun d hd => h d (List.mem_cons_of_mem _ hd))
theorem lcmL_same {l m : List Nat} (h : ∀ d ∈ l, d ∈ m) (k : ∀ d ∈ m, d ∈ l) : lcmL l = lcmL m :=
  Nat.dvd_antisymm (lcmL_dvd fun d hd => dvd_lcmL (h d hd)) (lcmL_dvd fun d hd => dvd_lcmL (k d hd))
theorem lcmL_lt {b : Nat} : ∀ {l : List Nat}, (∀ d ∈ l, 0 < d ∧ d ≤ 2 ^ b) → lcmL l ≤ 2 ^ (b * l.length)
  | [], _ => by simp [lcmL]
  | x :: l, h => by
    have h1 := h x List.mem_cons_self
    have h2 := lcmL_lt (l := l) fun d hd => h d (List.mem_cons_of_mem _ hd)
    rw [lcmL_cons, List.length_cons, Nat.mul_succ, Nat.add_comm, Nat.pow_add]
    have h3 : Nat.lcm x (lcmL l) ≤ x * lcmL l := Nat.div_le_self _ _
    exact Nat.le_trans h3 (Nat.mul_le_mul h1.2 h2)
/-- as it is reckoned -/
theorem lcm_step (a b : Nat) : a * b / Nat.gcd a b = Nat.lcm a b := rfl
theorem lcm_step2 (a b : Nat) : a * (b / Nat.gcd a b) = Nat.lcm a b := by
  rw [← Nat.mul_div_assoc _ (Nat.gcd_dvd_right a b)]; rfl

/-! ### fractions -/
abbrev Fr := Int × Nat
def low (a : Int) (b : Nat) : Fr := (a / (Nat.gcd a.natAbs b : Nat), b / Nat.gcd a.natAbs b)
structure Low (q : Fr) : Prop where
  pos : 0 < q.2
  cop : Nat.gcd q.1.natAbs q.2 = 1
theorem gcd_pos' {a b : Nat} (h : 0 < b) : 0 < Nat.gcd a b := Nat.gcd_pos_of_pos_right _ h
theorem low_spec (a : Int) {b : Nat} (hb : 0 < b) : (low a b).1 * (Nat.gcd a.natAbs b : Nat) = a ∧ (low a b).2 * Nat.gcd a.natAbs b = b := by
  refine ⟨?_, Nat.div_mul_cancel (Nat.gcd_dvd_right _ _)⟩
  exact Int.ediv_mul_cancel (Int.ofNat_dvd_left.mpr (Nat.gcd_dvd_left _ _))
theorem low_Low (a : Int) {b : Nat} (hb : 0 < b) : Low (low a b) := by
  have g := gcd_pos' (a := a.natAbs) hb
  refine ⟨Nat.div_pos (Nat.le_of_dvd hb (Nat.gcd_dvd_right _ _)) g, ?_⟩
  have e : (low a b).1.natAbs = a.natAbs / Nat.gcd a.natAbs b := by
    show (a / ((Nat.gcd a.natAbs b : Nat) : Int)).natAbs = _
    rw [Int.natAbs_ediv_of_dvd (Int.ofNat_dvd_left.mpr (Nat.gcd_dvd_left _ _))]
    simp
  rw [e]
  exact Nat.coprime_div_gcd_div_gcd g
theorem low_of {q : Fr} (h : Low q) : low q.1 q.2 = q := by
  unfold low
  rw [h.cop]
  simp
/-- one value, one pair of lowest terms -/
theorem Low.eq {p q : Fr} (hp : Low p) (hq : Low q) (e : p.1 * q.2 = q.1 * p.2) : p = q := by
  have e2 : p.1.natAbs * q.2 = q.1.natAbs * p.2 := by
    have := congrArg Int.natAbs e
    simpa [Int.natAbs_mul] using this
  have d1 : p.2 ∣ q.2 := by
    have : p.2 ∣ p.1.natAbs * q.2 := ⟨q.1.natAbs, by rw [e2, Nat.mul_comm]⟩
    exact Nat.Coprime.dvd_of_dvd_mul_left (by rw [Nat.Coprime, Nat.gcd_comm]; exact hp.cop) this
  have d2 : q.2 ∣ p.2 := by
    have : q.2 ∣ q.1.natAbs * p.2 := ⟨p.1.natAbs, by rw [← e2, Nat.mul_comm]⟩
    exact Nat.Coprime.dvd_of_dvd_mul_left (by rw [Nat.Coprime, Nat.gcd_comm]; exact hq.cop) this
  have e3 := Nat.dvd_antisymm d1 d2
  have e4 : p.1 = q.1 := by
    rw [e3] at e
    exact Int.eq_of_mul_eq_mul_right (by have := hq.pos; omega) e
  exact Prod.ext e4 e3
theorem low_val (a : Int) {b : Nat} (hb : 0 < b) : (low a b).1 * b = a * (low a b).2 := by
  obtain ⟨h1, h2⟩ := low_spec a hb
  have h2' : ((low a b).2 : Int) * (Nat.gcd a.natAbs b : Nat) = b := by exact_mod_cast h2
  generalize low a b = q at *
  generalize ((Nat.gcd a.natAbs b : Nat) : Int) = g at *
  rw [← h1, ← h2']; grind
theorem low_eq {a c : Int} {b d : Nat} (hb : 0 < b) (hd : 0 < d) (e : a * d = c * b) : low a b = low c d := by
  refine (low_Low a hb).eq (low_Low c hd) ?_
  have h1 := low_val a hb
  have h2 := low_val c hd
  generalize low a b = p at *
  generalize low c d = q at *
  -- p1 b = a p2, q1 d = c q2, a d = c b
  have hbd : (0 : Int) < (b : Int) * d := Int.mul_pos (by omega) (by omega)
  refine Int.eq_of_mul_eq_mul_right (Int.ne_of_gt hbd) ?_
  have : p.1 * q.2 * (b * d) = (p.1 * b) * (q.2 * d) := by grind
  rw [this, h1]
  have : q.1 * p.2 * (b * d) = (q.1 * d) * (p.2 * b) := by grind
  rw [this, h2]
  have : a * p.2 * (q.2 * d) = (a * d) * (p.2 * q.2) := by grind
  rw [this, e]; grind
theorem low_inj {a c : Int} {b d : Nat} (hb : 0 < b) (hd : 0 < d) (e : low a b = low c d) : a * d = c * b := by
  have h1 := low_val a hb
  have h2 := low_val c hd
  rw [e] at h1
  have p0 := (low_Low c hd).pos
  generalize low c d = q at *
  have hq : (0 : Int) < q.2 := by omega
  refine Int.eq_of_mul_eq_mul_right (Int.ne_of_gt hq) ?_
  have : a * d * q.2 = (a * q.2) * d := by grind
  rw [this, ← h1]
  have : c * b * q.2 = (c * q.2) * b := by grind
  rw [this, ← h2]; grind
theorem low_zero {b : Nat} (hb : 0 < b) : low 0 b = (0, 1) := by
  unfold low
  simp
  exact Nat.div_self hb
theorem low_zero_iff {a : Int} {b : Nat} (hb : 0 < b) : low a b = (0, 1) ↔ a = 0 := by
  refine ⟨fun h => ?_, fun h => by rw [h]; exact low_zero hb⟩
  have := (low_spec a hb).1
  rw [h] at this
  simpa using this.symm
theorem low_one {b : Nat} (hb : 0 < b) : low b b = (1, 1) := by
  rw [low_eq (c := 1) (d := 1) hb (by decide) (by simp)]
  rfl
/-- as whole numbers over a common number -/
def num (c : Nat) (q : Fr) : Int := q.1 * (c / q.2 : Nat)
theorem num_val {c : Nat} {q : Fr} (h : q.2 ∣ c) : num c q * q.2 = q.1 * c := by
  unfold num
  have e : ((c / q.2 : Nat) : Int) * q.2 = c := by exact_mod_cast Nat.div_mul_cancel h
  rw [Int.mul_assoc, e]
end Ms

/-! Fy6: helpers for statements; bounds; fractions as data -/
noncomputable section
namespace Fx
open PySem PySem.Spec PyProof.Rows L2
open Ms (Bd Fr)

theorem seq_nx {a b : FS} {Γ Γ1 : Gm} (h : a Γ = some (.nx Γ1)) : fSeq a b Γ = b Γ1 := by simp [fSeq, h]
theorem seq_rt {a b : FS} {Γ Γ1 : Gm} {m : MD} (h : a Γ = some (.rt m Γ1)) : fSeq a b Γ = some (.rt m Γ1) := by simp [fSeq, h]
theorem if_t {c : FT} {a b : FS} {Γ Γ1 : Gm} (h : c Γ = some (true, Γ1)) : fIf c a b Γ = a Γ1 := by simp [fIf, h]
theorem if_f {c : FT} {a b : FS} {Γ Γ1 : Gm} (h : c Γ = some (false, Γ1)) : fIf c a b Γ = b Γ1 := by simp [fIf, h]
theorem set_e {np i : Nat} {f : FE} {Γ Γ1 : Gm} {d : PyData} (h : f Γ = some (.md (.dat d), Γ1)) : fSet np i f Γ = some (.nx (Γ1.set i (some (.dat d)))) := by simp [fSet, h, own_dat]
theorem mulOk_bd {n m : Nat} {x y : Int} (h : Bd n x) (k : Bd m y) (hl : n + m < 1000000 := by omega) : mulOk x y = true := by
  have h1 := h.log
  have h2 := k.log
  exact decide_eq_true (by omega)
theorem divOk_bd {n : Nat} {x y : Int} (h0 : 0 < y) (h : Bd n y) (hl : n < 9000 := by omega) : divOk x y = true := by
  have := h.log
  exact decide_eq_true ⟨h0, by omega⟩
theorem powOkX_bd {n k : Nat} {x : Int} (h : Bd n x) (hn : n < 100000 := by omega) (hk : k ≤ 1000 := by omega) : powOkX x k = true := by
  have := h.log
  exact decide_eq_true ⟨by omega, by omega, by omega⟩
theorem eqX_bool (neg a b : Bool) : gEqX neg (.bool a) (.bool b) = some (.val (.bool (if neg then !decide (a = b) else decide (a = b)))) := by
  cases neg <;> cases a <;> cases b <;> rfl
theorem zipD_ints (r s : List Int) : zipD (r.map .int) (s.map .int) = (r.zip s).map fun p => PyData.tuple [.int p.1, .int p.2] := zipD_map _ _ _ _
theorem zip_sum (r s : List Int) (f : Int → Int → Int) : ((r.zip s).map fun p => f p.1 p.2) = List.zipWith f r s := by
  induction r generalizing s with
  | nil => rfl
  | cons a r ih =>
    cases s with
    | nil => rfl
    | cons b s => simp [ih]
theorem rg2_nat {a b : Nat} (ha : a < 2 ^ 62) (hb : b < 2 ^ 62) : rg2 a b = some ((List.range (b - a)).map fun (x : Nat) => PyData.int ((a : Int) + x)) := by
  unfold rg2
  rw [if_pos ⟨show rgOk a = true from decide_eq_true (by omega), show rgOk b = true from decide_eq_true (by omega)⟩]
  unfold rangeD
  rw [show ((b : Int) - a).toNat = b - a by omega]
/-- one turn of a comprehension with two fors -/
def lmStep (tg : FG) (tt : FT) (fi1 : FI) (tg1 : FG) (tt1 : FT) (fe : FE) (own own1 : List Nat) (d : PyData) (acc : List PyData) (Γ : Gm) : Option (List PyData × Gm) := (tg d Γ).bind fun Γ1 => (tt Γ1).bind fun p => if p.1 = true then (fi1 p.2).bind fun q => if noOwn q.2 own1 = true then (loopL tg1 tt1 fe own1 q.1 acc (fgt q.2 own1)).bind fun z => if noOwn z.2 own = true then some (z.1, fgt z.2 own) else none else none
    else if noOwn p.2 own = true then some (acc, fgt p.2 own) else none
theorem loopM_cons {tg : FG} {tt : FT} {fi1 : FI} {tg1 : FG} {tt1 : FT} {fe : FE} {own own1 : List Nat} {d : PyData} {r acc acc' : List PyData} {Γ Γ' : Gm} (h : lmStep tg tt fi1 tg1 tt1 fe own own1 d acc Γ = some (acc', Γ')) : loopM tg tt fi1 tg1 tt1 fe own own1 (d :: r) acc Γ = loopM tg tt fi1 tg1 tt1 fe own own1 r acc' Γ' := by
  unfold lmStep at h
  obtain ⟨Γ1, e1, h⟩ := Option.bind_eq_some_iff.mp h
  obtain ⟨⟨b, Γ2⟩, e2, h⟩ := Option.bind_eq_some_iff.mp h
  dsimp only at h
  split at h
  · rename_i hb
    have hb' : b = true := hb
    subst hb'
    obtain ⟨⟨l, Γ3⟩, e3, h⟩ := Option.bind_eq_some_iff.mp h
    dsimp only at h
    split at h
    · rename_i hn
      obtain ⟨⟨l4, Γ4⟩, e4, h⟩ := Option.bind_eq_some_iff.mp h
      dsimp only at h
      split at h
      · rename_i hn4
        cases h
        simp [loopM, e1, e2, e3, e4, hn, hn4]
      · cases h
    · cases h
  · rename_i hb
    have hb' : b = false := by simpa using hb
    subst hb'
    split at h
    · rename_i hn
      cases h
      have hn' : noOwn Γ2 own = true := hn
      simp [loopM, e1, e2, hn']
    · cases h
theorem loopM_map {α : Type} {tg : FG} {tt : FT} {fi1 : FI} {tg1 : FG} {tt1 : FT} {fe : FE} {own own1 : List Nat} {Γ : Gm} {g : α → PyData} {f : α → List PyData} {N : Nat} : ∀ {l : List α} {acc : List PyData}, acc.length + (l.map f).flatten.length ≤ N → (∀ x ∈ l, ∀ acc : List PyData, acc.length + (f x).length ≤ N → lmStep tg tt fi1 tg1 tt1 fe own own1 (g x) acc Γ = some (acc ++ f x, Γ)) → loopM tg tt fi1 tg1 tt1 fe own own1 (l.map g) acc Γ = some (acc ++ (l.map f).flatten, Γ)
  | [], acc, _, _ => by simp [loopM]
  | x :: l, acc, hl, h => by
    rw [List.map_cons, List.flatten_cons, List.length_append] at hl
    have h1 := h x List.mem_cons_self acc (by omega)
    have ih := loopM_map (tg := tg) (tt := tt) (fi1 := fi1) (tg1 := tg1) (tt1 := tt1) (fe := fe) (own := own) (own1 := own1) (Γ := Γ) (g := g) (f := f) (N := N) (l := l) (acc := acc ++ f x) (by rw [List.length_append]; omega) fun y hy => h y (List.mem_cons_of_mem _ hy)
    rw [List.map_cons, loopM_cons h1, ih]
    simp
/-- a fraction as data -/
def frD (q : Fr) : PyData := .tuple [.int q.1, .int (q.2 : Nat)]
def frsD (l : List Fr) : PyData := .tuple (l.map frD)
def tblD (T : List (List Fr)) : PyData := .tuple (T.map frsD)
def shtD (W : List Fr) (T : List (List Fr)) : PyData := .tuple [frsD W, tblD T]
theorem Rp.fr {q : Fr} (h : Bd 500 q.1) (k : Bd 500 (q.2 : Nat)) : Rp 1 3 (frD q) := by
  refine (Rp.tuple (k := 2) (c := 1) (n := 0) (fun d hd => ?_) (by simp)).mono (by omega) (by omega)
  simp only [List.mem_cons, List.not_mem_nil, or_false] at hd
  rcases hd with rfl | rfl
  · exact Rp.small (Nat.lt_of_lt_of_le h (Nat.pow_le_pow_right (by decide) (by decide)))
  · exact Rp.small (Nat.lt_of_lt_of_le k (Nat.pow_le_pow_right (by decide) (by decide)))
theorem Rp.frB {q : Fr} (h : Bd 1000 q.1) (k : Bd 1000 (q.2 : Nat)) : Rp 1 3 (frD q) := by
  refine (Rp.tuple (k := 2) (c := 1) (n := 0) (fun d hd => ?_) (by simp)).mono (by omega) (by omega)
  simp only [List.mem_cons, List.not_mem_nil, or_false] at hd
  rcases hd with rfl | rfl
  · exact Rp.small h
  · exact Rp.small k
theorem Rp.frs {l : List Fr} (h : ∀ q ∈ l, Bd 500 q.1 ∧ Bd 500 (q.2 : Nat)) {k : Nat} (hl : l.length ≤ k) : Rp 2 (1 + k * 3) (frsD l) := by
  refine Rp.tuple (fun d hd => ?_) (by simpa using hl)
  obtain ⟨q, hq, rfl⟩ := List.mem_map.mp hd
  exact Rp.fr (h q hq).1 (h q hq).2
theorem frD_inj {p q : Fr} (h : frD p = frD q) : p = q := by
  unfold frD at h
  injection h with h
  injection h with h1 h2
  injection h2 with h2 _
  injection h1 with h1
  injection h2 with h2
  exact Prod.ext h1 (by exact_mod_cast h2)
theorem eqX_fr (neg : Bool) (p q : Fr) : gEqX neg (frD p) (frD q) = some (.val (.bool (if neg then !decide (p = q) else decide (p = q)))) := by
  have := eqX_ints neg [p.1, (p.2 : Int)] [q.1, (q.2 : Int)]
  have e : ([p.1, (p.2 : Int)] = [q.1, (q.2 : Int)]) ↔ p = q := by
    constructor
    · intro h
      injection h with h1 h2
      injection h2 with h2 _
      exact Prod.ext h1 (by exact_mod_cast h2)
    · rintro rfl; rfl
  rw [show decide (p = q) = decide ([p.1, (p.2 : Int)] = [q.1, (q.2 : Int)]) by simp only [e]]
  exact this
end Fx

end

noncomputable section
namespace Lw
open PySem PySem.Spec PyProof.Rows L2 Fx
def topS (i : Nat) : Stmt := PySem.Challenge.pw_looksdrawn_k14_whole_degrees_and_paths.main.body.getD i (.Pass ⟨0, 0, 0, 0⟩)
abbrev s_common_of : Stmt := topS 2
abbrev N_common_of : List Str := ["row", "found", "item"]
abbrev s_numbers_of : Stmt := topS 3
abbrev N_numbers_of : List Str := ["row", "common", "item"]
abbrev s_whole_of : Stmt := topS 4
abbrev N_whole_of : List Str := ["difference", "weights", "table", "many", "below", "row", "item"]
abbrev s_part_of : Stmt := topS 5
abbrev N_part_of : List Str := ["a", "b", "divisor"]
abbrev s_constant_sheet : Stmt := topS 7
abbrev N_constant_sheet : List Str := ["weights", "p"]
abbrev s_whole_degrees : Stmt := topS 9
abbrev N_whole_degrees : List Str := ["sheet", "weights", "table", "many", "below", "row", "weight", "item"]
abbrev s_mean_of : Stmt := topS 10
abbrev N_mean_of : List Str := ["sheet", "weights", "degrees", "many", "below", "weight", "degree"]
abbrev s_degrees_of : Stmt := topS 11
abbrev N_degrees_of : List Str := ["sheet", "weights", "degrees", "many", "below", "degree"]
abbrev s_degree_square : Stmt := topS 12
abbrev N_degree_square : List Str := ["sheet", "weights", "degrees", "many", "below", "mean", "found", "weight", "degree", "less"]
abbrev s_path_share : Stmt := topS 13
abbrev N_path_share : List Str := ["sheet", "many", "weights", "table", "common", "below", "made", "under", "turn", "scaled", "weight", "item", "row", "own"]
abbrev s__law_own_bag : Stmt := topS 15
abbrev N__law_own_bag : List Str := ["script", "cells", "mixed", "cell"]
abbrev s__law_draw : Stmt := topS 16
abbrev N__law_draw : List Str := ["bag", "below", "cell", "found"]
abbrev s__law_pick : Stmt := topS 17
abbrev N__law_pick : List Str := ["bag", "some"]
abbrev s__law_same : Stmt := topS 18
abbrev N__law_same : List Str := ["told", "due", "part", "own"]
abbrev s__law_gcd : Stmt := topS 19
abbrev N__law_gcd : List Str := ["one", "other"]
abbrev s__law_lowest : Stmt := topS 20
abbrev N__law_lowest : List Str := ["over", "under", "by"]
abbrev s__law_under : Stmt := topS 21
abbrev N__law_under : List Str := ["fractions", "under", "x"]
abbrev s__law_own_item : Stmt := topS 22
abbrev N__law_own_item : List Str := ["bag", "low", "most", "under"]
abbrev s__law_own_weights : Stmt := topS 23
abbrev N__law_own_weights : List Str := ["bag", "m", "most", "numbers", "total", "lot", "number"]
abbrev s__law_own_table : Stmt := topS 24
abbrev N__law_own_table : List Str := ["bag", "m", "low", "most", "rows", "i", "row", "j", "item", "twin", "lot", "line"]
abbrev s__law_own_sheet : Stmt := topS 25
abbrev N__law_own_sheet : List Str := ["bag", "m", "most", "weights", "kind", "table", "at", "rows", "row", "moved", "i", "line", "j", "item", "stays", "k"]
abbrev s__law_plain : Stmt := topS 26
abbrev N__law_plain : List Str := ["sheet", "weights", "rows", "by", "under", "row", "table", "line", "item", "weight"]
abbrev s__law_sum : Stmt := topS 27
abbrev N__law_sum : List Str := ["row", "other", "one", "two"]
abbrev s__law_due : Stmt := topS 28
abbrev N__law_due : List Str := ["plain", "weights", "table", "by", "under", "degrees", "mean", "square", "own", "row", "weight", "degree"]
abbrev s__law_paths : Stmt := topS 29
abbrev N__law_paths : List Str := ["plain", "most", "weights", "table", "by", "under", "row", "divided", "found", "turn", "heavy", "weight", "number", "line"]
abbrev s__law_are_told : Stmt := topS 30
abbrev N__law_are_told : List Str := ["sheet", "due", "is_named", "kept", "told", "is_like", "degree", "one", "two"]
abbrev s__law_are_paths_told : Stmt := topS 31
abbrev N__law_are_paths_told : List Str := ["sheet", "due", "some", "is_named", "many", "told"]
abbrev s__law_are_short_right : Stmt := topS 32
abbrev N__law_are_short_right : List Str := ["sheet", "due", "mean", "square", "three", "under"]
abbrev s__law_is_constant_right : Stmt := topS 33
abbrev N__law_is_constant_right : List Str := ["bag", "m", "weights", "p", "sheet", "many", "over", "under", "turn"]
abbrev s__law_is_led_right : Stmt := topS 34
abbrev N__law_is_led_right : List Str := ["bag", "sheet", "due", "many", "weights", "table", "rest", "order", "led", "own", "paths", "i", "j"]
abbrev s__law_is_great_right : Stmt := topS 35
abbrev N__law_is_great_right : List Str := ["bag", "sheet", "plain", "many"]
abbrev s_law : Stmt := topS 36
abbrev N_law : List Str := ["script", "bag", "sheet", "many", "plain", "due", "paths"]
def FUEL : Nat := 1000000
def b1_common_of : FS := fFgt [2] (fSet 1 1 (fOp2 gDiv false (fOp2 gMulX false (fVar 1) (fOp2 gIx false (fVar 2) (fC (.int 1)))) (fB gGcd false (fACons (fVar 1) (fACons (fOp2 gIx false (fVar 2) (fC (.int 1))) fANil)))))
def F_common_of : FF := fnOf 1 3 (fSeq (fSet 1 1 (fC (.int 1))) (fSeq (fFor (fIter (fVar 0)) (gN 2) b1_common_of) (fRet 1 true (fVar 1))))
def e1_numbers_of : FE := fOp2 gMulX false (fOp2 gIx false (fVar 2) (fC (.int 0))) (fOp2 gDiv false (fVar 1) (fOp2 gIx false (fVar 2) (fC (.int 1))))
def F_numbers_of : FF := fnOf 2 3 (fRet 2 true (fLc false (fIter (fVar 0)) (gN 2) tYesF e1_numbers_of [2]))
def i1_whole_of : FI := fIter (fVar 5)
def e2_whole_of : FE := fVar 6
def e3_whole_of : FE := fCall F_numbers_of (fACons (fVar 5) (fACons (fVar 4) fANil))
def F_whole_of : FF := fnOf 1 7 (fSeq (fAsgG (fVar 0) (gTA 2 (gsCons (gN 1) (gsCons (gN 2) gsNil)))) (fSeq (fMulti 1 [3, 4] (fACons (fCall F_common_of (fACons (fVar 1) fANil)) (fACons (fCall F_common_of (fACons (fLc2 false (fIter (fVar 2)) (gN 5) tYesF i1_whole_of (gN 6) tYesF e2_whole_of [5, 6] [6]) fANil)) fANil))) (fRet 1 true (fTup (fACons (fCall F_numbers_of (fACons (fVar 1) (fACons (fVar 3) fANil))) (fACons (fLc false (fIter (fVar 2)) (gN 5) tYesF e3_whole_of [5]) (fACons (fVar 3) (fACons (fVar 4) fANil))))))))
def F_part_of : FF := fnOf 2 3 (fSeq (fSet 2 2 (fB gGcd false (fACons (fVar 0) (fACons (fVar 1) fANil)))) (fRet 2 true (fTup (fACons (fOp2 gDiv false (fVar 0) (fVar 2)) (fACons (fOp2 gDiv false (fVar 1) (fVar 2)) fANil)))))
def F_constant_sheet : FF := fnOf 2 2 (fRet 2 true (fTup (fACons (fVar 0) (fACons (fOp2 gMulX false (fTup (fACons (fOp2 gMulX false (fTup (fACons (fVar 1) fANil)) (fB gLen false (fACons (fVar 0) fANil))) fANil)) (fB gLen false (fACons (fVar 0) fANil))) fANil))))
def e1_whole_degrees : FE := fOp2 gMulX false (fVar 6) (fVar 7)
def e2_whole_degrees : FE := fB gSumA false (fACons (fLc false (fZip (fACons (fVar 1) (fACons (fVar 5) fANil))) (gT 2 (gsCons (gN 6) (gsCons (gN 7) gsNil))) tYesF e1_whole_degrees [6, 7]) fANil)
def F_whole_degrees : FF := fnOf 1 8 (fSeq (fAsgG (fCall F_whole_of (fACons (fVar 0) fANil)) (gTA 4 (gsCons (gN 1) (gsCons (gN 2) (gsCons (gN 3) (gsCons (gN 4) gsNil)))))) (fRet 1 true (fTup (fACons (fVar 1) (fACons (fLc false (fIter (fVar 2)) (gN 5) tYesF e2_whole_degrees [5]) (fACons (fVar 3) (fACons (fOp2 gMulX false (fVar 3) (fVar 4)) fANil)))))))
def e1_mean_of : FE := fOp2 gMulX false (fVar 5) (fVar 6)
def F_mean_of : FF := fnOf 1 7 (fSeq (fAsgG (fCall F_whole_degrees (fACons (fVar 0) fANil)) (gTA 4 (gsCons (gN 1) (gsCons (gN 2) (gsCons (gN 3) (gsCons (gN 4) gsNil)))))) (fRet 1 true (fCall F_part_of (fACons (fB gSumA false (fACons (fLc false (fZip (fACons (fVar 1) (fACons (fVar 2) fANil))) (gT 2 (gsCons (gN 5) (gsCons (gN 6) gsNil))) tYesF e1_mean_of [5, 6]) fANil)) (fACons (fOp2 gMulX false (fVar 3) (fVar 4)) fANil)))))
def e1_degrees_of : FE := fCall F_part_of (fACons (fVar 5) (fACons (fVar 4) fANil))
def F_degrees_of : FF := fnOf 1 6 (fSeq (fAsgG (fCall F_whole_degrees (fACons (fVar 0) fANil)) (gTA 4 (gsCons (gN 1) (gsCons (gN 2) (gsCons (gN 3) (gsCons (gN 4) gsNil)))))) (fRet 1 true (fB gToT false (fACons (fLc false (fIter (fVar 2)) (gN 5) tYesF e1_degrees_of [5]) fANil))))
def e1_degree_square : FE := fOp2 gMulX false (fVar 7) (fVar 8)
def b2_degree_square : FS := fFgt [7, 8, 9] (fSeq (fSet 1 9 (fOp2 gSub false (fOp2 gMulX false (fVar 8) (fVar 3)) (fVar 5))) (fSet 1 6 (fOp2 gAdd false (fVar 6) (fOp2 gMulX false (fOp2 gMulX false (fVar 7) (fVar 9)) (fVar 9)))))
def F_degree_square : FF := fnOf 1 10 (fSeq (fAsgG (fCall F_whole_degrees (fACons (fVar 0) fANil)) (gTA 4 (gsCons (gN 1) (gsCons (gN 2) (gsCons (gN 3) (gsCons (gN 4) gsNil)))))) (fSeq (fSet 1 5 (fB gSumA false (fACons (fLc false (fZip (fACons (fVar 1) (fACons (fVar 2) fANil))) (gT 2 (gsCons (gN 7) (gsCons (gN 8) gsNil))) tYesF e1_degree_square [7, 8]) fANil))) (fSeq (fSet 1 6 (fC (.int 0))) (fSeq (fFor (fZip (fACons (fVar 1) (fACons (fVar 2) fANil))) (gT 2 (gsCons (gN 7) (gsCons (gN 8) gsNil))) b2_degree_square) (fRet 1 true (fCall F_part_of (fACons (fVar 6) (fACons (fOp2 gMulX false (fOp2 gMulX false (fOp2 gMulX false (fOp2 gMulX false (fVar 3) (fVar 3)) (fVar 3)) (fVar 4)) (fVar 4)) fANil))))))))
def e1_path_share : FE := fOp2 gMulX false (fVar 10) (fVar 11)
def e2_path_share : FE := fOp2 gMulX false (fVar 11) (fVar 13)
def e3_path_share : FE := fB gSumA false (fACons (fLc false (fZip (fACons (fVar 12) (fACons (fVar 9) fANil))) (gT 2 (gsCons (gN 11) (gsCons (gN 13) gsNil))) tYesF e2_path_share [11, 13]) fANil)
def b4_path_share : FS := fFgt [8, 9] (fSeq (fSet 2 9 (fLc false (fZip (fACons (fVar 2) (fACons (fVar 6) fANil))) (gT 2 (gsCons (gN 10) (gsCons (gN 11) gsNil))) tYesF e1_path_share [10, 11])) (fSeq (fSet 2 6 (fLc false (fIter (fVar 3)) (gN 12) tYesF e3_path_share [12])) (fSet 2 7 (fOp2 gMulX false (fOp2 gMulX false (fVar 7) (fVar 4)) (fVar 5)))))
def e5_path_share : FE := fOp2 gMulX false (fVar 10) (fVar 11)
def F_path_share : FF := fnOf 2 14 (fSeq (fAsgG (fCall F_whole_of (fACons (fVar 0) fANil)) (gTA 4 (gsCons (gN 2) (gsCons (gN 3) (gsCons (gN 4) (gsCons (gN 5) gsNil)))))) (fSeq (fPar2 2 6 7 (fOp2 gMulX false (fLst false (fACons (fC (.int 1)) fANil)) (fB gLen false (fACons (fVar 2) fANil))) (fC (.int 1))) (fSeq (fFor (fRange1 (fOp2 gSub false (fVar 1) (fC (.int 1)))) (gN 8) b4_path_share) (fRet 2 true (fCall F_part_of (fACons (fB gSumA false (fACons (fLc false (fZip (fACons (fVar 2) (fACons (fVar 6) fANil))) (gT 2 (gsCons (gN 10) (gsCons (gN 11) gsNil))) tYesF e5_path_share [10, 11]) fANil)) (fACons (fOp2 gMulX false (fVar 7) (fVar 4)) fANil)))))))
def e1__law_own_bag : FE := fOp2 gMod false (fB gAbs false (fACons (fVar 3) fANil)) (fOp2 gPow false (fC (.int 10)) (fC (.int 60)))
def b2__law_own_bag : FS := fFgt [3] (fSet 1 2 (fOp2 gMod false (fB gInt false (fACons (fOp2 gAdd false (fOp2 gAdd false (fOp2 gMulX false (fVar 2) (fC (.int 48271))) (fOp2 gMod false (fB gInt false (fACons (fVar 3) fANil)) (fC (.int 2147483629)))) (fC (.int 7))) fANil)) (fC (.int 2147483647))))
def F__law_own_bag : FF := fnOf 1 4 (fSeq (fSet 1 1 (fLc false (fIter (fSlice false (fVar 0) fONo (fOSo (fC (.int 63))))) (gN 3) tYesF e1__law_own_bag [3])) (fSeq (fSet 1 2 (fOp2 gAdd false (fC (.int 2468)) (fB gLen false (fACons (fVar 1) fANil)))) (fSeq (fFor (fIter (fVar 1)) (gN 3) b2__law_own_bag) (fRet 1 false (fMkBag (fListRev true (fB gToL false (fACons (fVar 1) fANil))) (fC (.int 0)) (fVar 2))))))
def c1__law_draw : FT := fAnd (fT (fOp2 (gEqX false) false (fBagIx 0 1) (fC (.int 0)))) (fT (fBagNe 0))
def b2__law_draw : FS := fFgt [2] (fSeq (fSet 2 2 (fBagPop 0)) (fBagPut 0 1 (fIfE (fT (fOp2 gGt false (fVar 2) (fOp2 gPow false (fC (.int 10)) (fC (.int 9))))) (fVar 2) (fC (.int 0)))))
def F__law_draw : FF := fnOf 2 4 (fSeq (fWhile c1__law_draw b2__law_draw FUEL) (fSeq (fIf (fT (fOp2 gGt false (fBagIx 0 1) (fC (.int 0)))) (fSeq (fSet 2 3 (fOp2 gMod false (fB gInt false (fACons (fBagIx 0 1) fANil)) (fVar 1))) (fSeq (fBagPut 0 1 (fOp2 gDiv false (fBagIx 0 1) (fVar 1))) (fRet 2 true (fVar 3)))) fNil) (fSeq (fBagPut 0 2 (fOp2 gMod false (fB gInt false (fACons (fOp2 gAdd false (fOp2 gMulX false (fBagIx 0 2) (fC (.int 48271))) (fC (.int 11))) fANil)) (fC (.int 2147483647)))) (fRet 2 true (fOp2 gMod false (fB gInt false (fACons (fOp2 gDiv false (fOp2 gMod false (fB gInt false (fACons (fOp2 gMulX false (fBagIx 0 2) (fBagIx 0 2)) fANil)) (fC (.int 2147483629))) (fC (.int 7))) fANil)) (fVar 1))))))
def F__law_pick : FF := fnOf 2 2 (fRet 2 true (fOp2 gIx false (fVar 1) (fCall F__law_draw (fACons (fVar 0) (fACons (fB gLen false (fACons (fVar 1) fANil)) fANil)))))
def e1__law_same (R : FF) : FE := fCall R (fACons (fVar 2) (fACons (fVar 3) fANil))
def F__law_same : Nat → FF
  | 0 => fun _ => none
  | n + 1 => fnOf 2 4 (fSeq (fIf (fT (fOp2 gIs false (fVar 1) (fC .none))) (fRet 2 true (fOp2 gIs false (fVar 0) (fC .none))) fNil) (fSeq (fIf (fTru (fIsi "tuple" (fVar 1))) (fSeq (fIf (fOr (fNot (fTru (fIsi "tuple" (fVar 0)))) (fT (fOp2 (gEqX true) false (fB gLen false (fACons (fVar 0) fANil)) (fB gLen false (fACons (fVar 1) fANil))))) (fRet 2 true (fC (.bool false))) fNil) (fRet 2 true (fB gAll false (fACons (fLc false (fIter (fListZip false (fACons (fVar 0) (fACons (fVar 1) fANil)))) (gT 2 (gsCons (gN 2) (gsCons (gN 3) gsNil))) tYesF (e1__law_same (F__law_same n)) [2, 3]) fANil)))) fNil) (fSeq (fIf (fTru (fIsi "str" (fVar 1))) (fRet 2 true (fAndV (fIsi "str" (fVar 0)) (fOp2 (gEqX false) false (fVar 0) (fVar 1)))) fNil) (fRet 2 true (fAndV (fIsi "int" (fVar 0)) (fAndV (fNotV (fIsi "bool" (fVar 0))) (fOp2 (gEqX false) false (fVar 0) (fVar 1))))))))
def c1__law_gcd : FT := fT (fOp2 gGt false (fVar 1) (fC (.int 0)))
def b2__law_gcd : FS := fPar2 2 0 1 (fVar 1) (fOp2 gMod false (fB gInt false (fACons (fVar 0) fANil)) (fVar 1))
def F__law_gcd : FF := fnOf 2 2 (fSeq (fSet 2 0 (fB gAbs false (fACons (fVar 0) fANil))) (fSeq (fWhile c1__law_gcd b2__law_gcd FUEL) (fRet 2 true (fVar 0))))
def F__law_lowest : FF := fnOf 2 3 (fSeq (fSet 2 2 (fCall F__law_gcd (fACons (fVar 0) (fACons (fVar 1) fANil)))) (fRet 2 true (fTup (fACons (fOp2 gDiv false (fVar 0) (fVar 2)) (fACons (fOp2 gDiv false (fVar 1) (fVar 2)) fANil)))))
def b1__law_under : FS := fFgt [2] (fSet 1 1 (fOp2 gMulX false (fVar 1) (fOp2 gDiv false (fOp2 gIx false (fVar 2) (fC (.int 1))) (fCall F__law_gcd (fACons (fVar 1) (fACons (fOp2 gIx false (fVar 2) (fC (.int 1))) fANil))))))
def F__law_under : FF := fnOf 1 3 (fSeq (fSet 1 1 (fC (.int 1))) (fSeq (fFor (fIter (fVar 0)) (gN 2) b1__law_under) (fRet 1 true (fVar 1))))
def F__law_own_item : FF := fnOf 3 4 (fSeq (fIf (fT (fOp2 (gEqX false) false (fCall F__law_draw (fACons (fVar 0) (fACons (fC (.int 6)) fANil))) (fC (.int 0)))) (fRet 3 true (fTup (fACons (fCall F__law_pick (fACons (fVar 0) (fACons (fLst false (fACons (fVar 1) (fACons (fC (.int 0)) (fACons (fC (.int 1)) fANil)))) fANil))) (fACons (fC (.int 1)) fANil)))) fNil) (fSeq (fSet 3 3 (fOp2 gAdd false (fC (.int 1)) (fCall F__law_draw (fACons (fVar 0) (fACons (fVar 2) fANil))))) (fRet 3 true (fCall F__law_lowest (fACons (fOp2 gAdd false (fOp2 gMulX false (fVar 1) (fVar 3)) (fCall F__law_draw (fACons (fVar 0) (fACons (fOp2 gAdd false (fOp2 gMulX false (fOp2 gSub false (fC (.int 1)) (fVar 1)) (fVar 3)) (fC (.int 1))) fANil)))) (fACons (fVar 3) fANil))))))
def e1__law_own_weights : FE := fOp2 gAdd false (fC (.int 1)) (fCall F__law_draw (fACons (fVar 0) (fACons (fVar 2) fANil)))
def e2__law_own_weights : FE := fCall F__law_lowest (fACons (fVar 6) (fACons (fVar 4) fANil))
def F__law_own_weights : FF := fnOf 3 7 (fSeq (fSet 3 3 (fLc false (fRange1 (fVar 1)) (gN 5) tYesF e1__law_own_weights [5])) (fSeq (fSet 3 4 (fB gSumA false (fACons (fVar 3) fANil))) (fRet 3 true (fB gToT false (fACons (fLc false (fIter (fVar 3)) (gN 6) tYesF e2__law_own_weights [6]) fANil)))))
def e1__law_own_table : FE := fOp2 gMulX true (fLst false (fACons (fTup (fACons (fC (.int 0)) (fACons (fC (.int 1)) fANil))) fANil)) (fVar 1)
def e2__law_own_table : FE := fCall F__law_own_item (fACons (fVar 0) (fACons (fVar 2) (fACons (fVar 3) fANil)))
def b3__law_own_table : FS := fFgt [5, 6, 7, 8, 9] (fAlias 4 6 5 1 7 8 9 e2__law_own_table)
def e4__law_own_table : FE := fB gToT false (fACons (fVar 11) fANil)
def F__law_own_table : FF := fnOf 4 12 (fSeq (fSet 4 4 (fLcL (fRange1 (fVar 1)) (gN 10) tYesF e1__law_own_table [10])) (fSeq (fFor (fRange1 (fVar 1)) (gN 5) b3__law_own_table) (fFrz 4 (fRet 4 true (fB gToT false (fACons (fLc false (fIter (fVar 4)) (gN 11) tYesF e4__law_own_table [11]) fANil))))))
def e1__law_own_sheet : FE := fOp2 gIx false (fOp2 gIx false (fVar 5) (fC (.int 0))) (fB gMinL false (fACons (fLst false (fACons (fVar 15) (fACons (fOp2 gSub false (fVar 1) (fVar 15)) fANil))) fANil))
def e2__law_own_sheet : FE := fOp2 gIx false (fVar 8) (fOp2 gMod false (fB gInt false (fACons (fOp2 gAdd false (fOp2 gSub false (fVar 12) (fVar 10)) (fVar 1)) fANil)) (fVar 1))
def e3__law_own_sheet : FE := fB gToT false (fACons (fLc false (fRange1 (fVar 1)) (gN 12) tYesF e2__law_own_sheet [12]) fANil)
def b4__law_own_sheet : FS := fFgt [12, 13, 14] (fSeq (fSet 2 14 (fOrV (fOp2 gGt false (fVar 4) (fC (.int 4))) (fOrV (fAndV (fOp2 (gEqX false) false (fVar 4) (fC (.int 2))) (fChain (gEqX false) (gEqX false) (fVar 10) (fVar 12) (fVar 6))) (fAndV (fOp2 (gEqX false) false (fVar 4) (fC (.int 3))) (fOp2 (gEqX true) false (fOp2 (gEqX false) false (fVar 10) (fVar 6)) (fOp2 (gEqX false) false (fVar 12) (fVar 6))))))) (fSeq (fSet 2 14 (fOrV (fVar 14) (fAndV (fOp2 (gEqX false) false (fVar 4) (fC (.int 4))) (fOp2 (gEqX true) false (fOp2 gGt false (fVar 10) (fVar 6)) (fOp2 gGt false (fVar 12) (fVar 6)))))) (fDrop (fAppend 11 (fIfE (fNot (fTru (fVar 14))) (fTup (fACons (fC (.int 0)) (fACons (fC (.int 1)) fANil))) (fIfE (fAnd (fT (fOp2 (gEqX false) false (fVar 4) (fC (.int 5)))) (fT (fOp2 gGt false (fOp2 gIx false (fVar 13) (fC (.int 0))) (fC (.int 0))))) (fTup (fACons (fC (.int 1)) (fACons (fC (.int 1)) fANil))) (fVar 13)))))))
def b5__law_own_sheet : FS := fFgt [8, 10, 11, 12, 13, 14] (fSeq (fSet 2 11 (fLst true fANil)) (fSeq (fFor (fEnumA (fVar 8)) (gT 2 (gsCons (gN 12) (gsCons (gN 13) gsNil))) b4__law_own_sheet) (fFrz 11 (fDrop (fAppend 7 (fB gToT false (fACons (fVar 11) fANil)))))))
def F__law_own_sheet : FF := fnOf 2 16 (fSeq (fSet 2 2 (fIfE (fT (fOp2 gGt false (fVar 1) (fC (.int 4)))) (fCall F__law_pick (fACons (fVar 0) (fACons (fLst false (fACons (fC (.int 2)) (fACons (fC (.int 3)) (fACons (fC (.int 4)) fANil)))) fANil))) (fCall F__law_pick (fACons (fVar 0) (fACons (fLst false (fACons (fC (.int 3)) (fACons (fC (.int 12)) (fACons (fC (.int 12)) (fACons (fIfE (fT (fOp2 gLt false (fVar 1) (fC (.int 4)))) (fC (.int 1000)) (fC (.int 12))) fANil))))) fANil))))) (fSeq (fPar2 2 3 4 (fCall F__law_own_weights (fACons (fVar 0) (fACons (fVar 1) (fACons (fCall F__law_pick (fACons (fVar 0) (fACons (fLst false (fACons (fC (.int 1)) (fACons (fC (.int 4)) (fACons (fIfE (fT (fOp2 gLt false (fVar 1) (fC (.int 5)))) (fC (.int 12)) (fC (.int 3))) fANil)))) fANil))) fANil)))) (fCall F__law_draw (fACons (fVar 0) (fACons (fC (.int 9)) fANil)))) (fSeq (fMulti 2 [5, 6, 7] (fACons (fCall F__law_own_table (fACons (fVar 0) (fACons (fVar 1) (fACons (fC (.int 0)) (fACons (fVar 2) fANil))))) (fACons (fCall F__law_draw (fACons (fVar 0) (fACons (fVar 1) fANil))) (fACons (fLst true fANil) fANil)))) (fSeq (fIf (fT (fOp2 (gEqX false) false (fVar 4) (fC (.int 0)))) (fRet 2 true (fTup (fACons (fVar 3) (fACons (fOp2 gMulX false (fTup (fACons (fOp2 gMulX false (fTup (fACons (fOp2 gIx false (fOp2 gIx false (fVar 5) (fC (.int 0))) (fC (.int 0))) fANil)) (fVar 1)) fANil)) (fVar 1)) fANil)))) fNil) (fSeq (fIf (fT (fOp2 (gEqX false) false (fVar 4) (fC (.int 1)))) (fSeq (fSet 2 8 (fIfE (fT (fOp2 gGt false (fVar 1) (fC (.int 1)))) (fLc false (fRange1 (fVar 1)) (gN 15) tYesF e1__law_own_sheet [15]) (fLst false (fACons (fOp2 gIx false (fOp2 gIx false (fVar 5) (fC (.int 0))) (fC (.int 0))) fANil)))) (fSeq (fSet 2 9 (fLc false (fRange1 (fVar 1)) (gN 10) tYesF e3__law_own_sheet [10])) (fRet 2 true (fTup (fACons (fOp2 gMulX false (fTup (fACons (fTup (fACons (fC (.int 1)) (fACons (fVar 1) fANil))) fANil)) (fVar 1)) (fACons (fB gToT false (fACons (fVar 9) fANil)) fANil)))))) fNil) (fSeq (fFor (fEnumA (fVar 5)) (gT 2 (gsCons (gN 10) (gsCons (gN 8) gsNil))) b5__law_own_sheet) (fFrz 7 (fRet 2 true (fTup (fACons (fVar 3) (fACons (fB gToT false (fACons (fVar 7) fANil)) fANil)))))))))))
def b1__law_plain : FS := fFgt [5] (fSet 1 4 (fCall F__law_under (fACons (fOp2 gAdd false (fLst false (fACons (fTup (fACons (fC (.int 1)) (fACons (fVar 4) fANil))) fANil)) (fB gToL false (fACons (fVar 5) fANil))) fANil)))
def e2__law_plain : FE := fOp2 gMulX false (fOp2 gIx false (fVar 8) (fC (.int 0))) (fOp2 gDiv false (fVar 4) (fOp2 gIx false (fVar 8) (fC (.int 1))))
def e3__law_plain : FE := fLc false (fIter (fVar 7)) (gN 8) tYesF e2__law_plain [8]
def e4__law_plain : FE := fOp2 gMulX false (fOp2 gIx false (fVar 9) (fC (.int 0))) (fOp2 gDiv false (fVar 3) (fOp2 gIx false (fVar 9) (fC (.int 1))))
def F__law_plain : FF := fnOf 1 10 (fSeq (fAsgG (fVar 0) (gTA 2 (gsCons (gN 1) (gsCons (gN 2) gsNil)))) (fSeq (fMulti 1 [3, 4] (fACons (fCall F__law_under (fACons (fVar 1) fANil)) (fACons (fC (.int 1)) fANil))) (fSeq (fFor (fIter (fVar 2)) (gN 5) b1__law_plain) (fSeq (fSet 1 6 (fLc false (fIter (fVar 2)) (gN 7) tYesF e3__law_plain [7])) (fRet 1 true (fLst false (fACons (fLc false (fIter (fVar 1)) (gN 9) tYesF e4__law_plain [9]) (fACons (fVar 6) (fACons (fVar 3) (fACons (fVar 4) fANil))))))))))
def e1__law_sum : FE := fOp2 gMulX false (fVar 2) (fVar 3)
def F__law_sum : FF := fnOf 2 4 (fRet 2 true (fB gSumA false (fACons (fLc false (fIter (fListZip false (fACons (fVar 0) (fACons (fVar 1) fANil)))) (gT 2 (gsCons (gN 2) (gsCons (gN 3) gsNil))) tYesF e1__law_sum [2, 3]) fANil)))
def e1__law_due : FE := fCall F__law_sum (fACons (fVar 1) (fACons (fVar 9) fANil))
def e2__law_due : FE := fOp2 gMulX false (fVar 10) (fOp2 gPowX false (fOp2 gSub false (fOp2 gMulX false (fVar 3) (fVar 11)) (fVar 6)) (fC (.int 2)))
def e3__law_due : FE := fCall F__law_lowest (fACons (fVar 11) (fACons (fOp2 gMulX false (fVar 3) (fVar 4)) fANil))
def F__law_due : FF := fnOf 1 12 (fSeq (fAsgG (fVar 0) (gTA 4 (gsCons (gN 1) (gsCons (gN 2) (gsCons (gN 3) (gsCons (gN 4) gsNil)))))) (fSeq (fSet 1 5 (fLc false (fIter (fVar 2)) (gN 9) tYesF e1__law_due [9])) (fSeq (fSet 1 6 (fCall F__law_sum (fACons (fVar 1) (fACons (fVar 5) fANil)))) (fSeq (fSet 1 7 (fB gSumA false (fACons (fLc false (fIter (fListZip false (fACons (fVar 1) (fACons (fVar 5) fANil)))) (gT 2 (gsCons (gN 10) (gsCons (gN 11) gsNil))) tYesF e2__law_due [10, 11]) fANil))) (fSeq (fSet 1 8 (fB gToT false (fACons (fLc false (fIter (fVar 5)) (gN 11) tYesF e3__law_due [11]) fANil))) (fRet 1 true (fLst false (fACons (fCall F__law_lowest (fACons (fVar 6) (fACons (fOp2 gMulX false (fOp2 gMulX false (fVar 3) (fVar 3)) (fVar 4)) fANil))) (fACons (fVar 8) (fACons (fCall F__law_lowest (fACons (fVar 7) (fACons (fOp2 gMulX false (fOp2 gPowX false (fVar 3) (fC (.int 5))) (fOp2 gPowX false (fVar 4) (fC (.int 2)))) fANil))) fANil))))))))))
def e1__law_paths : FE := fOp2 gMulX false (fVar 11) (fVar 12)
def e2__law_paths : FE := fCall F__law_sum (fACons (fVar 13) (fACons (fVar 10) fANil))
def b3__law_paths : FS := fFgt [9, 10] (fSeq (fDrop (fAppend 8 (fCall F__law_lowest (fACons (fCall F__law_sum (fACons (fVar 2) (fACons (fVar 6) fANil))) (fACons (fVar 7) fANil))))) (fSeq (fSet 2 10 (fLc false (fIter (fListZip false (fACons (fVar 2) (fACons (fVar 6) fANil)))) (gT 2 (gsCons (gN 11) (gsCons (gN 12) gsNil))) tYesF e1__law_paths [11, 12])) (fPar2 2 6 7 (fLc false (fIter (fVar 3)) (gN 13) tYesF e2__law_paths [13]) (fOp2 gMulX false (fOp2 gMulX false (fVar 7) (fVar 4)) (fVar 5)))))
def F__law_paths : FF := fnOf 2 14 (fSeq (fAsgG (fVar 0) (gTA 4 (gsCons (gN 2) (gsCons (gN 3) (gsCons (gN 4) (gsCons (gN 5) gsNil)))))) (fSeq (fMulti 2 [6, 7, 8] (fACons (fOp2 gMulX false (fLst false (fACons (fC (.int 1)) fANil)) (fB gLen false (fACons (fVar 2) fANil))) (fACons (fVar 4) (fACons (fLst true (fACons (fTup (fACons (fC (.int 0)) (fACons (fC (.int 1)) fANil))) fANil)) fANil)))) (fSeq (fFor (fRange1 (fVar 1)) (gN 9) b3__law_paths) (fRet 2 true (fVar 8)))))
def e1__law_are_told : FE := fOp2 (gEqX false) false (fVar 6) (fOp2 gIx false (fOp2 gIx false (fVar 1) (fC (.int 1))) (fC (.int 0)))
def e2__law_are_told : FE := fCall (F__law_same 8) (fACons (fVar 7) (fACons (fVar 8) fANil))
def F__law_are_told : FF := fnOf 3 9 (fSeq (fSet 3 3 (fB gReprX false (fACons (fVar 0) fANil))) (fSeq (fIf (fTru (fVar 2)) (fSet 3 4 (fLst false (fACons (fCallK F_mean_of 1 [0] (fACons (fVar 0) fANil)) (fACons (fCallK F_degrees_of 1 [0] (fACons (fVar 0) fANil)) (fACons (fCallK F_degree_square 1 [0] (fACons (fVar 0) fANil)) fANil))))) (fSet 3 4 (fLst false (fACons (fCall F_mean_of (fACons (fVar 0) fANil)) (fACons (fCall F_degrees_of (fACons (fVar 0) fANil)) (fACons (fCall F_degree_square (fACons (fVar 0) fANil)) fANil)))))) (fSeq (fSet 3 5 (fB gAll false (fACons (fLc false (fIter (fOp2 gIx false (fVar 1) (fC (.int 1)))) (gN 6) tYesF e1__law_are_told [6]) fANil))) (fSeq (fIf (fOr (fT (fOp2 (gEqX true) false (fOp2 (gEqX false) false (fOp2 gIx false (fVar 1) (fC (.int 2))) (fTup (fACons (fC (.int 0)) (fACons (fC (.int 1)) fANil)))) (fVar 5))) (fT (fOp2 (gEqX true) false (fB gReprX false (fACons (fVar 0) fANil)) (fVar 3)))) (fRet 3 true (fC (.bool false))) fNil) (fRet 3 true (fB gAll false (fACons (fLc false (fIter (fListZip false (fACons (fVar 4) (fACons (fVar 1) fANil)))) (gT 2 (gsCons (gN 7) (gsCons (gN 8) gsNil))) tYesF e2__law_are_told [7, 8]) fANil)))))))
def b1__law_are_paths_told : FS := fFgt [4, 5] (fSeq (fSet 4 5 (fIfE (fTru (fVar 3)) (fCallK F_path_share 2 [0, 1] (fACons (fVar 0) (fACons (fVar 4) fANil))) (fCall F_path_share (fACons (fVar 0) (fACons (fVar 4) fANil))))) (fIf (fNot (fTru (fCall (F__law_same 8) (fACons (fVar 5) (fACons (fOp2 gIx false (fVar 1) (fVar 4)) fANil))))) (fRet 4 true (fC (.bool false))) fNil))
def F__law_are_paths_told : FF := fnOf 4 6 (fSeq (fFor (fIter (fVar 2)) (gN 4) b1__law_are_paths_told) (fRet 4 true (fC (.bool true))))
def F__law_are_short_right : FF := fnOf 2 6 (fSeq (fMulti 2 [2, 3, 4] (fACons (fCall F_mean_of (fACons (fVar 0) fANil)) (fACons (fCall F_degree_square (fACons (fVar 0) fANil)) (fACons (fCall F_path_share (fACons (fVar 0) (fACons (fC (.int 3)) fANil))) fANil)))) (fSeq (fIf (fOr (fNot (fTru (fCall (F__law_same 8) (fACons (fCall F_path_share (fACons (fVar 0) (fACons (fC (.int 1)) fANil))) (fACons (fTup (fACons (fC (.int 1)) (fACons (fC (.int 1)) fANil))) fANil))))) (fNot (fTru (fCall (F__law_same 8) (fACons (fCall F_path_share (fACons (fVar 0) (fACons (fC (.int 2)) fANil))) (fACons (fOp2 gIx false (fVar 1) (fC (.int 0))) fANil)))))) (fRet 2 true (fC (.bool false))) fNil) (fSeq (fIf (fOr (fNot (fTru (fCall (F__law_same 8) (fACons (fVar 2) (fACons (fOp2 gIx false (fVar 1) (fC (.int 0))) fANil))))) (fNot (fTru (fCall (F__law_same 8) (fACons (fVar 3) (fACons (fOp2 gIx false (fVar 1) (fC (.int 2))) fANil)))))) (fRet 2 true (fC (.bool false))) fNil) (fSeq (fSet 2 5 (fOp2 gMulX false (fOp2 gMulX false (fOp2 gIx false (fVar 2) (fC (.int 1))) (fOp2 gIx false (fVar 2) (fC (.int 1)))) (fOp2 gIx false (fVar 3) (fC (.int 1))))) (fRet 2 true (fCall (F__law_same 8) (fACons (fVar 4) (fACons (fCall F__law_lowest (fACons (fOp2 gAdd false (fOp2 gMulX false (fOp2 gMulX false (fOp2 gIx false (fVar 2) (fC (.int 0))) (fOp2 gIx false (fVar 2) (fC (.int 0)))) (fOp2 gIx false (fVar 3) (fC (.int 1)))) (fOp2 gMulX false (fOp2 gMulX false (fOp2 gIx false (fVar 3) (fC (.int 0))) (fOp2 gIx false (fVar 2) (fC (.int 1)))) (fOp2 gIx false (fVar 2) (fC (.int 1))))) (fACons (fVar 5) fANil))) fANil))))))))
def b1__law_is_constant_right : FS := fFgt [8] (fPar2 1 6 7 (fOp2 gMulX false (fVar 6) (fOp2 gIx false (fVar 3) (fC (.int 0)))) (fOp2 gMulX false (fVar 7) (fOp2 gIx false (fVar 3) (fC (.int 1)))))
def F__law_is_constant_right : FF := fnOf 1 9 (fSeq (fSet 1 1 (fIfE (fT (fOp2 (gEqX false) false (fCall F__law_draw (fACons (fVar 0) (fACons (fC (.int 6)) fANil))) (fC (.int 0)))) (fC (.int 8)) (fOp2 gAdd false (fC (.int 1)) (fCall F__law_draw (fACons (fVar 0) (fACons (fC (.int 4)) fANil)))))) (fSeq (fPar2 1 2 3 (fCall F__law_own_weights (fACons (fVar 0) (fACons (fVar 1) (fACons (fCall F__law_pick (fACons (fVar 0) (fACons (fLst false (fACons (fC (.int 1)) (fACons (fC (.int 5)) fANil))) fANil))) fANil)))) (fCall F__law_own_item (fACons (fVar 0) (fACons (fC (.int 0)) (fACons (fCall F__law_pick (fACons (fVar 0) (fACons (fLst false (fACons (fC (.int 3)) (fACons (fC (.int 12)) (fACons (fC (.int 40)) fANil)))) fANil))) fANil))))) (fSeq (fMulti 1 [4, 5, 6, 7] (fACons (fCall F_constant_sheet (fACons (fVar 2) (fACons (fVar 3) fANil))) (fACons (fOp2 gAdd false (fC (.int 1)) (fCall F__law_draw (fACons (fVar 0) (fACons (fIfE (fT (fOp2 gLt false (fVar 1) (fC (.int 5)))) (fC (.int 12)) (fC (.int 6))) fANil)))) (fACons (fC (.int 1)) (fACons (fC (.int 1)) fANil))))) (fSeq (fIf (fNot (fTru (fCall (F__law_same 8) (fACons (fVar 4) (fACons (fTup (fACons (fVar 2) (fACons (fOp2 gMulX false (fTup (fACons (fOp2 gMulX false (fTup (fACons (fVar 3) fANil)) (fVar 1)) fANil)) (fVar 1)) fANil))) fANil))))) (fRet 1 true (fC (.bool false))) fNil) (fSeq (fFor (fRange1 (fOp2 gSub false (fVar 5) (fC (.int 1)))) (gN 8) b1__law_is_constant_right) (fSeq (fIf (fNot (fTru (fCall (F__law_same 8) (fACons (fCall F_path_share (fACons (fVar 4) (fACons (fVar 5) fANil))) (fACons (fTup (fACons (fVar 6) (fACons (fVar 7) fANil))) fANil))))) (fRet 1 true (fC (.bool false))) fNil) (fRet 1 true (fCall F__law_are_told (fACons (fVar 4) (fACons (fLst false (fACons (fVar 3) (fACons (fOp2 gMulX false (fTup (fACons (fVar 3) fANil)) (fVar 1)) (fACons (fTup (fACons (fC (.int 0)) (fACons (fC (.int 1)) fANil))) fANil)))) (fACons (fC (.bool false)) fANil)))))))))))
def c1__law_is_led_right : FT := fT (fOp2 (gEqX true) false (fVar 6) (fLst false fANil))
def b2__law_is_led_right : FS := fDrop (fAppend 7 (fPopAt 6 (fCall F__law_draw (fACons (fVar 0) (fACons (fB gLen false (fACons (fVar 6) fANil)) fANil)))))
def e3__law_is_led_right : FE := fOp2 gIx false (fOp2 gIx false (fVar 5) (fVar 11)) (fVar 12)
def e4__law_is_led_right : FE := fB gToT false (fACons (fLc false (fIter (fVar 7)) (gN 12) tYesF e3__law_is_led_right [12]) fANil)
def e5__law_is_led_right : FE := fOp2 gIx false (fVar 4) (fVar 11)
def e6__law_is_led_right : FE := fOp2 gIx false (fOp2 gIx false (fVar 2) (fC (.int 1))) (fVar 11)
def F__law_is_led_right : FF := fnOf 4 13 (fSeq (fAsgG (fVar 1) (gTA 2 (gsCons (gN 4) (gsCons (gN 5) gsNil)))) (fSeq (fMulti 4 [6, 7] (fACons (fListR1 true (fB gLen false (fACons (fVar 4) fANil))) (fACons (fLst true fANil) fANil))) (fSeq (fWhile c1__law_is_led_right b2__law_is_led_right FUEL) (fFrz 7 (fSeq (fSet 4 8 (fTup (fACons (fB gToT false (fACons (fLc false (fIter (fVar 7)) (gN 11) tYesF e5__law_is_led_right [11]) fANil)) (fACons (fB gToT false (fACons (fLc false (fIter (fVar 7)) (gN 11) tYesF e4__law_is_led_right [11]) fANil)) fANil)))) (fSeq (fPar2 4 9 10 (fCall F__law_due (fACons (fCall F__law_plain (fACons (fVar 8) fANil)) fANil)) (fCall F__law_paths (fACons (fCall F__law_plain (fACons (fVar 1) fANil)) (fACons (fVar 3) fANil)))) (fSeq (fIf (fT (fOp2 (gEqX true) false (fVar 9) (fLst false (fACons (fOp2 gIx false (fVar 2) (fC (.int 0))) (fACons (fB gToT false (fACons (fLc false (fIter (fVar 7)) (gN 11) tYesF e6__law_is_led_right [11]) fANil)) (fACons (fOp2 gIx false (fVar 2) (fC (.int 2))) fANil)))))) (fRet 4 true (fC (.bool false))) fNil) (fRet 4 true (fAndV (fCall F__law_are_told (fACons (fVar 8) (fACons (fVar 9) (fACons (fC (.bool true)) fANil)))) (fCall F__law_are_paths_told (fACons (fVar 8) (fACons (fVar 10) (fACons (fLst false (fACons (fVar 3) fANil)) (fACons (fC (.bool false)) fANil))))))))))))))
def F__law_is_great_right : FF := fnOf 1 4 (fSeq (fSet 1 1 (fCall F__law_own_sheet (fACons (fVar 0) (fACons (fCall F__law_pick (fACons (fVar 0) (fACons (fLst false (fACons (fC (.int 8)) (fACons (fC (.int 8)) (fACons (fC (.int 8)) (fACons (fC (.int 7)) (fACons (fC (.int 6)) (fACons (fC (.int 5)) fANil))))))) fANil))) fANil)))) (fSeq (fPar2 1 2 3 (fCall F__law_plain (fACons (fVar 1) fANil)) (fCall F__law_pick (fACons (fVar 0) (fACons (fLst false (fACons (fC (.int 12)) (fACons (fC (.int 12)) (fACons (fC (.int 12)) (fACons (fOp2 gAdd false (fC (.int 4)) (fCall F__law_draw (fACons (fVar 0) (fACons (fC (.int 9)) fANil)))) fANil))))) fANil)))) (fSeq (fIf (fNot (fTru (fCall F__law_are_told (fACons (fVar 1) (fACons (fCall F__law_due (fACons (fVar 2) fANil)) (fACons (fC (.bool false)) fANil)))))) (fRet 1 true (fC (.bool false))) fNil) (fRet 1 true (fCall F__law_are_paths_told (fACons (fVar 1) (fACons (fCall F__law_paths (fACons (fVar 2) (fACons (fC (.int 12)) fANil))) (fACons (fLst false (fACons (fC (.int 2)) (fACons (fC (.int 3)) (fACons (fVar 3) fANil)))) (fACons (fC (.bool true)) fANil)))))))))
def F_law : FF := fnOf 1 7 (fSeq (fSet 1 1 (fCall F__law_own_bag (fACons (fVar 0) fANil))) (fSeq (fIf (fT (fOp2 (gEqX false) false (fCall F__law_draw (fACons (fVar 1) (fACons (fC (.int 4)) fANil))) (fC (.int 0)))) (fRet 1 true (fAndV (fCall F__law_is_great_right (fACons (fVar 1) fANil)) (fCall F__law_is_constant_right (fACons (fVar 1) fANil)))) fNil) (fSeq (fPar2 1 2 3 (fCall F__law_own_sheet (fACons (fVar 1) (fACons (fCall F__law_pick (fACons (fVar 1) (fACons (fLst false (fACons (fC (.int 1)) (fACons (fC (.int 2)) (fACons (fC (.int 2)) (fACons (fC (.int 3)) (fACons (fC (.int 3)) (fACons (fC (.int 3)) (fACons (fC (.int 4)) (fACons (fC (.int 4)) fANil))))))))) fANil))) fANil))) (fOp2 gAdd false (fC (.int 4)) (fCall F__law_draw (fACons (fVar 1) (fACons (fC (.int 9)) fANil))))) (fSeq (fSet 1 4 (fCall F__law_plain (fACons (fVar 2) fANil))) (fSeq (fPar2 1 5 6 (fCall F__law_due (fACons (fVar 4) fANil)) (fCall F__law_paths (fACons (fVar 4) (fACons (fC (.int 12)) fANil)))) (fSeq (fIf (fOr (fNot (fTru (fCall F__law_are_told (fACons (fVar 2) (fACons (fVar 5) (fACons (fC (.bool false)) fANil)))))) (fNot (fTru (fCall F__law_are_told (fACons (fVar 2) (fACons (fVar 5) (fACons (fC (.bool true)) fANil))))))) (fRet 1 true (fC (.bool false))) fNil) (fSeq (fIf (fNot (fTru (fCall F__law_are_paths_told (fACons (fVar 2) (fACons (fVar 6) (fACons (fLst false (fACons (fC (.int 1)) (fACons (fC (.int 2)) (fACons (fC (.int 3)) (fACons (fVar 3) fANil))))) (fACons (fC (.bool true)) fANil))))))) (fRet 1 true (fC (.bool false))) fNil) (fSeq (fIf (fNot (fTru (fCall F__law_are_paths_told (fACons (fVar 2) (fACons (fVar 6) (fACons (fLst false (fACons (fC (.int 12)) (fACons (fOp2 gAdd false (fC (.int 1)) (fCall F__law_draw (fACons (fVar 1) (fACons (fC (.int 12)) fANil)))) (fACons (fC (.int 4)) fANil)))) (fACons (fC (.bool false)) fANil))))))) (fRet 1 true (fC (.bool false))) fNil) (fSeq (fIf (fOr (fNot (fTru (fCall F__law_are_short_right (fACons (fVar 2) (fACons (fVar 5) fANil))))) (fNot (fTru (fCall F__law_is_constant_right (fACons (fVar 1) fANil))))) (fRet 1 true (fC (.bool false))) fNil) (fRet 1 true (fAndV (fCall F__law_is_led_right (fACons (fVar 1) (fACons (fVar 2) (fACons (fVar 5) (fACons (fOp2 gAdd false (fC (.int 1)) (fCall F__law_draw (fACons (fVar 1) (fACons (fC (.int 6)) fANil)))) fANil))))) (fCall F__law_are_told (fACons (fVar 2) (fACons (fVar 5) (fACons (fC (.bool false)) fANil)))))))))))))))
structure Bs (mg : Str → Option Value) : Prop where
  abs : mg "abs" = none
  «all» : mg "all" = none
  bool : mg "bool" = none
  enumerate : mg "enumerate" = none
  int : mg "int" = none
  isinstance : mg "isinstance" = none
  len : mg "len" = none
  list : mg "list" = none
  min : mg "min" = none
  range : mg "range" = none
  repr : mg "repr" = none
  reversed : mg "reversed" = none
  str : mg "str" = none
  sum : mg "sum" = none
  tuple : mg "tuple" = none
  zip : mg "zip" = none
  gcd : mg "gcd" = some (.builtin "math.gcd")
section
variable {P : Program} {w : World} {K : PySem.W.Frag} {mg : Str → Option Value} {base : Heap}
theorem sc_common_of : FnScope ["row", "found", "item"] ["row"] (defScope s_common_of) := ⟨rfl, rfl, rfl, by decide +kernel, rfl, by decide +kernel, by decide +kernel⟩
theorem ok_common_of (B : Bs mg) (E : At K mg "common_of" s_common_of) : Def P w K mg base 1 "common_of" s_common_of ["row"] F_common_of :=
  def_ok 0 E sc_common_of (fun _ _ _ _ _ _ us hl => match us, hl with | [_], _ => rfl) (fun f cdv A outer s H E hr =>
    fss_cons (fs_set (i := 1) sc_common_of.nd fx_int) (fss_cons (fs_for PassesOwn.never rfl (fi_seq (fx_var 0)) (fg_name (i := 2) sc_common_of.nd) (fss_fgt [2] (fss_one (fs_set (i := 1) sc_common_of.nd (fx_op (ow := false) op_fdivW snd_div (fx_op (ow := false) op_mulX snd_mulX (fx_var 1) (fx_ix (fx_var 2) fx_int)) (fx_Bfun (ow := false) cr_gcd snd_gcd B.gcd (fa_cons (fx_var 1) (fa_cons (fx_ix (fx_var 2) fx_int) fa_nil)))))))) (fss_one (fs_ret (fz := true) (fx_var 1)))))
theorem sc_numbers_of : FnScope ["row", "common", "item"] ["row", "common"] (defScope s_numbers_of) := ⟨rfl, rfl, rfl, by decide +kernel, rfl, by decide +kernel, by decide +kernel⟩
theorem ok_numbers_of (B : Bs mg) (E : At K mg "numbers_of" s_numbers_of) : Def P w K mg base 1 "numbers_of" s_numbers_of ["row", "common"] F_numbers_of :=
  def_ok 0 E sc_numbers_of (fun _ _ _ _ _ _ us hl => match us, hl with | [_, _], _ => rfl) (fun f cdv A outer s H E hr =>
    fss_one (fs_ret (fz := true) (fx_lc (own := [("item", 2)]) (ow := false) rfl sc_numbers_of.nd (fi_seq (fx_var 0)) (blkOk_by (own := [("item", 2)]) (N := N_numbers_of) (sc := defScope s_numbers_of) (by decide +kernel)) (fun _ _ _ _ _ => fg_name (i := 2) sc_numbers_of.nd) (fun _ _ _ _ _ => fts_nil) (fun _ _ _ _ _ => fx_op (ow := false) op_mulX snd_mulX (fx_ix (fx_var 2) fx_int) (fx_op (ow := false) op_fdivW snd_div (fx_var 1) (fx_ix (fx_var 2) fx_int))))))
theorem sc_whole_of : FnScope ["difference", "weights", "table", "many", "below", "row", "item"] ["difference"] (defScope s_whole_of) := ⟨rfl, rfl, rfl, by decide +kernel, rfl, by decide +kernel, by decide +kernel⟩
theorem ok_whole_of (B : Bs mg) (D_common_of : Def P w K mg base 1 "common_of" s_common_of ["row"] F_common_of) (D_numbers_of : Def P w K mg base 1 "numbers_of" s_numbers_of ["row", "common"] F_numbers_of) (E : At K mg "whole_of" s_whole_of) : Def P w K mg base 2 "whole_of" s_whole_of ["difference"] F_whole_of :=
  def_ok 1 E sc_whole_of (fun _ _ _ _ _ _ us hl => match us, hl with | [_], _ => rfl) (fun f cdv A outer s H E hr =>
    fss_cons (fs_asgG (fx_var 0) (fg_tupA rfl (fgs_cons (fg_name (i := 1) sc_whole_of.nd) (fgs_cons (fg_name (i := 2) sc_whole_of.nd) fgs_nil)))) (fss_cons (fs_multi (is := [3, 4]) rfl (fa_cons (fx_callD D_common_of (hr.mono (by first | decide | omega)) (fa_cons (fx_var 1) fa_nil)) (fa_cons (fx_callD D_common_of (hr.mono (by first | decide | omega)) (fa_cons (fx_lc2 (own := [("row", 5), ("item", 6)]) (own1 := [6]) (ow := false) rfl sc_whole_of.nd (fi_seq (fx_var 2)) (blkOk_by (own := [("row", 5), ("item", 6)]) (N := N_whole_of) (sc := defScope s_whole_of) (by decide +kernel)) (fun _ _ _ _ _ => fg_name (i := 5) sc_whole_of.nd) (fun _ _ _ _ _ => fts_nil) (fun _ _ _ _ _ => fi_seq (fx_var 5)) (fun _ _ _ _ _ => fg_name (i := 6) sc_whole_of.nd) (fun _ _ _ _ _ => fts_nil) (fun _ _ _ _ _ => fx_var 6)) fa_nil)) fa_nil)) (fm_cons (i := 3) (fm_cons (i := 4) fm_nil sc_whole_of.nd) sc_whole_of.nd)) (fss_one (fs_ret (fz := true) (fx_tup (fa_cons (fx_callD D_numbers_of (hr.mono (by first | decide | omega)) (fa_cons (fx_var 1) (fa_cons (fx_var 3) fa_nil))) (fa_cons (fx_lc (own := [("row", 5)]) (ow := false) rfl sc_whole_of.nd (fi_seq (fx_var 2)) (blkOk_by (own := [("row", 5)]) (N := N_whole_of) (sc := defScope s_whole_of) (by decide +kernel)) (fun _ _ _ _ _ => fg_name (i := 5) sc_whole_of.nd) (fun _ _ _ _ _ => fts_nil) (fun _ _ _ _ _ => fx_callD D_numbers_of (hr.mono (by first | decide | omega)) (fa_cons (fx_var 5) (fa_cons (fx_var 4) fa_nil)))) (fa_cons (fx_var 3) (fa_cons (fx_var 4) fa_nil)))))))))
theorem sc_part_of : FnScope ["a", "b", "divisor"] ["a", "b"] (defScope s_part_of) := ⟨rfl, rfl, rfl, by decide +kernel, rfl, by decide +kernel, by decide +kernel⟩
theorem ok_part_of (B : Bs mg) (E : At K mg "part_of" s_part_of) : Def P w K mg base 1 "part_of" s_part_of ["a", "b"] F_part_of :=
  def_ok 0 E sc_part_of (fun _ _ _ _ _ _ us hl => match us, hl with | [_, _], _ => rfl) (fun f cdv A outer s H E hr =>
    fss_cons (fs_set (i := 2) sc_part_of.nd (fx_Bfun (ow := false) cr_gcd snd_gcd B.gcd (fa_cons (fx_var 0) (fa_cons (fx_var 1) fa_nil)))) (fss_one (fs_ret (fz := true) (fx_tup (fa_cons (fx_op (ow := false) op_fdivW snd_div (fx_var 0) (fx_var 2)) (fa_cons (fx_op (ow := false) op_fdivW snd_div (fx_var 1) (fx_var 2)) fa_nil))))))
theorem sc_constant_sheet : FnScope ["weights", "p"] ["weights", "p"] (defScope s_constant_sheet) := ⟨rfl, rfl, rfl, by decide +kernel, rfl, by decide +kernel, by decide +kernel⟩
theorem ok_constant_sheet (B : Bs mg) (E : At K mg "constant_sheet" s_constant_sheet) : Def P w K mg base 1 "constant_sheet" s_constant_sheet ["weights", "p"] F_constant_sheet :=
  def_ok 0 E sc_constant_sheet (fun _ _ _ _ _ _ us hl => match us, hl with | [_, _], _ => rfl) (fun f cdv A outer s H E hr =>
    fss_one (fs_ret (fz := true) (fx_tup (fa_cons (fx_var 0) (fa_cons (fx_op (ow := false) op_mulX snd_mulX (fx_tup (fa_cons (fx_op (ow := false) op_mulX snd_mulX (fx_tup (fa_cons (fx_var 1) fa_nil)) (fx_B (ow := false) call_len snd_len B.len (fa_cons (fx_var 0) fa_nil))) fa_nil)) (fx_B (ow := false) call_len snd_len B.len (fa_cons (fx_var 0) fa_nil))) fa_nil)))))
theorem sc_whole_degrees : FnScope ["sheet", "weights", "table", "many", "below", "row", "weight", "item"] ["sheet"] (defScope s_whole_degrees) := ⟨rfl, rfl, rfl, by decide +kernel, rfl, by decide +kernel, by decide +kernel⟩
theorem ok_whole_degrees (B : Bs mg) (D_whole_of : Def P w K mg base 2 "whole_of" s_whole_of ["difference"] F_whole_of) (E : At K mg "whole_degrees" s_whole_degrees) : Def P w K mg base 3 "whole_degrees" s_whole_degrees ["sheet"] F_whole_degrees :=
  def_ok 2 E sc_whole_degrees (fun _ _ _ _ _ _ us hl => match us, hl with | [_], _ => rfl) (fun f cdv A outer s H E hr =>
    fss_cons (fs_asgG (fx_callD D_whole_of (hr.mono (by first | decide | omega)) (fa_cons (fx_var 0) fa_nil)) (fg_tupA rfl (fgs_cons (fg_name (i := 1) sc_whole_degrees.nd) (fgs_cons (fg_name (i := 2) sc_whole_degrees.nd) (fgs_cons (fg_name (i := 3) sc_whole_degrees.nd) (fgs_cons (fg_name (i := 4) sc_whole_degrees.nd) fgs_nil)))))) (fss_one (fs_ret (fz := true) (fx_tup (fa_cons (fx_var 1) (fa_cons (fx_lc (own := [("row", 5)]) (ow := false) rfl sc_whole_degrees.nd (fi_seq (fx_var 2)) (blkOk_by (own := [("row", 5)]) (N := N_whole_degrees) (sc := defScope s_whole_degrees) (by decide +kernel)) (fun _ _ _ _ _ => fg_name (i := 5) sc_whole_degrees.nd) (fun _ _ _ _ _ => fts_nil) (fun _ _ _ _ _ => fx_B (ow := false) (cr_sumA rfl) snd_sumA B.sum (fa_cons (fx_lc (own := [("weight", 6), ("item", 7)]) (ow := false) rfl sc_whole_degrees.nd (fi_zip B.zip (fa_cons (fx_var 1) (fa_cons (fx_var 5) fa_nil))) (blk_in (own := [("weight", 6), ("item", 7)]) (N := N_whole_degrees) rfl (by decide +kernel)) (fun _ _ _ _ _ => fg_tup rfl (fgs_cons (fg_name (i := 6) sc_whole_degrees.nd) (fgs_cons (fg_name (i := 7) sc_whole_degrees.nd) fgs_nil))) (fun _ _ _ _ _ => fts_nil) (fun _ _ _ _ _ => fx_op (ow := false) op_mulX snd_mulX (fx_var 6) (fx_var 7))) fa_nil))) (fa_cons (fx_var 3) (fa_cons (fx_op (ow := false) op_mulX snd_mulX (fx_var 3) (fx_var 4)) fa_nil))))))))
theorem sc_mean_of : FnScope ["sheet", "weights", "degrees", "many", "below", "weight", "degree"] ["sheet"] (defScope s_mean_of) := ⟨rfl, rfl, rfl, by decide +kernel, rfl, by decide +kernel, by decide +kernel⟩
theorem ok_mean_of (B : Bs mg) (D_whole_degrees : Def P w K mg base 3 "whole_degrees" s_whole_degrees ["sheet"] F_whole_degrees) (D_part_of : Def P w K mg base 1 "part_of" s_part_of ["a", "b"] F_part_of) (E : At K mg "mean_of" s_mean_of) : Def P w K mg base 4 "mean_of" s_mean_of ["sheet"] F_mean_of :=
  def_ok 3 E sc_mean_of (fun _ _ _ _ _ _ us hl => match us, hl with | [_], _ => rfl) (fun f cdv A outer s H E hr =>
    fss_cons (fs_asgG (fx_callD D_whole_degrees (hr.mono (by first | decide | omega)) (fa_cons (fx_var 0) fa_nil)) (fg_tupA rfl (fgs_cons (fg_name (i := 1) sc_mean_of.nd) (fgs_cons (fg_name (i := 2) sc_mean_of.nd) (fgs_cons (fg_name (i := 3) sc_mean_of.nd) (fgs_cons (fg_name (i := 4) sc_mean_of.nd) fgs_nil)))))) (fss_one (fs_ret (fz := true) (fx_callD D_part_of (hr.mono (by first | decide | omega)) (fa_cons (fx_B (ow := false) (cr_sumA rfl) snd_sumA B.sum (fa_cons (fx_lc (own := [("weight", 5), ("degree", 6)]) (ow := false) rfl sc_mean_of.nd (fi_zip B.zip (fa_cons (fx_var 1) (fa_cons (fx_var 2) fa_nil))) (blkOk_by (own := [("weight", 5), ("degree", 6)]) (N := N_mean_of) (sc := defScope s_mean_of) (by decide +kernel)) (fun _ _ _ _ _ => fg_tup rfl (fgs_cons (fg_name (i := 5) sc_mean_of.nd) (fgs_cons (fg_name (i := 6) sc_mean_of.nd) fgs_nil))) (fun _ _ _ _ _ => fts_nil) (fun _ _ _ _ _ => fx_op (ow := false) op_mulX snd_mulX (fx_var 5) (fx_var 6))) fa_nil)) (fa_cons (fx_op (ow := false) op_mulX snd_mulX (fx_var 3) (fx_var 4)) fa_nil))))))
theorem sc_degrees_of : FnScope ["sheet", "weights", "degrees", "many", "below", "degree"] ["sheet"] (defScope s_degrees_of) := ⟨rfl, rfl, rfl, by decide +kernel, rfl, by decide +kernel, by decide +kernel⟩
theorem ok_degrees_of (B : Bs mg) (D_whole_degrees : Def P w K mg base 3 "whole_degrees" s_whole_degrees ["sheet"] F_whole_degrees) (D_part_of : Def P w K mg base 1 "part_of" s_part_of ["a", "b"] F_part_of) (E : At K mg "degrees_of" s_degrees_of) : Def P w K mg base 4 "degrees_of" s_degrees_of ["sheet"] F_degrees_of :=
  def_ok 3 E sc_degrees_of (fun _ _ _ _ _ _ us hl => match us, hl with | [_], _ => rfl) (fun f cdv A outer s H E hr =>
    fss_cons (fs_asgG (fx_callD D_whole_degrees (hr.mono (by first | decide | omega)) (fa_cons (fx_var 0) fa_nil)) (fg_tupA rfl (fgs_cons (fg_name (i := 1) sc_degrees_of.nd) (fgs_cons (fg_name (i := 2) sc_degrees_of.nd) (fgs_cons (fg_name (i := 3) sc_degrees_of.nd) (fgs_cons (fg_name (i := 4) sc_degrees_of.nd) fgs_nil)))))) (fss_one (fs_ret (fz := true) (fx_Ty (ow := false) call_tuple_of snd_toT B.tuple (fa_cons (fx_lc (own := [("degree", 5)]) (ow := false) rfl sc_degrees_of.nd (fi_seq (fx_var 2)) (blkOk_by (own := [("degree", 5)]) (N := N_degrees_of) (sc := defScope s_degrees_of) (by decide +kernel)) (fun _ _ _ _ _ => fg_name (i := 5) sc_degrees_of.nd) (fun _ _ _ _ _ => fts_nil) (fun _ _ _ _ _ => fx_callD D_part_of (hr.mono (by first | decide | omega)) (fa_cons (fx_var 5) (fa_cons (fx_var 4) fa_nil)))) fa_nil)))))
theorem sc_degree_square : FnScope ["sheet", "weights", "degrees", "many", "below", "mean", "found", "weight", "degree", "less"] ["sheet"] (defScope s_degree_square) := ⟨rfl, rfl, rfl, by decide +kernel, rfl, by decide +kernel, by decide +kernel⟩
theorem ok_degree_square (B : Bs mg) (D_whole_degrees : Def P w K mg base 3 "whole_degrees" s_whole_degrees ["sheet"] F_whole_degrees) (D_part_of : Def P w K mg base 1 "part_of" s_part_of ["a", "b"] F_part_of) (E : At K mg "degree_square" s_degree_square) : Def P w K mg base 4 "degree_square" s_degree_square ["sheet"] F_degree_square :=
  def_ok 3 E sc_degree_square (fun _ _ _ _ _ _ us hl => match us, hl with | [_], _ => rfl) (fun f cdv A outer s H E hr =>
    fss_cons (fs_asgG (fx_callD D_whole_degrees (hr.mono (by first | decide | omega)) (fa_cons (fx_var 0) fa_nil)) (fg_tupA rfl (fgs_cons (fg_name (i := 1) sc_degree_square.nd) (fgs_cons (fg_name (i := 2) sc_degree_square.nd) (fgs_cons (fg_name (i := 3) sc_degree_square.nd) (fgs_cons (fg_name (i := 4) sc_degree_square.nd) fgs_nil)))))) (fss_cons (fs_set (i := 5) sc_degree_square.nd (fx_B (ow := false) (cr_sumA rfl) snd_sumA B.sum (fa_cons (fx_lc (own := [("weight", 7), ("degree", 8)]) (ow := false) rfl sc_degree_square.nd (fi_zip B.zip (fa_cons (fx_var 1) (fa_cons (fx_var 2) fa_nil))) (blkOk_by (own := [("weight", 7), ("degree", 8)]) (N := N_degree_square) (sc := defScope s_degree_square) (by decide +kernel)) (fun _ _ _ _ _ => fg_tup rfl (fgs_cons (fg_name (i := 7) sc_degree_square.nd) (fgs_cons (fg_name (i := 8) sc_degree_square.nd) fgs_nil))) (fun _ _ _ _ _ => fts_nil) (fun _ _ _ _ _ => fx_op (ow := false) op_mulX snd_mulX (fx_var 7) (fx_var 8))) fa_nil))) (fss_cons (fs_set (i := 6) sc_degree_square.nd fx_int) (fss_cons (fs_for PassesOwn.never rfl (fi_zip B.zip (fa_cons (fx_var 1) (fa_cons (fx_var 2) fa_nil))) (fg_tup rfl (fgs_cons (fg_name (i := 7) sc_degree_square.nd) (fgs_cons (fg_name (i := 8) sc_degree_square.nd) fgs_nil))) (fss_fgt [7, 8, 9] (fss_cons (fs_set (i := 9) sc_degree_square.nd (fx_op (ow := false) op_sub snd_int2 (fx_op (ow := false) op_mulX snd_mulX (fx_var 8) (fx_var 3)) (fx_var 5))) (fss_one (fs_set (i := 6) sc_degree_square.nd (fx_op (ow := false) op_addA snd_add (fx_var 6) (fx_op (ow := false) op_mulX snd_mulX (fx_op (ow := false) op_mulX snd_mulX (fx_var 7) (fx_var 9)) (fx_var 9)))))))) (fss_one (fs_ret (fz := true) (fx_callD D_part_of (hr.mono (by first | decide | omega)) (fa_cons (fx_var 6) (fa_cons (fx_op (ow := false) op_mulX snd_mulX (fx_op (ow := false) op_mulX snd_mulX (fx_op (ow := false) op_mulX snd_mulX (fx_op (ow := false) op_mulX snd_mulX (fx_var 3) (fx_var 3)) (fx_var 3)) (fx_var 4)) (fx_var 4)) fa_nil)))))))))
theorem sc_path_share : FnScope ["sheet", "many", "weights", "table", "common", "below", "made", "under", "turn", "scaled", "weight", "item", "row", "own"] ["sheet", "many"] (defScope s_path_share) := ⟨rfl, rfl, rfl, by decide +kernel, rfl, by decide +kernel, by decide +kernel⟩
theorem ok_path_share (B : Bs mg) (D_whole_of : Def P w K mg base 2 "whole_of" s_whole_of ["difference"] F_whole_of) (D_part_of : Def P w K mg base 1 "part_of" s_part_of ["a", "b"] F_part_of) (E : At K mg "path_share" s_path_share) : Def P w K mg base 3 "path_share" s_path_share ["sheet", "many"] F_path_share :=
  def_ok 2 E sc_path_share (fun _ _ _ _ _ _ us hl => match us, hl with | [_, _], _ => rfl) (fun f cdv A outer s H E hr =>
    fss_cons (fs_asgG (fx_callD D_whole_of (hr.mono (by first | decide | omega)) (fa_cons (fx_var 0) fa_nil)) (fg_tupA rfl (fgs_cons (fg_name (i := 2) sc_path_share.nd) (fgs_cons (fg_name (i := 3) sc_path_share.nd) (fgs_cons (fg_name (i := 4) sc_path_share.nd) (fgs_cons (fg_name (i := 5) sc_path_share.nd) fgs_nil)))))) (fss_cons (fs_par2 (i := 6) (j := 7) rfl sc_path_share.nd (fx_op (ow := false) op_mulX snd_mulX (fx_lst (ow := false) (fa_cons fx_int fa_nil)) (fx_B (ow := false) call_len snd_len B.len (fa_cons (fx_var 2) fa_nil))) fx_int) (fss_cons (fs_for PassesOwn.never rfl (fi_range1 B.range (fx_op (ow := false) op_sub snd_int2 (fx_var 1) fx_int)) (fg_name (i := 8) sc_path_share.nd) (fss_fgt [8, 9] (fss_cons (fs_set (i := 9) sc_path_share.nd (fx_lc (own := [("weight", 10), ("item", 11)]) (ow := false) rfl sc_path_share.nd (fi_zip B.zip (fa_cons (fx_var 2) (fa_cons (fx_var 6) fa_nil))) (blkOk_by (own := [("weight", 10), ("item", 11)]) (N := N_path_share) (sc := defScope s_path_share) (by decide +kernel)) (fun _ _ _ _ _ => fg_tup rfl (fgs_cons (fg_name (i := 10) sc_path_share.nd) (fgs_cons (fg_name (i := 11) sc_path_share.nd) fgs_nil))) (fun _ _ _ _ _ => fts_nil) (fun _ _ _ _ _ => fx_op (ow := false) op_mulX snd_mulX (fx_var 10) (fx_var 11)))) (fss_cons (fs_setLc (i := 6) (own := [("row", 12)]) (ow := false) rfl sc_path_share.nd rfl (sw_true rfl rfl rfl (by decide +kernel)) (fi_seq (fx_var 3)) (blkOk_by (own := [("row", 12)]) (N := N_path_share) (sc := defScope s_path_share) (by decide +kernel)) (fun _ _ _ _ _ => fg_name (i := 12) sc_path_share.nd) (fun _ _ _ _ _ => fts_nil) (fun _ _ _ _ _ => fx_B (ow := false) (cr_sumA rfl) snd_sumA B.sum (fa_cons (fx_lc (own := [("item", 11), ("own", 13)]) (ow := false) rfl sc_path_share.nd (fi_zip B.zip (fa_cons (fx_var 12) (fa_cons (fx_var 9) fa_nil))) (blk_in (own := [("item", 11), ("own", 13)]) (N := N_path_share) rfl (by decide +kernel)) (fun _ _ _ _ _ => fg_tup rfl (fgs_cons (fg_name (i := 11) sc_path_share.nd) (fgs_cons (fg_name (i := 13) sc_path_share.nd) fgs_nil))) (fun _ _ _ _ _ => fts_nil) (fun _ _ _ _ _ => fx_op (ow := false) op_mulX snd_mulX (fx_var 11) (fx_var 13))) fa_nil))) (fss_one (fs_set (i := 7) sc_path_share.nd (fx_op (ow := false) op_mulX snd_mulX (fx_op (ow := false) op_mulX snd_mulX (fx_var 7) (fx_var 4)) (fx_var 5)))))))) (fss_one (fs_ret (fz := true) (fx_callD D_part_of (hr.mono (by first | decide | omega)) (fa_cons (fx_B (ow := false) (cr_sumA rfl) snd_sumA B.sum (fa_cons (fx_lc (own := [("weight", 10), ("item", 11)]) (ow := false) rfl sc_path_share.nd (fi_zip B.zip (fa_cons (fx_var 2) (fa_cons (fx_var 6) fa_nil))) (blkOk_by (own := [("weight", 10), ("item", 11)]) (N := N_path_share) (sc := defScope s_path_share) (by decide +kernel)) (fun _ _ _ _ _ => fg_tup rfl (fgs_cons (fg_name (i := 10) sc_path_share.nd) (fgs_cons (fg_name (i := 11) sc_path_share.nd) fgs_nil))) (fun _ _ _ _ _ => fts_nil) (fun _ _ _ _ _ => fx_op (ow := false) op_mulX snd_mulX (fx_var 10) (fx_var 11))) fa_nil)) (fa_cons (fx_op (ow := false) op_mulX snd_mulX (fx_var 7) (fx_var 4)) fa_nil))))))))
theorem sc__law_own_bag : FnScope ["script", "cells", "mixed", "cell"] ["script"] (defScope s__law_own_bag) := ⟨rfl, rfl, rfl, by decide +kernel, rfl, by decide +kernel, by decide +kernel⟩
theorem ok__law_own_bag (B : Bs mg) (E : At K mg "_law_own_bag" s__law_own_bag) : Def P w K mg base 1 "_law_own_bag" s__law_own_bag ["script"] F__law_own_bag :=
  def_ok 0 E sc__law_own_bag (fun _ _ _ _ _ _ us hl => match us, hl with | [_], _ => rfl) (fun f cdv A outer s H E hr =>
    fss_cons (fs_setLc (i := 1) (own := [("cell", 3)]) (ow := false) rfl sc__law_own_bag.nd rfl (sw_true rfl rfl rfl (by decide +kernel)) (fi_seq (fx_slice (ow := false) (fx_var 0) fo_none (fo_some fx_int))) (blkOk_by (own := [("cell", 3)]) (N := N__law_own_bag) (sc := defScope s__law_own_bag) (by decide +kernel)) (fun _ _ _ _ _ => fg_name (i := 3) sc__law_own_bag.nd) (fun _ _ _ _ _ => fts_nil) (fun _ _ _ _ _ => fx_op (ow := false) op_mod snd_mod (fx_B (ow := false) call_abs snd_abs B.abs (fa_cons (fx_var 3) fa_nil)) (fx_op (ow := false) op_pow snd_pow fx_int fx_int))) (fss_cons (fs_set (i := 2) sc__law_own_bag.nd (fx_op (ow := false) op_addA snd_add fx_int (fx_B (ow := false) call_len snd_len B.len (fa_cons (fx_var 1) fa_nil)))) (fss_cons (fs_for PassesOwn.never rfl (fi_seq (fx_var 1)) (fg_name (i := 3) sc__law_own_bag.nd) (fss_fgt [3] (fss_one (fs_set (i := 2) sc__law_own_bag.nd (fx_op (ow := false) op_mod snd_mod (fx_Ty (ow := false) call_int1 snd_toInt B.int (fa_cons (fx_op (ow := false) op_addA snd_add (fx_op (ow := false) op_addA snd_add (fx_op (ow := false) op_mulX snd_mulX (fx_var 2) fx_int) (fx_op (ow := false) op_mod snd_mod (fx_Ty (ow := false) call_int1 snd_toInt B.int (fa_cons (fx_var 3) fa_nil)) fx_int)) fx_int) fa_nil)) fx_int))))) (fss_one (fs_ret (fz := false) (fx_mkBag (fx_listRev (ow := true) rfl B.list B.reversed (fx_Ty (ow := false) call_list_of snd_toL B.list (fa_cons (fx_var 1) fa_nil))) fx_int (fx_var 2)))))))
theorem sc__law_draw : FnScope ["bag", "below", "cell", "found"] ["bag", "below"] (defScope s__law_draw) := ⟨rfl, rfl, rfl, by decide +kernel, rfl, by decide +kernel, by decide +kernel⟩
theorem ok__law_draw (B : Bs mg) (E : At K mg "_law_draw" s__law_draw) : Def P w K mg base 1 "_law_draw" s__law_draw ["bag", "below"] F__law_draw :=
  def_ok 0 E sc__law_draw (fun _ _ _ _ _ _ us hl => match us, hl with | [_, _], _ => rfl) (fun f cdv A outer s H E hr =>
    fss_cons (fs_while FUEL PassesOwn.never ((fw_and (ft_cmp (op_eqA hr.units) snd_eqX (fx_bagIx 0) fx_int (nomark _)) (fw_and1 (ft_bagNe 0 hr.units))).ft) (fss_fgt [2] (fss_cons (fs_set (i := 2) sc__law_draw.nd (fx_bagPop 0)) (fss_one (fs_bagPut 0 (fx_ifE (ft_cmp op_gt snd_rel (fx_var 2) (fx_op (ow := false) op_pow snd_pow fx_int fx_int) (nomark _)) (fx_var 2) fx_int)))))) (fss_cons (fs_if (ft_cmp op_gt snd_rel (fx_bagIx 0) fx_int (nomark _)) (fss_cons (fs_set (i := 3) sc__law_draw.nd (fx_op (ow := false) op_mod snd_mod (fx_Ty (ow := false) call_int1 snd_toInt B.int (fa_cons (fx_bagIx 0) fa_nil)) (fx_var 1))) (fss_cons (fs_bagPut 0 (fx_op (ow := false) op_fdivW snd_div (fx_bagIx 0) (fx_var 1))) (fss_one (fs_ret (fz := true) (fx_var 3))))) fss_nil) (fss_cons (fs_bagPut 0 (fx_op (ow := false) op_mod snd_mod (fx_Ty (ow := false) call_int1 snd_toInt B.int (fa_cons (fx_op (ow := false) op_addA snd_add (fx_op (ow := false) op_mulX snd_mulX (fx_bagIx 0) fx_int) fx_int) fa_nil)) fx_int)) (fss_one (fs_ret (fz := true) (fx_op (ow := false) op_mod snd_mod (fx_Ty (ow := false) call_int1 snd_toInt B.int (fa_cons (fx_op (ow := false) op_fdivW snd_div (fx_op (ow := false) op_mod snd_mod (fx_Ty (ow := false) call_int1 snd_toInt B.int (fa_cons (fx_op (ow := false) op_mulX snd_mulX (fx_bagIx 0) (fx_bagIx 0)) fa_nil)) fx_int) fx_int) fa_nil)) (fx_var 1)))))))
theorem sc__law_pick : FnScope ["bag", "some"] ["bag", "some"] (defScope s__law_pick) := ⟨rfl, rfl, rfl, by decide +kernel, rfl, by decide +kernel, by decide +kernel⟩
theorem ok__law_pick (B : Bs mg) (D__law_draw : Def P w K mg base 1 "_law_draw" s__law_draw ["bag", "below"] F__law_draw) (E : At K mg "_law_pick" s__law_pick) : Def P w K mg base 2 "_law_pick" s__law_pick ["bag", "some"] F__law_pick :=
  def_ok 1 E sc__law_pick (fun _ _ _ _ _ _ us hl => match us, hl with | [_, _], _ => rfl) (fun f cdv A outer s H E hr =>
    fss_one (fs_ret (fz := true) (fx_ix (fx_var 1) (fx_callD D__law_draw (hr.mono (by first | decide | omega)) (fa_cons (fx_var 0) (fa_cons (fx_B (ow := false) call_len snd_len B.len (fa_cons (fx_var 1) fa_nil)) fa_nil))))))
theorem sc__law_same : FnScope ["told", "due", "part", "own"] ["told", "due"] (defScope s__law_same) := ⟨rfl, rfl, rfl, by decide +kernel, rfl, by decide +kernel, by decide +kernel⟩
theorem ok__law_same (B : Bs mg) (E : At K mg "_law_same" s__law_same) : ∀ n : Nat, Def P w K mg base (0 + n + 1) "_law_same" s__law_same ["told", "due"] (F__law_same n)
  | 0 => by
    obtain ⟨f, fd, Fn, hm⟩ := E
    exact ⟨⟨f, fd, Fn, fnG_none, hm⟩, (fun _ _ _ _ _ _ us hl => match us, hl with | [_, _], _ => rfl)⟩
  | n + 1 => by
    have D__law_same := ok__law_same B E n
    exact def_ok (0 + n + 1) E sc__law_same (fun _ _ _ _ _ _ us hl => match us, hl with | [_, _], _ => rfl) (fun f cdv A outer s H E hr =>
      fss_cons (fs_if (ft_cmp op_isA snd_is (fx_var 1) fx_non (nomark _)) (fss_one (fs_ret (fz := true) (fx_cmp op_isA snd_is (fx_var 0) fx_non (nomark _)))) fss_nil) (fss_cons (fs_if (ft_truth (fx_isi (T := "tuple") B.isinstance B.tuple (fx_var 1))) (fss_cons (fs_if ((fw_or (ft_not (ft_truth (fx_isi (T := "tuple") B.isinstance B.tuple (fx_var 0)))) (fw_or1 (ft_cmp (op_neA hr.units) snd_neX (fx_B (ow := false) call_len snd_len B.len (fa_cons (fx_var 0) fa_nil)) (fx_B (ow := false) call_len snd_len B.len (fa_cons (fx_var 1) fa_nil)) (nomark _)))).ft) (fss_one (fs_ret (fz := true) fx_bl)) fss_nil) (fss_one (fs_ret (fz := true) (fx_B (ow := false) (cr_all rfl) snd_all B.«all» (fa_cons (fx_lc (own := [("part", 2), ("own", 3)]) (ow := false) rfl sc__law_same.nd (fi_seq (fx_listZip (ow := false) rfl B.list B.zip (fa_cons (fx_var 0) (fa_cons (fx_var 1) fa_nil)))) (blkOk_by (own := [("part", 2), ("own", 3)]) (N := N__law_same) (sc := defScope s__law_same) (by decide +kernel)) (fun _ _ _ _ _ => fg_tup rfl (fgs_cons (fg_name (i := 2) sc__law_same.nd) (fgs_cons (fg_name (i := 3) sc__law_same.nd) fgs_nil))) (fun _ _ _ _ _ => fts_nil) (fun _ _ _ _ _ => fx_callD D__law_same (hr.mono (by first | decide | omega)) (fa_cons (fx_var 2) (fa_cons (fx_var 3) fa_nil)))) fa_nil))))) fss_nil) (fss_cons (fs_if (ft_truth (fx_isi (T := "str") B.isinstance B.str (fx_var 1))) (fss_one (fs_ret (fz := true) (fx_and (fx_isi (T := "str") B.isinstance B.str (fx_var 0)) (fx_one (fx_cmp (op_eqA hr.units) snd_eqX (fx_var 0) (fx_var 1) (nomark _)))))) fss_nil) (fss_one (fs_ret (fz := true) (fx_and (fx_isi (T := "int") B.isinstance B.int (fx_var 0)) (fx_and (fx_not (fx_isi (T := "bool") B.isinstance B.bool (fx_var 0))) (fx_one (fx_cmp (op_eqA hr.units) snd_eqX (fx_var 0) (fx_var 1) (nomark _))))))))))
theorem sc__law_gcd : FnScope ["one", "other"] ["one", "other"] (defScope s__law_gcd) := ⟨rfl, rfl, rfl, by decide +kernel, rfl, by decide +kernel, by decide +kernel⟩
theorem ok__law_gcd (B : Bs mg) (E : At K mg "_law_gcd" s__law_gcd) : Def P w K mg base 1 "_law_gcd" s__law_gcd ["one", "other"] F__law_gcd :=
  def_ok 0 E sc__law_gcd (fun _ _ _ _ _ _ us hl => match us, hl with | [_, _], _ => rfl) (fun f cdv A outer s H E hr =>
    fss_cons (fs_set (i := 0) sc__law_gcd.nd (fx_B (ow := false) call_abs snd_abs B.abs (fa_cons (fx_var 0) fa_nil))) (fss_cons (fs_while FUEL PassesOwn.never (ft_cmp op_gt snd_rel (fx_var 1) fx_int (nomark _)) (fss_one (fs_par2 (i := 0) (j := 1) rfl sc__law_gcd.nd (fx_var 1) (fx_op (ow := false) op_mod snd_mod (fx_Ty (ow := false) call_int1 snd_toInt B.int (fa_cons (fx_var 0) fa_nil)) (fx_var 1))))) (fss_one (fs_ret (fz := true) (fx_var 0)))))
theorem sc__law_lowest : FnScope ["over", "under", "by"] ["over", "under"] (defScope s__law_lowest) := ⟨rfl, rfl, rfl, by decide +kernel, rfl, by decide +kernel, by decide +kernel⟩
theorem ok__law_lowest (B : Bs mg) (D__law_gcd : Def P w K mg base 1 "_law_gcd" s__law_gcd ["one", "other"] F__law_gcd) (E : At K mg "_law_lowest" s__law_lowest) : Def P w K mg base 2 "_law_lowest" s__law_lowest ["over", "under"] F__law_lowest :=
  def_ok 1 E sc__law_lowest (fun _ _ _ _ _ _ us hl => match us, hl with | [_, _], _ => rfl) (fun f cdv A outer s H E hr =>
    fss_cons (fs_set (i := 2) sc__law_lowest.nd (fx_callD D__law_gcd (hr.mono (by first | decide | omega)) (fa_cons (fx_var 0) (fa_cons (fx_var 1) fa_nil)))) (fss_one (fs_ret (fz := true) (fx_tup (fa_cons (fx_op (ow := false) op_fdivW snd_div (fx_var 0) (fx_var 2)) (fa_cons (fx_op (ow := false) op_fdivW snd_div (fx_var 1) (fx_var 2)) fa_nil))))))
theorem sc__law_under : FnScope ["fractions", "under", "x"] ["fractions"] (defScope s__law_under) := ⟨rfl, rfl, rfl, by decide +kernel, rfl, by decide +kernel, by decide +kernel⟩
theorem ok__law_under (B : Bs mg) (D__law_gcd : Def P w K mg base 1 "_law_gcd" s__law_gcd ["one", "other"] F__law_gcd) (E : At K mg "_law_under" s__law_under) : Def P w K mg base 2 "_law_under" s__law_under ["fractions"] F__law_under :=
  def_ok 1 E sc__law_under (fun _ _ _ _ _ _ us hl => match us, hl with | [_], _ => rfl) (fun f cdv A outer s H E hr =>
    fss_cons (fs_set (i := 1) sc__law_under.nd fx_int) (fss_cons (fs_for PassesOwn.never rfl (fi_seq (fx_var 0)) (fg_name (i := 2) sc__law_under.nd) (fss_fgt [2] (fss_one (fs_set (i := 1) sc__law_under.nd (fx_op (ow := false) op_mulX snd_mulX (fx_var 1) (fx_op (ow := false) op_fdivW snd_div (fx_ix (fx_var 2) fx_int) (fx_callD D__law_gcd (hr.mono (by first | decide | omega)) (fa_cons (fx_var 1) (fa_cons (fx_ix (fx_var 2) fx_int) fa_nil))))))))) (fss_one (fs_ret (fz := true) (fx_var 1)))))
theorem sc__law_own_item : FnScope ["bag", "low", "most", "under"] ["bag", "low", "most"] (defScope s__law_own_item) := ⟨rfl, rfl, rfl, by decide +kernel, rfl, by decide +kernel, by decide +kernel⟩
theorem ok__law_own_item (B : Bs mg) (D__law_draw : Def P w K mg base 1 "_law_draw" s__law_draw ["bag", "below"] F__law_draw) (D__law_pick : Def P w K mg base 2 "_law_pick" s__law_pick ["bag", "some"] F__law_pick) (D__law_lowest : Def P w K mg base 2 "_law_lowest" s__law_lowest ["over", "under"] F__law_lowest) (E : At K mg "_law_own_item" s__law_own_item) : Def P w K mg base 3 "_law_own_item" s__law_own_item ["bag", "low", "most"] F__law_own_item :=
  def_ok 2 E sc__law_own_item (fun _ _ _ _ _ _ us hl => match us, hl with | [_, _, _], _ => rfl) (fun f cdv A outer s H E hr =>
    fss_cons (fs_if (ft_cmp (op_eqA hr.units) snd_eqX (fx_callD D__law_draw (hr.mono (by first | decide | omega)) (fa_cons (fx_var 0) (fa_cons fx_int fa_nil))) fx_int (nomark _)) (fss_one (fs_ret (fz := true) (fx_tup (fa_cons (fx_callD D__law_pick (hr.mono (by first | decide | omega)) (fa_cons (fx_var 0) (fa_cons (fx_lst (ow := false) (fa_cons (fx_var 1) (fa_cons fx_int (fa_cons fx_int fa_nil)))) fa_nil))) (fa_cons fx_int fa_nil))))) fss_nil) (fss_cons (fs_set (i := 3) sc__law_own_item.nd (fx_op (ow := false) op_addA snd_add fx_int (fx_callD D__law_draw (hr.mono (by first | decide | omega)) (fa_cons (fx_var 0) (fa_cons (fx_var 2) fa_nil))))) (fss_one (fs_ret (fz := true) (fx_callD D__law_lowest (hr.mono (by first | decide | omega)) (fa_cons (fx_op (ow := false) op_addA snd_add (fx_op (ow := false) op_mulX snd_mulX (fx_var 1) (fx_var 3)) (fx_callD D__law_draw (hr.mono (by first | decide | omega)) (fa_cons (fx_var 0) (fa_cons (fx_op (ow := false) op_addA snd_add (fx_op (ow := false) op_mulX snd_mulX (fx_op (ow := false) op_sub snd_int2 fx_int (fx_var 1)) (fx_var 3)) fx_int) fa_nil)))) (fa_cons (fx_var 3) fa_nil)))))))
theorem sc__law_own_weights : FnScope ["bag", "m", "most", "numbers", "total", "lot", "number"] ["bag", "m", "most"] (defScope s__law_own_weights) := ⟨rfl, rfl, rfl, by decide +kernel, rfl, by decide +kernel, by decide +kernel⟩
theorem ok__law_own_weights (B : Bs mg) (D__law_draw : Def P w K mg base 1 "_law_draw" s__law_draw ["bag", "below"] F__law_draw) (D__law_lowest : Def P w K mg base 2 "_law_lowest" s__law_lowest ["over", "under"] F__law_lowest) (E : At K mg "_law_own_weights" s__law_own_weights) : Def P w K mg base 3 "_law_own_weights" s__law_own_weights ["bag", "m", "most"] F__law_own_weights :=
  def_ok 2 E sc__law_own_weights (fun _ _ _ _ _ _ us hl => match us, hl with | [_, _, _], _ => rfl) (fun f cdv A outer s H E hr =>
    fss_cons (fs_setLc (i := 3) (own := [("lot", 5)]) (ow := false) rfl sc__law_own_weights.nd rfl (sw_true rfl rfl rfl (by decide +kernel)) (fi_range1 B.range (fx_var 1)) (blkOk_by (own := [("lot", 5)]) (N := N__law_own_weights) (sc := defScope s__law_own_weights) (by decide +kernel)) (fun _ _ _ _ _ => fg_name (i := 5) sc__law_own_weights.nd) (fun _ _ _ _ _ => fts_nil) (fun _ _ _ _ _ => fx_op (ow := false) op_addA snd_add fx_int (fx_callD D__law_draw (hr.mono (by first | decide | omega)) (fa_cons (fx_var 0) (fa_cons (fx_var 2) fa_nil))))) (fss_cons (fs_set (i := 4) sc__law_own_weights.nd (fx_B (ow := false) (cr_sumA rfl) snd_sumA B.sum (fa_cons (fx_var 3) fa_nil))) (fss_one (fs_ret (fz := true) (fx_Ty (ow := false) call_tuple_of snd_toT B.tuple (fa_cons (fx_lc (own := [("number", 6)]) (ow := false) rfl sc__law_own_weights.nd (fi_seq (fx_var 3)) (blkOk_by (own := [("number", 6)]) (N := N__law_own_weights) (sc := defScope s__law_own_weights) (by decide +kernel)) (fun _ _ _ _ _ => fg_name (i := 6) sc__law_own_weights.nd) (fun _ _ _ _ _ => fts_nil) (fun _ _ _ _ _ => fx_callD D__law_lowest (hr.mono (by first | decide | omega)) (fa_cons (fx_var 6) (fa_cons (fx_var 4) fa_nil)))) fa_nil))))))
theorem sc__law_own_table : FnScope ["bag", "m", "low", "most", "rows", "i", "row", "j", "item", "twin", "lot", "line"] ["bag", "m", "low", "most"] (defScope s__law_own_table) := ⟨rfl, rfl, rfl, by decide +kernel, rfl, by decide +kernel, by decide +kernel⟩
theorem ok__law_own_table (B : Bs mg) (D__law_own_item : Def P w K mg base 3 "_law_own_item" s__law_own_item ["bag", "low", "most"] F__law_own_item) (E : At K mg "_law_own_table" s__law_own_table) : Def P w K mg base 4 "_law_own_table" s__law_own_table ["bag", "m", "low", "most"] F__law_own_table :=
  def_ok 3 E sc__law_own_table (fun _ _ _ _ _ _ us hl => match us, hl with | [_, _, _, _], _ => rfl) (fun f cdv A outer s H E hr =>
    fss_cons (fs_setLcL (i := 4) (own := [("lot", 10)]) rfl sc__law_own_table.nd rfl (sw_true rfl rfl rfl (by decide +kernel)) (fi_range1 B.range (fx_var 1)) (blkOk_by (own := [("lot", 10)]) (N := N__law_own_table) (sc := defScope s__law_own_table) (by decide +kernel)) (fun _ _ _ _ _ => fg_name (i := 10) sc__law_own_table.nd) (fun _ _ _ _ _ => fts_nil) (fun _ _ _ _ _ => fx_op (ow := true) op_mulX snd_mulX (fx_lst (ow := false) (fa_cons (fx_tup (fa_cons fx_int (fa_cons fx_int fa_nil))) fa_nil)) (fx_var 1))) (fss_cons (fs_for PassesOwn.never rfl (fi_range1 B.range (fx_var 1)) (fg_name (i := 5) sc__law_own_table.nd) (fss_fgt [5, 6, 7, 8, 9] (fss_alias (s := 4) (r := 6) (i := 5) (m := 1) (j := 7) PassesOwn.never rfl sc__law_own_table.nd (by decide) B.range (fun _ => fs_alBody (s := 4) (r := 6) (i := 5) (j := 7) (it := 8) (tw := 9) rfl sc__law_own_table.nd (by decide) (fx_callD D__law_own_item (hr.mono (by first | decide | omega)) (fa_cons (fx_var 0) (fa_cons (fx_var 2) (fa_cons (fx_var 3) fa_nil))))) (fp_var 1)))) (fss_frz 4 (fss_one (fs_ret (fz := true) (fx_Ty (ow := false) call_tuple_of snd_toT B.tuple (fa_cons (fx_lc (own := [("line", 11)]) (ow := false) rfl sc__law_own_table.nd (fi_seq (fx_var 4)) (blkOk_by (own := [("line", 11)]) (N := N__law_own_table) (sc := defScope s__law_own_table) (by decide +kernel)) (fun _ _ _ _ _ => fg_name (i := 11) sc__law_own_table.nd) (fun _ _ _ _ _ => fts_nil) (fun _ _ _ _ _ => fx_Ty (ow := false) call_tuple_of snd_toT B.tuple (fa_cons (fx_var 11) fa_nil))) fa_nil)))))))
theorem sc__law_own_sheet : FnScope ["bag", "m", "most", "weights", "kind", "table", "at", "rows", "row", "moved", "i", "line", "j", "item", "stays", "k"] ["bag", "m"] (defScope s__law_own_sheet) := ⟨rfl, rfl, rfl, by decide +kernel, rfl, by decide +kernel, by decide +kernel⟩
theorem ok__law_own_sheet (B : Bs mg) (D__law_pick : Def P w K mg base 2 "_law_pick" s__law_pick ["bag", "some"] F__law_pick) (D__law_own_weights : Def P w K mg base 3 "_law_own_weights" s__law_own_weights ["bag", "m", "most"] F__law_own_weights) (D__law_draw : Def P w K mg base 1 "_law_draw" s__law_draw ["bag", "below"] F__law_draw) (D__law_own_table : Def P w K mg base 4 "_law_own_table" s__law_own_table ["bag", "m", "low", "most"] F__law_own_table) (E : At K mg "_law_own_sheet" s__law_own_sheet) : Def P w K mg base 5 "_law_own_sheet" s__law_own_sheet ["bag", "m"] F__law_own_sheet :=
  def_ok 4 E sc__law_own_sheet (fun _ _ _ _ _ _ us hl => match us, hl with | [_, _], _ => rfl) (fun f cdv A outer s H E hr =>
    fss_cons (fs_set (i := 2) sc__law_own_sheet.nd (fx_ifE (ft_cmp op_gt snd_rel (fx_var 1) fx_int (nomark _)) (fx_callD D__law_pick (hr.mono (by first | decide | omega)) (fa_cons (fx_var 0) (fa_cons (fx_lst (ow := false) (fa_cons fx_int (fa_cons fx_int (fa_cons fx_int fa_nil)))) fa_nil))) (fx_callD D__law_pick (hr.mono (by first | decide | omega)) (fa_cons (fx_var 0) (fa_cons (fx_lst (ow := false) (fa_cons fx_int (fa_cons fx_int (fa_cons fx_int (fa_cons (fx_ifE (ft_cmp op_lt snd_rel (fx_var 1) fx_int (nomark _)) fx_int fx_int) fa_nil))))) fa_nil))))) (fss_cons (fs_par2 (i := 3) (j := 4) rfl sc__law_own_sheet.nd (fx_callD D__law_own_weights (hr.mono (by first | decide | omega)) (fa_cons (fx_var 0) (fa_cons (fx_var 1) (fa_cons (fx_callD D__law_pick (hr.mono (by first | decide | omega)) (fa_cons (fx_var 0) (fa_cons (fx_lst (ow := false) (fa_cons fx_int (fa_cons fx_int (fa_cons (fx_ifE (ft_cmp op_lt snd_rel (fx_var 1) fx_int (nomark _)) fx_int fx_int) fa_nil)))) fa_nil))) fa_nil)))) (fx_callD D__law_draw (hr.mono (by first | decide | omega)) (fa_cons (fx_var 0) (fa_cons fx_int fa_nil)))) (fss_cons (fs_multi (is := [5, 6, 7]) rfl (fa_cons (fx_callD D__law_own_table (hr.mono (by first | decide | omega)) (fa_cons (fx_var 0) (fa_cons (fx_var 1) (fa_cons fx_int (fa_cons (fx_var 2) fa_nil))))) (fa_cons (fx_callD D__law_draw (hr.mono (by first | decide | omega)) (fa_cons (fx_var 0) (fa_cons (fx_var 1) fa_nil))) (fa_cons (fx_lst (ow := true) fa_nil) fa_nil))) (fm_cons (i := 5) (fm_cons (i := 6) (fm_cons (i := 7) fm_nil sc__law_own_sheet.nd) sc__law_own_sheet.nd) sc__law_own_sheet.nd)) (fss_cons (fs_if (ft_cmp (op_eqA hr.units) snd_eqX (fx_var 4) fx_int (nomark _)) (fss_one (fs_ret (fz := true) (fx_tup (fa_cons (fx_var 3) (fa_cons (fx_op (ow := false) op_mulX snd_mulX (fx_tup (fa_cons (fx_op (ow := false) op_mulX snd_mulX (fx_tup (fa_cons (fx_ix (fx_ix (fx_var 5) fx_int) fx_int) fa_nil)) (fx_var 1)) fa_nil)) (fx_var 1)) fa_nil))))) fss_nil) (fss_cons (fs_if (ft_cmp (op_eqA hr.units) snd_eqX (fx_var 4) fx_int (nomark _)) (fss_cons (fs_set (i := 8) sc__law_own_sheet.nd (fx_ifE (ft_cmp op_gt snd_rel (fx_var 1) fx_int (nomark _)) (fx_lc (own := [("k", 15)]) (ow := false) rfl sc__law_own_sheet.nd (fi_range1 B.range (fx_var 1)) (blkOk_by (own := [("k", 15)]) (N := N__law_own_sheet) (sc := defScope s__law_own_sheet) (by decide +kernel)) (fun _ _ _ _ _ => fg_name (i := 15) sc__law_own_sheet.nd) (fun _ _ _ _ _ => fts_nil) (fun _ _ _ _ _ => fx_ix (fx_ix (fx_var 5) fx_int) (fx_B (ow := false) (cr_min rfl) snd_minL B.min (fa_cons (fx_lst (ow := false) (fa_cons (fx_var 15) (fa_cons (fx_op (ow := false) op_sub snd_int2 (fx_var 1) (fx_var 15)) fa_nil))) fa_nil)))) (fx_lst (ow := false) (fa_cons (fx_ix (fx_ix (fx_var 5) fx_int) fx_int) fa_nil)))) (fss_cons (fs_setLc (i := 9) (own := [("i", 10)]) (ow := false) rfl sc__law_own_sheet.nd rfl (sw_true rfl rfl rfl (by decide +kernel)) (fi_range1 B.range (fx_var 1)) (blkOk_by (own := [("i", 10)]) (N := N__law_own_sheet) (sc := defScope s__law_own_sheet) (by decide +kernel)) (fun _ _ _ _ _ => fg_name (i := 10) sc__law_own_sheet.nd) (fun _ _ _ _ _ => fts_nil) (fun _ _ _ _ _ => fx_Ty (ow := false) call_tuple_of snd_toT B.tuple (fa_cons (fx_lc (own := [("j", 12)]) (ow := false) rfl sc__law_own_sheet.nd (fi_range1 B.range (fx_var 1)) (blk_in (own := [("j", 12)]) (N := N__law_own_sheet) rfl (by decide +kernel)) (fun _ _ _ _ _ => fg_name (i := 12) sc__law_own_sheet.nd) (fun _ _ _ _ _ => fts_nil) (fun _ _ _ _ _ => fx_ix (fx_var 8) (fx_op (ow := false) op_mod snd_mod (fx_Ty (ow := false) call_int1 snd_toInt B.int (fa_cons (fx_op (ow := false) op_addA snd_add (fx_op (ow := false) op_sub snd_int2 (fx_var 12) (fx_var 10)) (fx_var 1)) fa_nil)) (fx_var 1)))) fa_nil))) (fss_one (fs_ret (fz := true) (fx_tup (fa_cons (fx_op (ow := false) op_mulX snd_mulX (fx_tup (fa_cons (fx_tup (fa_cons fx_int (fa_cons (fx_var 1) fa_nil))) fa_nil)) (fx_var 1)) (fa_cons (fx_Ty (ow := false) call_tuple_of snd_toT B.tuple (fa_cons (fx_var 9) fa_nil)) fa_nil))))))) fss_nil) (fss_cons (fs_for PassesOwn.never rfl (fi_enumA B.enumerate (fx_var 5)) (fg_tup rfl (fgs_cons (fg_name (i := 10) sc__law_own_sheet.nd) (fgs_cons (fg_name (i := 8) sc__law_own_sheet.nd) fgs_nil))) (fss_fgt [8, 10, 11, 12, 13, 14] (fss_cons (fs_set (i := 11) sc__law_own_sheet.nd (fx_lst (ow := true) fa_nil)) (fss_cons (fs_for PassesOwn.never rfl (fi_enumA B.enumerate (fx_var 8)) (fg_tup rfl (fgs_cons (fg_name (i := 12) sc__law_own_sheet.nd) (fgs_cons (fg_name (i := 13) sc__law_own_sheet.nd) fgs_nil))) (fss_fgt [12, 13, 14] (fss_cons (fs_set (i := 14) sc__law_own_sheet.nd (fx_or (fx_cmp op_gt snd_rel (fx_var 4) fx_int (nomark _)) (fx_or (fx_and (fx_cmp (op_eqA hr.units) snd_eqX (fx_var 4) fx_int (nomark _)) (fx_one (fx_chain (op_eqA hr.units) snd_eqX (op_eqA hr.units) snd_eqX (fx_var 10) (fx_var 12) (fx_var 6)))) (fx_one (fx_and (fx_cmp (op_eqA hr.units) snd_eqX (fx_var 4) fx_int (nomark _)) (fx_one (fx_cmp (op_neA hr.units) snd_neX (fx_cmp (op_eqA hr.units) snd_eqX (fx_var 10) (fx_var 6) (nomark _)) (fx_cmp (op_eqA hr.units) snd_eqX (fx_var 12) (fx_var 6) (nomark _)) (nomark _)))))))) (fss_cons (fs_set (i := 14) sc__law_own_sheet.nd (fx_or (fx_var 14) (fx_one (fx_and (fx_cmp (op_eqA hr.units) snd_eqX (fx_var 4) fx_int (nomark _)) (fx_one (fx_cmp (op_neA hr.units) snd_neX (fx_cmp op_gt snd_rel (fx_var 10) (fx_var 6) (nomark _)) (fx_cmp op_gt snd_rel (fx_var 12) (fx_var 6) (nomark _)) (nomark _))))))) (fss_one (fs_expr (fx_append 11 (fx_ifE (ft_not (ft_truth (fx_var 14))) (fx_tup (fa_cons fx_int (fa_cons fx_int fa_nil))) (fx_ifE ((fw_and (ft_cmp (op_eqA hr.units) snd_eqX (fx_var 4) fx_int (nomark _)) (fw_and1 (ft_cmp op_gt snd_rel (fx_ix (fx_var 13) fx_int) fx_int (nomark _)))).ft) (fx_tup (fa_cons fx_int (fa_cons fx_int fa_nil))) (fx_var 13)))))))))) (fss_frz 11 (fss_one (fs_expr (fx_append 7 (fx_Ty (ow := false) call_tuple_of snd_toT B.tuple (fa_cons (fx_var 11) fa_nil)))))))))) (fss_frz 7 (fss_one (fs_ret (fz := true) (fx_tup (fa_cons (fx_var 3) (fa_cons (fx_Ty (ow := false) call_tuple_of snd_toT B.tuple (fa_cons (fx_var 7) fa_nil)) fa_nil))))))))))))
theorem sc__law_plain : FnScope ["sheet", "weights", "rows", "by", "under", "row", "table", "line", "item", "weight"] ["sheet"] (defScope s__law_plain) := ⟨rfl, rfl, rfl, by decide +kernel, rfl, by decide +kernel, by decide +kernel⟩
theorem ok__law_plain (B : Bs mg) (D__law_under : Def P w K mg base 2 "_law_under" s__law_under ["fractions"] F__law_under) (E : At K mg "_law_plain" s__law_plain) : Def P w K mg base 3 "_law_plain" s__law_plain ["sheet"] F__law_plain :=
  def_ok 2 E sc__law_plain (fun _ _ _ _ _ _ us hl => match us, hl with | [_], _ => rfl) (fun f cdv A outer s H E hr =>
    fss_cons (fs_asgG (fx_var 0) (fg_tupA rfl (fgs_cons (fg_name (i := 1) sc__law_plain.nd) (fgs_cons (fg_name (i := 2) sc__law_plain.nd) fgs_nil)))) (fss_cons (fs_multi (is := [3, 4]) rfl (fa_cons (fx_callD D__law_under (hr.mono (by first | decide | omega)) (fa_cons (fx_var 1) fa_nil)) (fa_cons fx_int fa_nil)) (fm_cons (i := 3) (fm_cons (i := 4) fm_nil sc__law_plain.nd) sc__law_plain.nd)) (fss_cons (fs_for PassesOwn.never rfl (fi_seq (fx_var 2)) (fg_name (i := 5) sc__law_plain.nd) (fss_fgt [5] (fss_one (fs_set (i := 4) sc__law_plain.nd (fx_callD D__law_under (hr.mono (by first | decide | omega)) (fa_cons (fx_op (ow := false) op_addA snd_add (fx_lst (ow := false) (fa_cons (fx_tup (fa_cons fx_int (fa_cons (fx_var 4) fa_nil))) fa_nil)) (fx_Ty (ow := false) call_list_of snd_toL B.list (fa_cons (fx_var 5) fa_nil))) fa_nil)))))) (fss_cons (fs_setLc (i := 6) (own := [("line", 7)]) (ow := false) rfl sc__law_plain.nd rfl (sw_true rfl rfl rfl (by decide +kernel)) (fi_seq (fx_var 2)) (blkOk_by (own := [("line", 7)]) (N := N__law_plain) (sc := defScope s__law_plain) (by decide +kernel)) (fun _ _ _ _ _ => fg_name (i := 7) sc__law_plain.nd) (fun _ _ _ _ _ => fts_nil) (fun _ _ _ _ _ => fx_lc (own := [("item", 8)]) (ow := false) rfl sc__law_plain.nd (fi_seq (fx_var 7)) (blk_in (own := [("item", 8)]) (N := N__law_plain) rfl (by decide +kernel)) (fun _ _ _ _ _ => fg_name (i := 8) sc__law_plain.nd) (fun _ _ _ _ _ => fts_nil) (fun _ _ _ _ _ => fx_op (ow := false) op_mulX snd_mulX (fx_ix (fx_var 8) fx_int) (fx_op (ow := false) op_fdivW snd_div (fx_var 4) (fx_ix (fx_var 8) fx_int))))) (fss_one (fs_ret (fz := true) (fx_lst (ow := false) (fa_cons (fx_lc (own := [("weight", 9)]) (ow := false) rfl sc__law_plain.nd (fi_seq (fx_var 1)) (blkOk_by (own := [("weight", 9)]) (N := N__law_plain) (sc := defScope s__law_plain) (by decide +kernel)) (fun _ _ _ _ _ => fg_name (i := 9) sc__law_plain.nd) (fun _ _ _ _ _ => fts_nil) (fun _ _ _ _ _ => fx_op (ow := false) op_mulX snd_mulX (fx_ix (fx_var 9) fx_int) (fx_op (ow := false) op_fdivW snd_div (fx_var 3) (fx_ix (fx_var 9) fx_int)))) (fa_cons (fx_var 6) (fa_cons (fx_var 3) (fa_cons (fx_var 4) fa_nil)))))))))))
theorem sc__law_sum : FnScope ["row", "other", "one", "two"] ["row", "other"] (defScope s__law_sum) := ⟨rfl, rfl, rfl, by decide +kernel, rfl, by decide +kernel, by decide +kernel⟩
theorem ok__law_sum (B : Bs mg) (E : At K mg "_law_sum" s__law_sum) : Def P w K mg base 1 "_law_sum" s__law_sum ["row", "other"] F__law_sum :=
  def_ok 0 E sc__law_sum (fun _ _ _ _ _ _ us hl => match us, hl with | [_, _], _ => rfl) (fun f cdv A outer s H E hr =>
    fss_one (fs_ret (fz := true) (fx_B (ow := false) (cr_sumA rfl) snd_sumA B.sum (fa_cons (fx_lc (own := [("one", 2), ("two", 3)]) (ow := false) rfl sc__law_sum.nd (fi_seq (fx_listZip (ow := false) rfl B.list B.zip (fa_cons (fx_var 0) (fa_cons (fx_var 1) fa_nil)))) (blkOk_by (own := [("one", 2), ("two", 3)]) (N := N__law_sum) (sc := defScope s__law_sum) (by decide +kernel)) (fun _ _ _ _ _ => fg_tup rfl (fgs_cons (fg_name (i := 2) sc__law_sum.nd) (fgs_cons (fg_name (i := 3) sc__law_sum.nd) fgs_nil))) (fun _ _ _ _ _ => fts_nil) (fun _ _ _ _ _ => fx_op (ow := false) op_mulX snd_mulX (fx_var 2) (fx_var 3))) fa_nil))))
theorem sc__law_due : FnScope ["plain", "weights", "table", "by", "under", "degrees", "mean", "square", "own", "row", "weight", "degree"] ["plain"] (defScope s__law_due) := ⟨rfl, rfl, rfl, by decide +kernel, rfl, by decide +kernel, by decide +kernel⟩
theorem ok__law_due (B : Bs mg) (D__law_sum : Def P w K mg base 1 "_law_sum" s__law_sum ["row", "other"] F__law_sum) (D__law_lowest : Def P w K mg base 2 "_law_lowest" s__law_lowest ["over", "under"] F__law_lowest) (E : At K mg "_law_due" s__law_due) : Def P w K mg base 3 "_law_due" s__law_due ["plain"] F__law_due :=
  def_ok 2 E sc__law_due (fun _ _ _ _ _ _ us hl => match us, hl with | [_], _ => rfl) (fun f cdv A outer s H E hr =>
    fss_cons (fs_asgG (fx_var 0) (fg_tupA rfl (fgs_cons (fg_name (i := 1) sc__law_due.nd) (fgs_cons (fg_name (i := 2) sc__law_due.nd) (fgs_cons (fg_name (i := 3) sc__law_due.nd) (fgs_cons (fg_name (i := 4) sc__law_due.nd) fgs_nil)))))) (fss_cons (fs_setLc (i := 5) (own := [("row", 9)]) (ow := false) rfl sc__law_due.nd rfl (sw_true rfl rfl rfl (by decide +kernel)) (fi_seq (fx_var 2)) (blkOk_by (own := [("row", 9)]) (N := N__law_due) (sc := defScope s__law_due) (by decide +kernel)) (fun _ _ _ _ _ => fg_name (i := 9) sc__law_due.nd) (fun _ _ _ _ _ => fts_nil) (fun _ _ _ _ _ => fx_callD D__law_sum (hr.mono (by first | decide | omega)) (fa_cons (fx_var 1) (fa_cons (fx_var 9) fa_nil)))) (fss_cons (fs_set (i := 6) sc__law_due.nd (fx_callD D__law_sum (hr.mono (by first | decide | omega)) (fa_cons (fx_var 1) (fa_cons (fx_var 5) fa_nil)))) (fss_cons (fs_set (i := 7) sc__law_due.nd (fx_B (ow := false) (cr_sumA rfl) snd_sumA B.sum (fa_cons (fx_lc (own := [("weight", 10), ("degree", 11)]) (ow := false) rfl sc__law_due.nd (fi_seq (fx_listZip (ow := false) rfl B.list B.zip (fa_cons (fx_var 1) (fa_cons (fx_var 5) fa_nil)))) (blkOk_by (own := [("weight", 10), ("degree", 11)]) (N := N__law_due) (sc := defScope s__law_due) (by decide +kernel)) (fun _ _ _ _ _ => fg_tup rfl (fgs_cons (fg_name (i := 10) sc__law_due.nd) (fgs_cons (fg_name (i := 11) sc__law_due.nd) fgs_nil))) (fun _ _ _ _ _ => fts_nil) (fun _ _ _ _ _ => fx_op (ow := false) op_mulX snd_mulX (fx_var 10) (fx_op (ow := false) op_powX snd_powX (fx_op (ow := false) op_sub snd_int2 (fx_op (ow := false) op_mulX snd_mulX (fx_var 3) (fx_var 11)) (fx_var 6)) fx_int))) fa_nil))) (fss_cons (fs_set (i := 8) sc__law_due.nd (fx_Ty (ow := false) call_tuple_of snd_toT B.tuple (fa_cons (fx_lc (own := [("degree", 11)]) (ow := false) rfl sc__law_due.nd (fi_seq (fx_var 5)) (blkOk_by (own := [("degree", 11)]) (N := N__law_due) (sc := defScope s__law_due) (by decide +kernel)) (fun _ _ _ _ _ => fg_name (i := 11) sc__law_due.nd) (fun _ _ _ _ _ => fts_nil) (fun _ _ _ _ _ => fx_callD D__law_lowest (hr.mono (by first | decide | omega)) (fa_cons (fx_var 11) (fa_cons (fx_op (ow := false) op_mulX snd_mulX (fx_var 3) (fx_var 4)) fa_nil)))) fa_nil))) (fss_one (fs_ret (fz := true) (fx_lst (ow := false) (fa_cons (fx_callD D__law_lowest (hr.mono (by first | decide | omega)) (fa_cons (fx_var 6) (fa_cons (fx_op (ow := false) op_mulX snd_mulX (fx_op (ow := false) op_mulX snd_mulX (fx_var 3) (fx_var 3)) (fx_var 4)) fa_nil))) (fa_cons (fx_var 8) (fa_cons (fx_callD D__law_lowest (hr.mono (by first | decide | omega)) (fa_cons (fx_var 7) (fa_cons (fx_op (ow := false) op_mulX snd_mulX (fx_op (ow := false) op_powX snd_powX (fx_var 3) fx_int) (fx_op (ow := false) op_powX snd_powX (fx_var 4) fx_int)) fa_nil))) fa_nil)))))))))))
theorem sc__law_paths : FnScope ["plain", "most", "weights", "table", "by", "under", "row", "divided", "found", "turn", "heavy", "weight", "number", "line"] ["plain", "most"] (defScope s__law_paths) := ⟨rfl, rfl, rfl, by decide +kernel, rfl, by decide +kernel, by decide +kernel⟩
theorem ok__law_paths (B : Bs mg) (D__law_lowest : Def P w K mg base 2 "_law_lowest" s__law_lowest ["over", "under"] F__law_lowest) (D__law_sum : Def P w K mg base 1 "_law_sum" s__law_sum ["row", "other"] F__law_sum) (E : At K mg "_law_paths" s__law_paths) : Def P w K mg base 3 "_law_paths" s__law_paths ["plain", "most"] F__law_paths :=
  def_ok 2 E sc__law_paths (fun _ _ _ _ _ _ us hl => match us, hl with | [_, _], _ => rfl) (fun f cdv A outer s H E hr =>
    fss_cons (fs_asgG (fx_var 0) (fg_tupA rfl (fgs_cons (fg_name (i := 2) sc__law_paths.nd) (fgs_cons (fg_name (i := 3) sc__law_paths.nd) (fgs_cons (fg_name (i := 4) sc__law_paths.nd) (fgs_cons (fg_name (i := 5) sc__law_paths.nd) fgs_nil)))))) (fss_cons (fs_par3 (i := 6) (j := 7) (l := 8) rfl sc__law_paths.nd (fa_cons (fx_op (ow := false) op_mulX snd_mulX (fx_lst (ow := false) (fa_cons fx_int fa_nil)) (fx_B (ow := false) call_len snd_len B.len (fa_cons (fx_var 2) fa_nil))) (fa_cons (fx_var 4) (fa_cons (fx_lst (ow := true) (fa_cons (fx_tup (fa_cons fx_int (fa_cons fx_int fa_nil))) fa_nil)) fa_nil)))) (fss_cons (fs_for PassesOwn.never rfl (fi_range1 B.range (fx_var 1)) (fg_name (i := 9) sc__law_paths.nd) (fss_fgt [9, 10] (fss_cons (fs_expr (fx_append 8 (fx_callD D__law_lowest (hr.mono (by first | decide | omega)) (fa_cons (fx_callD D__law_sum (hr.mono (by first | decide | omega)) (fa_cons (fx_var 2) (fa_cons (fx_var 6) fa_nil))) (fa_cons (fx_var 7) fa_nil))))) (fss_cons (fs_set (i := 10) sc__law_paths.nd (fx_lc (own := [("weight", 11), ("number", 12)]) (ow := false) rfl sc__law_paths.nd (fi_seq (fx_listZip (ow := false) rfl B.list B.zip (fa_cons (fx_var 2) (fa_cons (fx_var 6) fa_nil)))) (blkOk_by (own := [("weight", 11), ("number", 12)]) (N := N__law_paths) (sc := defScope s__law_paths) (by decide +kernel)) (fun _ _ _ _ _ => fg_tup rfl (fgs_cons (fg_name (i := 11) sc__law_paths.nd) (fgs_cons (fg_name (i := 12) sc__law_paths.nd) fgs_nil))) (fun _ _ _ _ _ => fts_nil) (fun _ _ _ _ _ => fx_op (ow := false) op_mulX snd_mulX (fx_var 11) (fx_var 12)))) (fss_one (fs_par2 (i := 6) (j := 7) rfl sc__law_paths.nd (fx_lc (own := [("line", 13)]) (ow := false) rfl sc__law_paths.nd (fi_seq (fx_var 3)) (blkOk_by (own := [("line", 13)]) (N := N__law_paths) (sc := defScope s__law_paths) (by decide +kernel)) (fun _ _ _ _ _ => fg_name (i := 13) sc__law_paths.nd) (fun _ _ _ _ _ => fts_nil) (fun _ _ _ _ _ => fx_callD D__law_sum (hr.mono (by first | decide | omega)) (fa_cons (fx_var 13) (fa_cons (fx_var 10) fa_nil)))) (fx_op (ow := false) op_mulX snd_mulX (fx_op (ow := false) op_mulX snd_mulX (fx_var 7) (fx_var 4)) (fx_var 5)))))))) (fss_one (fs_ret (fz := true) (fx_var 8))))))
theorem sc__law_are_told : FnScope ["sheet", "due", "is_named", "kept", "told", "is_like", "degree", "one", "two"] ["sheet", "due", "is_named"] (defScope s__law_are_told) := ⟨rfl, rfl, rfl, by decide +kernel, rfl, by decide +kernel, by decide +kernel⟩
theorem ok__law_are_told (B : Bs mg) (D_degree_square : Def P w K mg base 4 "degree_square" s_degree_square ["sheet"] F_degree_square) (D_degrees_of : Def P w K mg base 4 "degrees_of" s_degrees_of ["sheet"] F_degrees_of) (D_mean_of : Def P w K mg base 4 "mean_of" s_mean_of ["sheet"] F_mean_of) (D__law_same : Def P w K mg base 9 "_law_same" s__law_same ["told", "due"] (F__law_same 8)) (E : At K mg "_law_are_told" s__law_are_told) : Def P w K mg base 10 "_law_are_told" s__law_are_told ["sheet", "due", "is_named"] F__law_are_told :=
  def_ok 9 E sc__law_are_told (fun _ _ _ _ _ _ us hl => match us, hl with | [_, _, _], _ => rfl) (fun f cdv A outer s H E hr =>
    fss_cons (fs_set (i := 3) sc__law_are_told.nd (fx_B (ow := false) (cr_reprX hr.rp) snd_reprX B.repr (fa_cons (fx_var 0) fa_nil))) (fss_cons (fs_if (ft_truth (fx_var 2)) (fss_one (fs_set (i := 4) sc__law_are_told.nd (fx_lst (ow := false) (fa_cons (fx_callK0 (js := [0]) D_mean_of (hr.mono (by first | decide | omega)) (by decide) (fun _ _ _ _ _ _ us ws h1 h2 => match us, ws, h1, h2 with | [], [_], _, _ => rfl) (fk_cons (fx_var 0) fk_nil)) (fa_cons (fx_callK0 (js := [0]) D_degrees_of (hr.mono (by first | decide | omega)) (by decide) (fun _ _ _ _ _ _ us ws h1 h2 => match us, ws, h1, h2 with | [], [_], _, _ => rfl) (fk_cons (fx_var 0) fk_nil)) (fa_cons (fx_callK0 (js := [0]) D_degree_square (hr.mono (by first | decide | omega)) (by decide) (fun _ _ _ _ _ _ us ws h1 h2 => match us, ws, h1, h2 with | [], [_], _, _ => rfl) (fk_cons (fx_var 0) fk_nil)) fa_nil)))))) (fss_one (fs_set (i := 4) sc__law_are_told.nd (fx_lst (ow := false) (fa_cons (fx_callD D_mean_of (hr.mono (by first | decide | omega)) (fa_cons (fx_var 0) fa_nil)) (fa_cons (fx_callD D_degrees_of (hr.mono (by first | decide | omega)) (fa_cons (fx_var 0) fa_nil)) (fa_cons (fx_callD D_degree_square (hr.mono (by first | decide | omega)) (fa_cons (fx_var 0) fa_nil)) fa_nil))))))) (fss_cons (fs_set (i := 5) sc__law_are_told.nd (fx_B (ow := false) (cr_all rfl) snd_all B.«all» (fa_cons (fx_lc (own := [("degree", 6)]) (ow := false) rfl sc__law_are_told.nd (fi_seq (fx_ix (fx_var 1) fx_int)) (blkOk_by (own := [("degree", 6)]) (N := N__law_are_told) (sc := defScope s__law_are_told) (by decide +kernel)) (fun _ _ _ _ _ => fg_name (i := 6) sc__law_are_told.nd) (fun _ _ _ _ _ => fts_nil) (fun _ _ _ _ _ => fx_cmp (op_eqA hr.units) snd_eqX (fx_var 6) (fx_ix (fx_ix (fx_var 1) fx_int) fx_int) (nomark _))) fa_nil))) (fss_cons (fs_if ((fw_or (ft_cmp (op_neA hr.units) snd_neX (fx_cmp (op_eqA hr.units) snd_eqX (fx_ix (fx_var 1) fx_int) (fx_tup (fa_cons fx_int (fa_cons fx_int fa_nil))) (nomark _)) (fx_var 5) (nomark _)) (fw_or1 (ft_cmp (op_neA hr.units) snd_neX (fx_B (ow := false) (cr_reprX hr.rp) snd_reprX B.repr (fa_cons (fx_var 0) fa_nil)) (fx_var 3) (nomark _)))).ft) (fss_one (fs_ret (fz := true) fx_bl)) fss_nil) (fss_one (fs_ret (fz := true) (fx_B (ow := false) (cr_all rfl) snd_all B.«all» (fa_cons (fx_lc (own := [("one", 7), ("two", 8)]) (ow := false) rfl sc__law_are_told.nd (fi_seq (fx_listZip (ow := false) rfl B.list B.zip (fa_cons (fx_var 4) (fa_cons (fx_var 1) fa_nil)))) (blkOk_by (own := [("one", 7), ("two", 8)]) (N := N__law_are_told) (sc := defScope s__law_are_told) (by decide +kernel)) (fun _ _ _ _ _ => fg_tup rfl (fgs_cons (fg_name (i := 7) sc__law_are_told.nd) (fgs_cons (fg_name (i := 8) sc__law_are_told.nd) fgs_nil))) (fun _ _ _ _ _ => fts_nil) (fun _ _ _ _ _ => fx_callD D__law_same (hr.mono (by first | decide | omega)) (fa_cons (fx_var 7) (fa_cons (fx_var 8) fa_nil)))) fa_nil))))))))
theorem sc__law_are_paths_told : FnScope ["sheet", "due", "some", "is_named", "many", "told"] ["sheet", "due", "some", "is_named"] (defScope s__law_are_paths_told) := ⟨rfl, rfl, rfl, by decide +kernel, rfl, by decide +kernel, by decide +kernel⟩
theorem ok__law_are_paths_told (B : Bs mg) (D_path_share : Def P w K mg base 3 "path_share" s_path_share ["sheet", "many"] F_path_share) (D__law_same : Def P w K mg base 9 "_law_same" s__law_same ["told", "due"] (F__law_same 8)) (E : At K mg "_law_are_paths_told" s__law_are_paths_told) : Def P w K mg base 10 "_law_are_paths_told" s__law_are_paths_told ["sheet", "due", "some", "is_named"] F__law_are_paths_told :=
  def_ok 9 E sc__law_are_paths_told (fun _ _ _ _ _ _ us hl => match us, hl with | [_, _, _, _], _ => rfl) (fun f cdv A outer s H E hr =>
    fss_cons (fs_for PassesOwn.never rfl (fi_seq (fx_var 2)) (fg_name (i := 4) sc__law_are_paths_told.nd) (fss_fgt [4, 5] (fss_cons (fs_set (i := 5) sc__law_are_paths_told.nd (fx_ifE (ft_truth (fx_var 3)) (fx_callK0 (js := [0, 1]) D_path_share (hr.mono (by first | decide | omega)) (by decide) (fun _ _ _ _ _ _ us ws h1 h2 => match us, ws, h1, h2 with | [], [_, _], _, _ => rfl) (fk_cons (fx_var 0) (fk_cons (fx_var 4) fk_nil))) (fx_callD D_path_share (hr.mono (by first | decide | omega)) (fa_cons (fx_var 0) (fa_cons (fx_var 4) fa_nil))))) (fss_one (fs_if (ft_not (ft_truth (fx_callD D__law_same (hr.mono (by first | decide | omega)) (fa_cons (fx_var 5) (fa_cons (fx_ix (fx_var 1) (fx_var 4)) fa_nil))))) (fss_one (fs_ret (fz := true) fx_bl)) fss_nil))))) (fss_one (fs_ret (fz := true) fx_bl)))
theorem sc__law_are_short_right : FnScope ["sheet", "due", "mean", "square", "three", "under"] ["sheet", "due"] (defScope s__law_are_short_right) := ⟨rfl, rfl, rfl, by decide +kernel, rfl, by decide +kernel, by decide +kernel⟩
theorem ok__law_are_short_right (B : Bs mg) (D_path_share : Def P w K mg base 3 "path_share" s_path_share ["sheet", "many"] F_path_share) (D_degree_square : Def P w K mg base 4 "degree_square" s_degree_square ["sheet"] F_degree_square) (D_mean_of : Def P w K mg base 4 "mean_of" s_mean_of ["sheet"] F_mean_of) (D__law_same : Def P w K mg base 9 "_law_same" s__law_same ["told", "due"] (F__law_same 8)) (D__law_lowest : Def P w K mg base 2 "_law_lowest" s__law_lowest ["over", "under"] F__law_lowest) (E : At K mg "_law_are_short_right" s__law_are_short_right) : Def P w K mg base 10 "_law_are_short_right" s__law_are_short_right ["sheet", "due"] F__law_are_short_right :=
  def_ok 9 E sc__law_are_short_right (fun _ _ _ _ _ _ us hl => match us, hl with | [_, _], _ => rfl) (fun f cdv A outer s H E hr =>
    fss_cons (fs_par3 (i := 2) (j := 3) (l := 4) rfl sc__law_are_short_right.nd (fa_cons (fx_callD D_mean_of (hr.mono (by first | decide | omega)) (fa_cons (fx_var 0) fa_nil)) (fa_cons (fx_callD D_degree_square (hr.mono (by first | decide | omega)) (fa_cons (fx_var 0) fa_nil)) (fa_cons (fx_callD D_path_share (hr.mono (by first | decide | omega)) (fa_cons (fx_var 0) (fa_cons fx_int fa_nil))) fa_nil)))) (fss_cons (fs_if ((fw_or (ft_not (ft_truth (fx_callD D__law_same (hr.mono (by first | decide | omega)) (fa_cons (fx_callD D_path_share (hr.mono (by first | decide | omega)) (fa_cons (fx_var 0) (fa_cons fx_int fa_nil))) (fa_cons (fx_tup (fa_cons fx_int (fa_cons fx_int fa_nil))) fa_nil))))) (fw_or1 (ft_not (ft_truth (fx_callD D__law_same (hr.mono (by first | decide | omega)) (fa_cons (fx_callD D_path_share (hr.mono (by first | decide | omega)) (fa_cons (fx_var 0) (fa_cons fx_int fa_nil))) (fa_cons (fx_ix (fx_var 1) fx_int) fa_nil))))))).ft) (fss_one (fs_ret (fz := true) fx_bl)) fss_nil) (fss_cons (fs_if ((fw_or (ft_not (ft_truth (fx_callD D__law_same (hr.mono (by first | decide | omega)) (fa_cons (fx_var 2) (fa_cons (fx_ix (fx_var 1) fx_int) fa_nil))))) (fw_or1 (ft_not (ft_truth (fx_callD D__law_same (hr.mono (by first | decide | omega)) (fa_cons (fx_var 3) (fa_cons (fx_ix (fx_var 1) fx_int) fa_nil))))))).ft) (fss_one (fs_ret (fz := true) fx_bl)) fss_nil) (fss_cons (fs_set (i := 5) sc__law_are_short_right.nd (fx_op (ow := false) op_mulX snd_mulX (fx_op (ow := false) op_mulX snd_mulX (fx_ix (fx_var 2) fx_int) (fx_ix (fx_var 2) fx_int)) (fx_ix (fx_var 3) fx_int))) (fss_one (fs_ret (fz := true) (fx_callD D__law_same (hr.mono (by first | decide | omega)) (fa_cons (fx_var 4) (fa_cons (fx_callD D__law_lowest (hr.mono (by first | decide | omega)) (fa_cons (fx_op (ow := false) op_addA snd_add (fx_op (ow := false) op_mulX snd_mulX (fx_op (ow := false) op_mulX snd_mulX (fx_ix (fx_var 2) fx_int) (fx_ix (fx_var 2) fx_int)) (fx_ix (fx_var 3) fx_int)) (fx_op (ow := false) op_mulX snd_mulX (fx_op (ow := false) op_mulX snd_mulX (fx_ix (fx_var 3) fx_int) (fx_ix (fx_var 2) fx_int)) (fx_ix (fx_var 2) fx_int))) (fa_cons (fx_var 5) fa_nil))) fa_nil)))))))))
theorem sc__law_is_constant_right : FnScope ["bag", "m", "weights", "p", "sheet", "many", "over", "under", "turn"] ["bag"] (defScope s__law_is_constant_right) := ⟨rfl, rfl, rfl, by decide +kernel, rfl, by decide +kernel, by decide +kernel⟩
theorem ok__law_is_constant_right (B : Bs mg) (D__law_draw : Def P w K mg base 1 "_law_draw" s__law_draw ["bag", "below"] F__law_draw) (D__law_own_weights : Def P w K mg base 3 "_law_own_weights" s__law_own_weights ["bag", "m", "most"] F__law_own_weights) (D__law_pick : Def P w K mg base 2 "_law_pick" s__law_pick ["bag", "some"] F__law_pick) (D__law_own_item : Def P w K mg base 3 "_law_own_item" s__law_own_item ["bag", "low", "most"] F__law_own_item) (D_constant_sheet : Def P w K mg base 1 "constant_sheet" s_constant_sheet ["weights", "p"] F_constant_sheet) (D__law_same : Def P w K mg base 9 "_law_same" s__law_same ["told", "due"] (F__law_same 8)) (D_path_share : Def P w K mg base 3 "path_share" s_path_share ["sheet", "many"] F_path_share) (D__law_are_told : Def P w K mg base 10 "_law_are_told" s__law_are_told ["sheet", "due", "is_named"] F__law_are_told) (E : At K mg "_law_is_constant_right" s__law_is_constant_right) : Def P w K mg base 11 "_law_is_constant_right" s__law_is_constant_right ["bag"] F__law_is_constant_right :=
  def_ok 10 E sc__law_is_constant_right (fun _ _ _ _ _ _ us hl => match us, hl with | [_], _ => rfl) (fun f cdv A outer s H E hr =>
    fss_cons (fs_set (i := 1) sc__law_is_constant_right.nd (fx_ifE (ft_cmp (op_eqA hr.units) snd_eqX (fx_callD D__law_draw (hr.mono (by first | decide | omega)) (fa_cons (fx_var 0) (fa_cons fx_int fa_nil))) fx_int (nomark _)) fx_int (fx_op (ow := false) op_addA snd_add fx_int (fx_callD D__law_draw (hr.mono (by first | decide | omega)) (fa_cons (fx_var 0) (fa_cons fx_int fa_nil)))))) (fss_cons (fs_par2 (i := 2) (j := 3) rfl sc__law_is_constant_right.nd (fx_callD D__law_own_weights (hr.mono (by first | decide | omega)) (fa_cons (fx_var 0) (fa_cons (fx_var 1) (fa_cons (fx_callD D__law_pick (hr.mono (by first | decide | omega)) (fa_cons (fx_var 0) (fa_cons (fx_lst (ow := false) (fa_cons fx_int (fa_cons fx_int fa_nil))) fa_nil))) fa_nil)))) (fx_callD D__law_own_item (hr.mono (by first | decide | omega)) (fa_cons (fx_var 0) (fa_cons fx_int (fa_cons (fx_callD D__law_pick (hr.mono (by first | decide | omega)) (fa_cons (fx_var 0) (fa_cons (fx_lst (ow := false) (fa_cons fx_int (fa_cons fx_int (fa_cons fx_int fa_nil)))) fa_nil))) fa_nil))))) (fss_cons (fs_multi (is := [4, 5, 6, 7]) rfl (fa_cons (fx_callD D_constant_sheet (hr.mono (by first | decide | omega)) (fa_cons (fx_var 2) (fa_cons (fx_var 3) fa_nil))) (fa_cons (fx_op (ow := false) op_addA snd_add fx_int (fx_callD D__law_draw (hr.mono (by first | decide | omega)) (fa_cons (fx_var 0) (fa_cons (fx_ifE (ft_cmp op_lt snd_rel (fx_var 1) fx_int (nomark _)) fx_int fx_int) fa_nil)))) (fa_cons fx_int (fa_cons fx_int fa_nil)))) (fm_cons (i := 4) (fm_cons (i := 5) (fm_cons (i := 6) (fm_cons (i := 7) fm_nil sc__law_is_constant_right.nd) sc__law_is_constant_right.nd) sc__law_is_constant_right.nd) sc__law_is_constant_right.nd)) (fss_cons (fs_if (ft_not (ft_truth (fx_callD D__law_same (hr.mono (by first | decide | omega)) (fa_cons (fx_var 4) (fa_cons (fx_tup (fa_cons (fx_var 2) (fa_cons (fx_op (ow := false) op_mulX snd_mulX (fx_tup (fa_cons (fx_op (ow := false) op_mulX snd_mulX (fx_tup (fa_cons (fx_var 3) fa_nil)) (fx_var 1)) fa_nil)) (fx_var 1)) fa_nil))) fa_nil))))) (fss_one (fs_ret (fz := true) fx_bl)) fss_nil) (fss_cons (fs_for PassesOwn.never rfl (fi_range1 B.range (fx_op (ow := false) op_sub snd_int2 (fx_var 5) fx_int)) (fg_name (i := 8) sc__law_is_constant_right.nd) (fss_fgt [8] (fss_one (fs_par2 (i := 6) (j := 7) rfl sc__law_is_constant_right.nd (fx_op (ow := false) op_mulX snd_mulX (fx_var 6) (fx_ix (fx_var 3) fx_int)) (fx_op (ow := false) op_mulX snd_mulX (fx_var 7) (fx_ix (fx_var 3) fx_int)))))) (fss_cons (fs_if (ft_not (ft_truth (fx_callD D__law_same (hr.mono (by first | decide | omega)) (fa_cons (fx_callD D_path_share (hr.mono (by first | decide | omega)) (fa_cons (fx_var 4) (fa_cons (fx_var 5) fa_nil))) (fa_cons (fx_tup (fa_cons (fx_var 6) (fa_cons (fx_var 7) fa_nil))) fa_nil))))) (fss_one (fs_ret (fz := true) fx_bl)) fss_nil) (fss_one (fs_ret (fz := true) (fx_callD D__law_are_told (hr.mono (by first | decide | omega)) (fa_cons (fx_var 4) (fa_cons (fx_lst (ow := false) (fa_cons (fx_var 3) (fa_cons (fx_op (ow := false) op_mulX snd_mulX (fx_tup (fa_cons (fx_var 3) fa_nil)) (fx_var 1)) (fa_cons (fx_tup (fa_cons fx_int (fa_cons fx_int fa_nil))) fa_nil)))) (fa_cons fx_bl fa_nil))))))))))))
theorem sc__law_is_led_right : FnScope ["bag", "sheet", "due", "many", "weights", "table", "rest", "order", "led", "own", "paths", "i", "j"] ["bag", "sheet", "due", "many"] (defScope s__law_is_led_right) := ⟨rfl, rfl, rfl, by decide +kernel, rfl, by decide +kernel, by decide +kernel⟩
theorem ok__law_is_led_right (B : Bs mg) (D__law_draw : Def P w K mg base 1 "_law_draw" s__law_draw ["bag", "below"] F__law_draw) (D__law_due : Def P w K mg base 3 "_law_due" s__law_due ["plain"] F__law_due) (D__law_plain : Def P w K mg base 3 "_law_plain" s__law_plain ["sheet"] F__law_plain) (D__law_paths : Def P w K mg base 3 "_law_paths" s__law_paths ["plain", "most"] F__law_paths) (D__law_are_told : Def P w K mg base 10 "_law_are_told" s__law_are_told ["sheet", "due", "is_named"] F__law_are_told) (D__law_are_paths_told : Def P w K mg base 10 "_law_are_paths_told" s__law_are_paths_told ["sheet", "due", "some", "is_named"] F__law_are_paths_told) (E : At K mg "_law_is_led_right" s__law_is_led_right) : Def P w K mg base 11 "_law_is_led_right" s__law_is_led_right ["bag", "sheet", "due", "many"] F__law_is_led_right :=
  def_ok 10 E sc__law_is_led_right (fun _ _ _ _ _ _ us hl => match us, hl with | [_, _, _, _], _ => rfl) (fun f cdv A outer s H E hr =>
    fss_cons (fs_asgG (fx_var 1) (fg_tupA rfl (fgs_cons (fg_name (i := 4) sc__law_is_led_right.nd) (fgs_cons (fg_name (i := 5) sc__law_is_led_right.nd) fgs_nil)))) (fss_cons (fs_multi (is := [6, 7]) rfl (fa_cons (fx_listR1 (ow := true) rfl B.list B.range (fx_B (ow := false) call_len snd_len B.len (fa_cons (fx_var 4) fa_nil))) (fa_cons (fx_lst (ow := true) fa_nil) fa_nil)) (fm_cons (i := 6) (fm_cons (i := 7) fm_nil sc__law_is_led_right.nd) sc__law_is_led_right.nd)) (fss_cons (fs_while FUEL PassesOwn.never (ft_cmp (op_neA hr.units) snd_neX (fx_var 6) (fx_lst (ow := false) fa_nil) (nomark _)) (fss_one (fs_expr (fx_append 7 (fx_popAt 6 (fx_callD D__law_draw (hr.mono (by first | decide | omega)) (fa_cons (fx_var 0) (fa_cons (fx_B (ow := false) call_len snd_len B.len (fa_cons (fx_var 6) fa_nil)) fa_nil)))))))) (fss_frz 7 (fss_cons (fs_set (i := 8) sc__law_is_led_right.nd (fx_tup (fa_cons (fx_Ty (ow := false) call_tuple_of snd_toT B.tuple (fa_cons (fx_lc (own := [("i", 11)]) (ow := false) rfl sc__law_is_led_right.nd (fi_seq (fx_var 7)) (blkOk_by (own := [("i", 11)]) (N := N__law_is_led_right) (sc := defScope s__law_is_led_right) (by decide +kernel)) (fun _ _ _ _ _ => fg_name (i := 11) sc__law_is_led_right.nd) (fun _ _ _ _ _ => fts_nil) (fun _ _ _ _ _ => fx_ix (fx_var 4) (fx_var 11))) fa_nil)) (fa_cons (fx_Ty (ow := false) call_tuple_of snd_toT B.tuple (fa_cons (fx_lc (own := [("i", 11)]) (ow := false) rfl sc__law_is_led_right.nd (fi_seq (fx_var 7)) (blkOk_by (own := [("i", 11)]) (N := N__law_is_led_right) (sc := defScope s__law_is_led_right) (by decide +kernel)) (fun _ _ _ _ _ => fg_name (i := 11) sc__law_is_led_right.nd) (fun _ _ _ _ _ => fts_nil) (fun _ _ _ _ _ => fx_Ty (ow := false) call_tuple_of snd_toT B.tuple (fa_cons (fx_lc (own := [("j", 12)]) (ow := false) rfl sc__law_is_led_right.nd (fi_seq (fx_var 7)) (blk_in (own := [("j", 12)]) (N := N__law_is_led_right) rfl (by decide +kernel)) (fun _ _ _ _ _ => fg_name (i := 12) sc__law_is_led_right.nd) (fun _ _ _ _ _ => fts_nil) (fun _ _ _ _ _ => fx_ix (fx_ix (fx_var 5) (fx_var 11)) (fx_var 12))) fa_nil))) fa_nil)) fa_nil)))) (fss_cons (fs_par2 (i := 9) (j := 10) rfl sc__law_is_led_right.nd (fx_callD D__law_due (hr.mono (by first | decide | omega)) (fa_cons (fx_callD D__law_plain (hr.mono (by first | decide | omega)) (fa_cons (fx_var 8) fa_nil)) fa_nil)) (fx_callD D__law_paths (hr.mono (by first | decide | omega)) (fa_cons (fx_callD D__law_plain (hr.mono (by first | decide | omega)) (fa_cons (fx_var 1) fa_nil)) (fa_cons (fx_var 3) fa_nil)))) (fss_cons (fs_if (ft_cmp (op_neA hr.units) snd_neX (fx_var 9) (fx_lst (ow := false) (fa_cons (fx_ix (fx_var 2) fx_int) (fa_cons (fx_Ty (ow := false) call_tuple_of snd_toT B.tuple (fa_cons (fx_lc (own := [("i", 11)]) (ow := false) rfl sc__law_is_led_right.nd (fi_seq (fx_var 7)) (blkOk_by (own := [("i", 11)]) (N := N__law_is_led_right) (sc := defScope s__law_is_led_right) (by decide +kernel)) (fun _ _ _ _ _ => fg_name (i := 11) sc__law_is_led_right.nd) (fun _ _ _ _ _ => fts_nil) (fun _ _ _ _ _ => fx_ix (fx_ix (fx_var 2) fx_int) (fx_var 11))) fa_nil)) (fa_cons (fx_ix (fx_var 2) fx_int) fa_nil)))) (nomark _)) (fss_one (fs_ret (fz := true) fx_bl)) fss_nil) (fss_one (fs_ret (fz := true) (fx_and (fx_callD D__law_are_told (hr.mono (by first | decide | omega)) (fa_cons (fx_var 8) (fa_cons (fx_var 9) (fa_cons fx_bl fa_nil)))) (fx_one (fx_callD D__law_are_paths_told (hr.mono (by first | decide | omega)) (fa_cons (fx_var 8) (fa_cons (fx_var 10) (fa_cons (fx_lst (ow := false) (fa_cons (fx_var 3) fa_nil)) (fa_cons fx_bl fa_nil))))))))))))))))
theorem sc__law_is_great_right : FnScope ["bag", "sheet", "plain", "many"] ["bag"] (defScope s__law_is_great_right) := ⟨rfl, rfl, rfl, by decide +kernel, rfl, by decide +kernel, by decide +kernel⟩
theorem ok__law_is_great_right (B : Bs mg) (D__law_own_sheet : Def P w K mg base 5 "_law_own_sheet" s__law_own_sheet ["bag", "m"] F__law_own_sheet) (D__law_pick : Def P w K mg base 2 "_law_pick" s__law_pick ["bag", "some"] F__law_pick) (D__law_plain : Def P w K mg base 3 "_law_plain" s__law_plain ["sheet"] F__law_plain) (D__law_draw : Def P w K mg base 1 "_law_draw" s__law_draw ["bag", "below"] F__law_draw) (D__law_are_told : Def P w K mg base 10 "_law_are_told" s__law_are_told ["sheet", "due", "is_named"] F__law_are_told) (D__law_due : Def P w K mg base 3 "_law_due" s__law_due ["plain"] F__law_due) (D__law_are_paths_told : Def P w K mg base 10 "_law_are_paths_told" s__law_are_paths_told ["sheet", "due", "some", "is_named"] F__law_are_paths_told) (D__law_paths : Def P w K mg base 3 "_law_paths" s__law_paths ["plain", "most"] F__law_paths) (E : At K mg "_law_is_great_right" s__law_is_great_right) : Def P w K mg base 11 "_law_is_great_right" s__law_is_great_right ["bag"] F__law_is_great_right :=
  def_ok 10 E sc__law_is_great_right (fun _ _ _ _ _ _ us hl => match us, hl with | [_], _ => rfl) (fun f cdv A outer s H E hr =>
    fss_cons (fs_set (i := 1) sc__law_is_great_right.nd (fx_callD D__law_own_sheet (hr.mono (by first | decide | omega)) (fa_cons (fx_var 0) (fa_cons (fx_callD D__law_pick (hr.mono (by first | decide | omega)) (fa_cons (fx_var 0) (fa_cons (fx_lst (ow := false) (fa_cons fx_int (fa_cons fx_int (fa_cons fx_int (fa_cons fx_int (fa_cons fx_int (fa_cons fx_int fa_nil))))))) fa_nil))) fa_nil)))) (fss_cons (fs_par2 (i := 2) (j := 3) rfl sc__law_is_great_right.nd (fx_callD D__law_plain (hr.mono (by first | decide | omega)) (fa_cons (fx_var 1) fa_nil)) (fx_callD D__law_pick (hr.mono (by first | decide | omega)) (fa_cons (fx_var 0) (fa_cons (fx_lst (ow := false) (fa_cons fx_int (fa_cons fx_int (fa_cons fx_int (fa_cons (fx_op (ow := false) op_addA snd_add fx_int (fx_callD D__law_draw (hr.mono (by first | decide | omega)) (fa_cons (fx_var 0) (fa_cons fx_int fa_nil)))) fa_nil))))) fa_nil)))) (fss_cons (fs_if (ft_not (ft_truth (fx_callD D__law_are_told (hr.mono (by first | decide | omega)) (fa_cons (fx_var 1) (fa_cons (fx_callD D__law_due (hr.mono (by first | decide | omega)) (fa_cons (fx_var 2) fa_nil)) (fa_cons fx_bl fa_nil)))))) (fss_one (fs_ret (fz := true) fx_bl)) fss_nil) (fss_one (fs_ret (fz := true) (fx_callD D__law_are_paths_told (hr.mono (by first | decide | omega)) (fa_cons (fx_var 1) (fa_cons (fx_callD D__law_paths (hr.mono (by first | decide | omega)) (fa_cons (fx_var 2) (fa_cons fx_int fa_nil))) (fa_cons (fx_lst (ow := false) (fa_cons fx_int (fa_cons fx_int (fa_cons (fx_var 3) fa_nil)))) (fa_cons fx_bl fa_nil))))))))))
theorem sc_law : FnScope ["script", "bag", "sheet", "many", "plain", "due", "paths"] ["script"] (defScope s_law) := ⟨rfl, rfl, rfl, by decide +kernel, rfl, by decide +kernel, by decide +kernel⟩
theorem ok_law (B : Bs mg) (D__law_own_bag : Def P w K mg base 1 "_law_own_bag" s__law_own_bag ["script"] F__law_own_bag) (D__law_draw : Def P w K mg base 1 "_law_draw" s__law_draw ["bag", "below"] F__law_draw) (D__law_is_great_right : Def P w K mg base 11 "_law_is_great_right" s__law_is_great_right ["bag"] F__law_is_great_right) (D__law_is_constant_right : Def P w K mg base 11 "_law_is_constant_right" s__law_is_constant_right ["bag"] F__law_is_constant_right) (D__law_own_sheet : Def P w K mg base 5 "_law_own_sheet" s__law_own_sheet ["bag", "m"] F__law_own_sheet) (D__law_pick : Def P w K mg base 2 "_law_pick" s__law_pick ["bag", "some"] F__law_pick) (D__law_plain : Def P w K mg base 3 "_law_plain" s__law_plain ["sheet"] F__law_plain) (D__law_due : Def P w K mg base 3 "_law_due" s__law_due ["plain"] F__law_due) (D__law_paths : Def P w K mg base 3 "_law_paths" s__law_paths ["plain", "most"] F__law_paths) (D__law_are_told : Def P w K mg base 10 "_law_are_told" s__law_are_told ["sheet", "due", "is_named"] F__law_are_told) (D__law_are_paths_told : Def P w K mg base 10 "_law_are_paths_told" s__law_are_paths_told ["sheet", "due", "some", "is_named"] F__law_are_paths_told) (D__law_are_short_right : Def P w K mg base 10 "_law_are_short_right" s__law_are_short_right ["sheet", "due"] F__law_are_short_right) (D__law_is_led_right : Def P w K mg base 11 "_law_is_led_right" s__law_is_led_right ["bag", "sheet", "due", "many"] F__law_is_led_right) (E : At K mg "law" s_law) : Def P w K mg base 12 "law" s_law ["script"] F_law :=
  def_ok 11 E sc_law (fun _ _ _ _ _ _ us hl => match us, hl with | [_], _ => rfl) (fun f cdv A outer s H E hr =>
    fss_cons (fs_set (i := 1) sc_law.nd (fx_callD D__law_own_bag (hr.mono (by first | decide | omega)) (fa_cons (fx_var 0) fa_nil))) (fss_cons (fs_if (ft_cmp (op_eqA hr.units) snd_eqX (fx_callD D__law_draw (hr.mono (by first | decide | omega)) (fa_cons (fx_var 1) (fa_cons fx_int fa_nil))) fx_int (nomark _)) (fss_one (fs_ret (fz := true) (fx_and (fx_callD D__law_is_great_right (hr.mono (by first | decide | omega)) (fa_cons (fx_var 1) fa_nil)) (fx_one (fx_callD D__law_is_constant_right (hr.mono (by first | decide | omega)) (fa_cons (fx_var 1) fa_nil)))))) fss_nil) (fss_cons (fs_par2 (i := 2) (j := 3) rfl sc_law.nd (fx_callD D__law_own_sheet (hr.mono (by first | decide | omega)) (fa_cons (fx_var 1) (fa_cons (fx_callD D__law_pick (hr.mono (by first | decide | omega)) (fa_cons (fx_var 1) (fa_cons (fx_lst (ow := false) (fa_cons fx_int (fa_cons fx_int (fa_cons fx_int (fa_cons fx_int (fa_cons fx_int (fa_cons fx_int (fa_cons fx_int (fa_cons fx_int fa_nil))))))))) fa_nil))) fa_nil))) (fx_op (ow := false) op_addA snd_add fx_int (fx_callD D__law_draw (hr.mono (by first | decide | omega)) (fa_cons (fx_var 1) (fa_cons fx_int fa_nil))))) (fss_cons (fs_set (i := 4) sc_law.nd (fx_callD D__law_plain (hr.mono (by first | decide | omega)) (fa_cons (fx_var 2) fa_nil))) (fss_cons (fs_par2 (i := 5) (j := 6) rfl sc_law.nd (fx_callD D__law_due (hr.mono (by first | decide | omega)) (fa_cons (fx_var 4) fa_nil)) (fx_callD D__law_paths (hr.mono (by first | decide | omega)) (fa_cons (fx_var 4) (fa_cons fx_int fa_nil)))) (fss_cons (fs_if ((fw_or (ft_not (ft_truth (fx_callD D__law_are_told (hr.mono (by first | decide | omega)) (fa_cons (fx_var 2) (fa_cons (fx_var 5) (fa_cons fx_bl fa_nil)))))) (fw_or1 (ft_not (ft_truth (fx_callD D__law_are_told (hr.mono (by first | decide | omega)) (fa_cons (fx_var 2) (fa_cons (fx_var 5) (fa_cons fx_bl fa_nil)))))))).ft) (fss_one (fs_ret (fz := true) fx_bl)) fss_nil) (fss_cons (fs_if (ft_not (ft_truth (fx_callD D__law_are_paths_told (hr.mono (by first | decide | omega)) (fa_cons (fx_var 2) (fa_cons (fx_var 6) (fa_cons (fx_lst (ow := false) (fa_cons fx_int (fa_cons fx_int (fa_cons fx_int (fa_cons (fx_var 3) fa_nil))))) (fa_cons fx_bl fa_nil))))))) (fss_one (fs_ret (fz := true) fx_bl)) fss_nil) (fss_cons (fs_if (ft_not (ft_truth (fx_callD D__law_are_paths_told (hr.mono (by first | decide | omega)) (fa_cons (fx_var 2) (fa_cons (fx_var 6) (fa_cons (fx_lst (ow := false) (fa_cons fx_int (fa_cons (fx_op (ow := false) op_addA snd_add fx_int (fx_callD D__law_draw (hr.mono (by first | decide | omega)) (fa_cons (fx_var 1) (fa_cons fx_int fa_nil)))) (fa_cons fx_int fa_nil)))) (fa_cons fx_bl fa_nil))))))) (fss_one (fs_ret (fz := true) fx_bl)) fss_nil) (fss_cons (fs_if ((fw_or (ft_not (ft_truth (fx_callD D__law_are_short_right (hr.mono (by first | decide | omega)) (fa_cons (fx_var 2) (fa_cons (fx_var 5) fa_nil))))) (fw_or1 (ft_not (ft_truth (fx_callD D__law_is_constant_right (hr.mono (by first | decide | omega)) (fa_cons (fx_var 1) fa_nil)))))).ft) (fss_one (fs_ret (fz := true) fx_bl)) fss_nil) (fss_one (fs_ret (fz := true) (fx_and (fx_callD D__law_is_led_right (hr.mono (by first | decide | omega)) (fa_cons (fx_var 1) (fa_cons (fx_var 2) (fa_cons (fx_var 5) (fa_cons (fx_op (ow := false) op_addA snd_add fx_int (fx_callD D__law_draw (hr.mono (by first | decide | omega)) (fa_cons (fx_var 1) (fa_cons fx_int fa_nil)))) fa_nil))))) (fx_one (fx_callD D__law_are_told (hr.mono (by first | decide | omega)) (fa_cons (fx_var 2) (fa_cons (fx_var 5) (fa_cons fx_bl fa_nil)))))))))))))))))
end
section
variable {P : Program} {w : World} {K : PySem.W.Frag} {mg : Str → Option Value} {base : Heap}
theorem defs_all (B : Bs mg) (E_common_of : At K mg "common_of" s_common_of) (E_numbers_of : At K mg "numbers_of" s_numbers_of) (E_whole_of : At K mg "whole_of" s_whole_of) (E_part_of : At K mg "part_of" s_part_of) (E_constant_sheet : At K mg "constant_sheet" s_constant_sheet) (E_whole_degrees : At K mg "whole_degrees" s_whole_degrees) (E_mean_of : At K mg "mean_of" s_mean_of) (E_degrees_of : At K mg "degrees_of" s_degrees_of) (E_degree_square : At K mg "degree_square" s_degree_square) (E_path_share : At K mg "path_share" s_path_share) (E__law_own_bag : At K mg "_law_own_bag" s__law_own_bag) (E__law_draw : At K mg "_law_draw" s__law_draw) (E__law_pick : At K mg "_law_pick" s__law_pick) (E__law_same : At K mg "_law_same" s__law_same) (E__law_gcd : At K mg "_law_gcd" s__law_gcd) (E__law_lowest : At K mg "_law_lowest" s__law_lowest) (E__law_under : At K mg "_law_under" s__law_under) (E__law_own_item : At K mg "_law_own_item" s__law_own_item) (E__law_own_weights : At K mg "_law_own_weights" s__law_own_weights) (E__law_own_table : At K mg "_law_own_table" s__law_own_table) (E__law_own_sheet : At K mg "_law_own_sheet" s__law_own_sheet) (E__law_plain : At K mg "_law_plain" s__law_plain) (E__law_sum : At K mg "_law_sum" s__law_sum) (E__law_due : At K mg "_law_due" s__law_due) (E__law_paths : At K mg "_law_paths" s__law_paths) (E__law_are_told : At K mg "_law_are_told" s__law_are_told) (E__law_are_paths_told : At K mg "_law_are_paths_told" s__law_are_paths_told) (E__law_are_short_right : At K mg "_law_are_short_right" s__law_are_short_right) (E__law_is_constant_right : At K mg "_law_is_constant_right" s__law_is_constant_right) (E__law_is_led_right : At K mg "_law_is_led_right" s__law_is_led_right) (E__law_is_great_right : At K mg "_law_is_great_right" s__law_is_great_right) (E_law : At K mg "law" s_law) : Def P w K mg base 12 "law" s_law ["script"] F_law := by
  have D_common_of := ok_common_of (P := P) (w := w) (base := base) B E_common_of
  have D_numbers_of := ok_numbers_of (P := P) (w := w) (base := base) B E_numbers_of
  have D_whole_of := ok_whole_of (P := P) (w := w) (base := base) B D_common_of D_numbers_of E_whole_of
  have D_part_of := ok_part_of (P := P) (w := w) (base := base) B E_part_of
  have D_constant_sheet := ok_constant_sheet (P := P) (w := w) (base := base) B E_constant_sheet
  have D_whole_degrees := ok_whole_degrees (P := P) (w := w) (base := base) B D_whole_of E_whole_degrees
  have D_mean_of := ok_mean_of (P := P) (w := w) (base := base) B D_whole_degrees D_part_of E_mean_of
  have D_degrees_of := ok_degrees_of (P := P) (w := w) (base := base) B D_whole_degrees D_part_of E_degrees_of
  have D_degree_square := ok_degree_square (P := P) (w := w) (base := base) B D_whole_degrees D_part_of E_degree_square
  have D_path_share := ok_path_share (P := P) (w := w) (base := base) B D_whole_of D_part_of E_path_share
  have D__law_own_bag := ok__law_own_bag (P := P) (w := w) (base := base) B E__law_own_bag
  have D__law_draw := ok__law_draw (P := P) (w := w) (base := base) B E__law_draw
  have D__law_pick := ok__law_pick (P := P) (w := w) (base := base) B D__law_draw E__law_pick
  have D__law_same := ok__law_same (P := P) (w := w) (base := base) B E__law_same 8
  have D__law_gcd := ok__law_gcd (P := P) (w := w) (base := base) B E__law_gcd
  have D__law_lowest := ok__law_lowest (P := P) (w := w) (base := base) B D__law_gcd E__law_lowest
  have D__law_under := ok__law_under (P := P) (w := w) (base := base) B D__law_gcd E__law_under
  have D__law_own_item := ok__law_own_item (P := P) (w := w) (base := base) B D__law_draw D__law_pick D__law_lowest E__law_own_item
  have D__law_own_weights := ok__law_own_weights (P := P) (w := w) (base := base) B D__law_draw D__law_lowest E__law_own_weights
  have D__law_own_table := ok__law_own_table (P := P) (w := w) (base := base) B D__law_own_item E__law_own_table
  have D__law_own_sheet := ok__law_own_sheet (P := P) (w := w) (base := base) B D__law_pick D__law_own_weights D__law_draw D__law_own_table E__law_own_sheet
  have D__law_plain := ok__law_plain (P := P) (w := w) (base := base) B D__law_under E__law_plain
  have D__law_sum := ok__law_sum (P := P) (w := w) (base := base) B E__law_sum
  have D__law_due := ok__law_due (P := P) (w := w) (base := base) B D__law_sum D__law_lowest E__law_due
  have D__law_paths := ok__law_paths (P := P) (w := w) (base := base) B D__law_lowest D__law_sum E__law_paths
  have D__law_are_told := ok__law_are_told (P := P) (w := w) (base := base) B D_degree_square D_degrees_of D_mean_of D__law_same E__law_are_told
  have D__law_are_paths_told := ok__law_are_paths_told (P := P) (w := w) (base := base) B D_path_share D__law_same E__law_are_paths_told
  have D__law_are_short_right := ok__law_are_short_right (P := P) (w := w) (base := base) B D_path_share D_degree_square D_mean_of D__law_same D__law_lowest E__law_are_short_right
  have D__law_is_constant_right := ok__law_is_constant_right (P := P) (w := w) (base := base) B D__law_draw D__law_own_weights D__law_pick D__law_own_item D_constant_sheet D__law_same D_path_share D__law_are_told E__law_is_constant_right
  have D__law_is_led_right := ok__law_is_led_right (P := P) (w := w) (base := base) B D__law_draw D__law_due D__law_plain D__law_paths D__law_are_told D__law_are_paths_told E__law_is_led_right
  have D__law_is_great_right := ok__law_is_great_right (P := P) (w := w) (base := base) B D__law_own_sheet D__law_pick D__law_plain D__law_draw D__law_are_told D__law_due D__law_are_paths_told D__law_paths E__law_is_great_right
  have D_law := ok_law (P := P) (w := w) (base := base) B D__law_own_bag D__law_draw D__law_is_great_right D__law_is_constant_right D__law_own_sheet D__law_pick D__law_plain D__law_due D__law_paths D__law_are_told D__law_are_paths_told D__law_are_short_right D__law_is_led_right E_law
  exact D_law
theorem all_mk {h : Heap} {fa : Addr} (X : K.In h) (G : h.Ns mainGlobals mg) (hfa : mg "law" = some (.ref fa)) (B : Bs mg) (E_common_of : At K mg "common_of" s_common_of) (E_numbers_of : At K mg "numbers_of" s_numbers_of) (E_whole_of : At K mg "whole_of" s_whole_of) (E_part_of : At K mg "part_of" s_part_of) (E_constant_sheet : At K mg "constant_sheet" s_constant_sheet) (E_whole_degrees : At K mg "whole_degrees" s_whole_degrees) (E_mean_of : At K mg "mean_of" s_mean_of) (E_degrees_of : At K mg "degrees_of" s_degrees_of) (E_degree_square : At K mg "degree_square" s_degree_square) (E_path_share : At K mg "path_share" s_path_share) (E__law_own_bag : At K mg "_law_own_bag" s__law_own_bag) (E__law_draw : At K mg "_law_draw" s__law_draw) (E__law_pick : At K mg "_law_pick" s__law_pick) (E__law_same : At K mg "_law_same" s__law_same) (E__law_gcd : At K mg "_law_gcd" s__law_gcd) (E__law_lowest : At K mg "_law_lowest" s__law_lowest) (E__law_under : At K mg "_law_under" s__law_under) (E__law_own_item : At K mg "_law_own_item" s__law_own_item) (E__law_own_weights : At K mg "_law_own_weights" s__law_own_weights) (E__law_own_table : At K mg "_law_own_table" s__law_own_table) (E__law_own_sheet : At K mg "_law_own_sheet" s__law_own_sheet) (E__law_plain : At K mg "_law_plain" s__law_plain) (E__law_sum : At K mg "_law_sum" s__law_sum) (E__law_due : At K mg "_law_due" s__law_due) (E__law_paths : At K mg "_law_paths" s__law_paths) (E__law_are_told : At K mg "_law_are_told" s__law_are_told) (E__law_are_paths_told : At K mg "_law_are_paths_told" s__law_are_paths_told) (E__law_are_short_right : At K mg "_law_are_short_right" s__law_are_short_right) (E__law_is_constant_right : At K mg "_law_is_constant_right" s__law_is_constant_right) (E__law_is_led_right : At K mg "_law_is_led_right" s__law_is_led_right) (E__law_is_great_right : At K mg "_law_is_great_right" s__law_is_great_right) (E_law : At K mg "law" s_law) :
    ∃ fd : FuncData, (∀ (s : Shared) (v : Value), BindsTo s fd ⟨[v], []⟩ [("script", v)]) ∧ ∀ base : Heap, K.In base → base.Ns mainGlobals mg → FnG P w K mg base 12 fa fd ["script"] (spF K F_law) :=
  end_mk X G hfa fun base _ _ => defs_all B E_common_of E_numbers_of E_whole_of E_part_of E_constant_sheet E_whole_degrees E_mean_of E_degrees_of E_degree_square E_path_share E__law_own_bag E__law_draw E__law_pick E__law_same E__law_gcd E__law_lowest E__law_under E__law_own_item E__law_own_weights E__law_own_table E__law_own_sheet E__law_plain E__law_sum E__law_due E__law_paths E__law_are_told E__law_are_paths_told E__law_are_short_right E__law_is_constant_right E__law_is_led_right E__law_is_great_right E_law
end
end Lw

end

/-! K14: the bag, what is alike, sums, common multiples -/
noncomputable section
namespace Lw
open PySem PySem.Spec PyProof.Rows L2 Fx
open Ms (Bd Fr low num lcmL Low)

theorem draw_is : F__law_draw = drawF := rfl
theorem pick_is : F__law_pick = pickF drawF := rfl
theorem draw {B : MD} (hB : BagOk B) {n : Int} (h1 : 0 < n) (h2 : n < 2 ^ 64) : ∃ v B', F__law_draw [B, .dat (.int n)] = some (.dat (.int v), [some B', none]) ∧ BagOk B' ∧ 0 ≤ v ∧ v < n := drawF_ok hB h1 h2
theorem drawN {B : MD} (hB : BagOk B) {n : Nat} (h1 : 0 < n) (h2 : n < 2 ^ 64) : ∃ (v : Nat) (B' : MD), F__law_draw [B, .dat (.int n)] = some (.dat (.int v), [some B', none]) ∧ BagOk B' ∧ v < n := by
  obtain ⟨v, B', e, hB', v0, vn⟩ := draw hB (n := n) (by omega) (by omega)
  obtain ⟨w, rfl⟩ := Int.eq_ofNat_of_zero_le v0
  exact ⟨w, B', e, hB', by omega⟩
theorem pick {B : MD} (hB : BagOk B) {ds : List PyData} (h0 : ds ≠ []) (hl : ds.length < 100) : ∃ d B', F__law_pick [B, .dat (.list ds)] = some (.dat d, [some B', none]) ∧ BagOk B' ∧ d ∈ ds :=
  pickF_ok (D := drawF) (fun B n h h1 h2 => drawF_ok h h1 h2) hB h0 (by omega)
theorem own_bag_ok (ns : List Int) (hl : ns.length ≤ 63) : ∃ B, F__law_own_bag [.scr ns] = some (B, [none]) ∧ BagOk B := by
  have hp : powOk 10 60 = true := by decide
  have e1 : loopL (gN 3) tYesF e1__law_own_bag [3] (ns.map .int) [] [some (.scr ns), none, none, none] = some ([] ++ ns.map (fun i => .int ((if i < 0 then -i else i) % 1000000000000000000000000000000000000000000000000000000000000)), [some (.scr ns), none, none, none]) :=
    loopL_map (by simp [sizeLine_eq]; omega) fun x _ => by simp [fnOf, fSeq, fNil, fSet, fRet, fDrop, fIf, fFgt, fgtO, fgt, fFor, fIfE, fT, fTru, truD, fAnd, fOr, fNot, fAndV, fOrV, fNotV, fOp2, fVar, fC, fB, fACons, fANil, fTup, fLst, fNeg, gRel, gInt2, gInt2C, gAdd, gMulX_int, gIx, gLen, gAbs, gInt, gEq, gIs, gIsNot, dv_dat, dv_lst, dv_al, dvs, own_dat, own_lst, own_bag, own_dcK, own_scr, flat_dat, flat_lst, Res.fin, frzs_nil, frzs_cons, frz_dat, intT_int, outs, als, argsOf, putArgs, fCall, eqv_int, shp_int, shp_none, shp_bool, noOwn, ownAt, sizeLine_eq, fIter, itemsOf, fRange1, fRange2, eqX_int, eqX_str, fEnumA, fFrz, fNever, permOk, perm, fCallK, fCallP, gMax2, gMin2, gMax3, gMin3, fPar2, fMulti, putM, fAsgG, fLc, lcStep, lsStep, tYesF, gN, gT, gsCons, gsNil, e1__law_own_bag, hp]
  obtain ⟨cs, ecs⟩ : ∃ cs : List Int, ns.map (fun i => PyData.int ((if i < 0 then -i else i) % 1000000000000000000000000000000000000000000000000000000000000)) = cs.map .int := ⟨ns.map fun i => (if i < 0 then -i else i) % 1000000000000000000000000000000000000000000000000000000000000, by simp⟩
  have lcs : cs.length ≤ 63 := by
    have := congrArg List.length ecs
    simp at this
    omega
  rw [ecs] at e1
  obtain ⟨e2, m0, m1⟩ := loopS_foldI (tg := gN 3) (b := b2__law_own_bag) (g := PyData.int) (st := fun m : Int => [some (.scr ns), some (.dat (.list (cs.map .int))), some (.dat (.int m)), none])
    (f := fun m x => (m * 48271 + x % 2147483629 + 7) % 2147483647) (fun m => 0 ≤ m ∧ m < 2147483647) cs (2468 + cs.length) ⟨by omega, by omega⟩ fun x _ m hm => by
      have h8 : mulOk m 48271 = true := mulOk_of (Nat.lt_of_lt_of_le (by omega) big64) (Nat.lt_of_lt_of_le (by decide) big64)
      exact ⟨by simp [fnOf, fSeq, fNil, fSet, fRet, fDrop, fIf, fFgt, fgtO, fgt, fFor, fIfE, fT, fTru, truD, fAnd, fOr, fNot, fAndV, fOrV, fNotV, fOp2, fVar, fC, fB, fACons, fANil, fTup, fLst, fNeg, gRel, gInt2, gInt2C, gAdd, gMulX_int, gIx, gLen, gAbs, gInt, gEq, gIs, gIsNot, dv_dat, dv_lst, dv_al, dvs, own_dat, own_lst, own_bag, own_dcK, own_scr, flat_dat, flat_lst, Res.fin, frzs_nil, frzs_cons, frz_dat, intT_int, outs, als, argsOf, putArgs, fCall, eqv_int, shp_int, shp_none, shp_bool, noOwn, ownAt, sizeLine_eq, fIter, itemsOf, fRange1, fRange2, eqX_int, eqX_str, fEnumA, fFrz, fNever, permOk, perm, fCallK, fCallP, gMax2, gMin2, gMax3, gMin3, fPar2, fMulti, putM, fAsgG, fLc, lcStep, lsStep, tYesF, gN, gT, gsCons, gsNil, b2__law_own_bag, h8], Int.emod_nonneg _ (by omega), Int.emod_lt_of_pos _ (by omega)⟩
  refine ⟨.bag cs.reverse 0 _, ?_, _, _, _, rfl, by simpa using lcs, m0, m1⟩
  have e3 : intsOf (cs.map PyData.int).reverse = some cs.reverse := by rw [← List.map_reverse]; exact intsOf_map _
  simp only [List.nil_append] at e1
  simp [fnOf, fSeq, fNil, fSet, fRet, fDrop, fIf, fFgt, fgtO, fgt, fFor, fIfE, fT, fTru, truD, fAnd, fOr, fNot, fAndV, fOrV, fNotV, fOp2, fVar, fC, fB, fACons, fANil, fTup, fLst, fNeg, gRel, gInt2, gInt2C, gAdd, gMulX_int, gIx, gLen, gAbs, gInt, gEq, gIs, gIsNot, dv_dat, dv_lst, dv_al, dvs, own_dat, own_lst, own_bag, own_dcK, own_scr, flat_dat, flat_lst, Res.fin, frzs_nil, frzs_cons, frz_dat, intT_int, outs, als, argsOf, putArgs, fCall, eqv_int, shp_int, shp_none, shp_bool, noOwn, ownAt, sizeLine_eq, fIter, itemsOf, fRange1, fRange2, eqX_int, eqX_str, fEnumA, fFrz, fNever, permOk, perm, fCallK, fCallP, gMax2, gMin2, gMax3, gMin3, fPar2, fMulti, putM, fAsgG, fLc, F__law_own_bag, fSlice, fONo, fOSo, dvS, gSl, cut63, hl, e1, e2, fMkBag, fListRev, gToL, e3]
theorem kit9 : kitB "NoneType" "bool" = some false := by decide
theorem kit10 : kitB "str" "bool" = some false := by decide
theorem kit11 : kitB "tuple" "bool" = some false := by decide
theorem kit12 : kitB "tuple" "int" = some false := by decide
theorem kit13 : kitB "tuple" "str" = some false := by decide
theorem kit14 : kitB "str" "int" = some false := by decide
theorem kit15 : kitB "NoneType" "int" = some false := by decide
theorem kit16 : kitB "bool" "int" = some true := by decide
theorem kit17 : kitB "bool" "bool" = some true := by decide
theorem kit18 : kitB "list" "int" = some false := by decide
theorem kit19 : kitB "list" "tuple" = some false := by decide
theorem kit20 : kitB "dict" "tuple" = some false := by decide
theorem kit21 : kitB "bool" "tuple" = some false := by decide
theorem same_ok : ∀ (n : Nat) (d : PyData), Plain n d → F__law_same n [.dat d, .dat d] = some (.dat (.bool true), [none, none])
  | 0, _, h => by cases h
  | n + 1, _, h => by
    cases h with
    | int _ i => simp [fnOf, fSeq, fNil, fSet, fRet, fDrop, fIf, fFgt, fgtO, fgt, fFor, fIfE, fT, fTru, truD, fAnd, fOr, fNot, fAndV, fOrV, fNotV, fOp2, fVar, fC, fB, fACons, fANil, fTup, fLst, fNeg, gRel, gInt2, gInt2C, gAdd, gMulX_int, gIx, gLen, gAbs, gInt, gEq, gIs, gIsNot, dv_dat, dv_lst, dv_al, dvs, own_dat, own_lst, own_bag, own_dcK, own_scr, flat_dat, flat_lst, Res.fin, frzs_nil, frzs_cons, frz_dat, intT_int, outs, als, argsOf, putArgs, fCall, eqv_int, shp_int, shp_none, shp_bool, noOwn, ownAt, sizeLine_eq, fIter, itemsOf, fRange1, fRange2, eqX_int, eqX_str, fEnumA, fFrz, fNever, permOk, perm, fCallK, fCallP, gMax2, gMin2, gMax3, gMin3, fPar2, fMulti, putM, fAsgG, fLc, F__law_same, fIsi, tyN, kit2, kit5, kit7, kit8, Fx.isNon]
    | str _ x h1 h2 h3 => simp [fnOf, fSeq, fNil, fSet, fRet, fDrop, fIf, fFgt, fgtO, fgt, fFor, fIfE, fT, fTru, truD, fAnd, fOr, fNot, fAndV, fOrV, fNotV, fOp2, fVar, fC, fB, fACons, fANil, fTup, fLst, fNeg, gRel, gInt2, gInt2C, gAdd, gMulX_int, gIx, gLen, gAbs, gInt, gEq, gIs, gIsNot, dv_dat, dv_lst, dv_al, dvs, own_dat, own_lst, own_bag, own_dcK, own_scr, flat_dat, flat_lst, Res.fin, frzs_nil, frzs_cons, frz_dat, intT_int, outs, als, argsOf, putArgs, fCall, eqv_int, shp_int, shp_none, shp_bool, noOwn, ownAt, sizeLine_eq, fIter, itemsOf, fRange1, fRange2, eqX_int, eqX_str, fEnumA, fFrz, fNever, permOk, perm, fCallK, fCallP, gMax2, gMin2, gMax3, gMin3, fPar2, fMulti, putM, fAsgG, fLc, F__law_same, fIsi, tyN, kit3, kit6, Fx.isNon]
    | non => simp [fnOf, fSeq, fNil, fSet, fRet, fDrop, fIf, fFgt, fgtO, fgt, fFor, fIfE, fT, fTru, truD, fAnd, fOr, fNot, fAndV, fOrV, fNotV, fOp2, fVar, fC, fB, fACons, fANil, fTup, fLst, fNeg, gRel, gInt2, gInt2C, gAdd, gMulX_int, gIx, gLen, gAbs, gInt, gEq, gIs, gIsNot, dv_dat, dv_lst, dv_al, dvs, own_dat, own_lst, own_bag, own_dcK, own_scr, flat_dat, flat_lst, Res.fin, frzs_nil, frzs_cons, frz_dat, intT_int, outs, als, argsOf, putArgs, fCall, eqv_int, shp_int, shp_none, shp_bool, noOwn, ownAt, sizeLine_eq, fIter, itemsOf, fRange1, fRange2, eqX_int, eqX_str, fEnumA, fFrz, fNever, permOk, perm, fCallK, fCallP, gMax2, gMin2, gMax3, gMin3, fPar2, fMulti, putM, fAsgG, fLc, F__law_same, fIsi, tyN, kit4, Fx.isNon]
    | tup _ ds h1 h2 =>
      have e1 : loopL (gT 2 (gsCons (gN 2) (gsCons (gN 3) gsNil))) tYesF (e1__law_same (F__law_same n)) [2, 3] (ds.map fun d => .tuple [d, d]) [] [some (.dat (.tuple ds)), some (.dat (.tuple ds)), none, none] = some ([] ++ ds.map (fun _ => PyData.bool true), [some (.dat (.tuple ds)), some (.dat (.tuple ds)), none, none]) :=
        loopL_map (by simpa using h1) fun x hx => by
          have := same_ok n x (h2 x hx)
          simp [fnOf, fSeq, fNil, fSet, fRet, fDrop, fIf, fFgt, fgtO, fgt, fFor, fIfE, fT, fTru, truD, fAnd, fOr, fNot, fAndV, fOrV, fNotV, fOp2, fVar, fC, fB, fACons, fANil, fTup, fLst, fNeg, gRel, gInt2, gInt2C, gAdd, gMulX_int, gIx, gLen, gAbs, gInt, gEq, gIs, gIsNot, dv_dat, dv_lst, dv_al, dvs, own_dat, own_lst, own_bag, own_dcK, own_scr, flat_dat, flat_lst, Res.fin, frzs_nil, frzs_cons, frz_dat, intT_int, outs, als, argsOf, putArgs, fCall, eqv_int, shp_int, shp_none, shp_bool, noOwn, ownAt, sizeLine_eq, fIter, itemsOf, fRange1, fRange2, eqX_int, eqX_str, fEnumA, fFrz, fNever, permOk, perm, fCallK, fCallP, gMax2, gMin2, gMax3, gMin3, fPar2, fMulti, putM, fAsgG, fLc, lcStep, lsStep, tYesF, gN, gT, gsCons, gsNil, e1__law_same, this]
      rw [List.nil_append] at e1
      simp [fnOf, fSeq, fNil, fSet, fRet, fDrop, fIf, fFgt, fgtO, fgt, fFor, fIfE, fT, fTru, truD, fAnd, fOr, fNot, fAndV, fOrV, fNotV, fOp2, fVar, fC, fB, fACons, fANil, fTup, fLst, fNeg, gRel, gInt2, gInt2C, gAdd, gMulX_int, gIx, gLen, gAbs, gInt, gEq, gIs, gIsNot, dv_dat, dv_lst, dv_al, dvs, own_dat, own_lst, own_bag, own_dcK, own_scr, flat_dat, flat_lst, Res.fin, frzs_nil, frzs_cons, frz_dat, intT_int, outs, als, argsOf, putArgs, fCall, eqv_int, shp_int, shp_none, shp_bool, noOwn, ownAt, sizeLine_eq, fIter, itemsOf, fRange1, fRange2, eqX_int, eqX_str, fEnumA, fFrz, fNever, permOk, perm, fCallK, fCallP, gMax2, gMin2, gMax3, gMin3, fPar2, fMulti, putM, fAsgG, fLc, F__law_same, fIsi, tyN, kit1, kit2, kit3, kit4, kit5, kit6, kit7, kit8, Fx.isNon, fListZip, zipD_self, e1, gAll_true]
theorem plain_up {n m : Nat} (h : n ≤ m) : ∀ {d : PyData}, Plain n d → Plain m d := by
  induction n generalizing m with
  | zero => intro d h; cases h
  | succ n ih =>
    intro d hd
    obtain ⟨m, rfl⟩ : ∃ k, m = k + 1 := ⟨m - 1, by omega⟩
    cases hd with
    | int => exact .int _ _
    | str _ x h1 h2 h3 => exact .str _ _ h1 h2 h3
    | non => exact .non _
    | tup _ ds h1 h2 => exact .tup _ _ h1 fun d hd => ih (by omega) (h2 d hd)
theorem same8 {n : Nat} {d : PyData} (h : Plain n d) (hn : n ≤ 8) : F__law_same 8 [.dat d, .dat d] = some (.dat (.bool true), [none, none]) := same_ok 8 d (plain_up hn h)
theorem same_int (i : Int) : F__law_same 8 [.dat (.int i), .dat (.int i)] = some (.dat (.bool true), [none, none]) := same8 (.int 0 i) (by decide)
theorem ints_plain (l : List Int) (h : l.length ≤ sizeLine) : Plain 2 (.tuple (l.map .int)) := .tup _ _ (by simpa using h) fun d hd => by
  obtain ⟨i, _, rfl⟩ := List.mem_map.mp hd
  exact .int _ _

/-! ### tables as data -/
abbrev rowD (l : List Int) : PyData := .tuple (l.map .int)
theorem fr_plain (q : Fr) : Plain 2 (frD q) := .tup _ _ (by simp [sizeLine_eq]) fun d hd => by
  simp only [List.mem_cons, List.not_mem_nil, or_false] at hd
  rcases hd with rfl | rfl <;> exact .int _ _
theorem frs_plain (l : List Fr) (h : l.length ≤ 1000) : Plain 3 (frsD l) := .tup _ _ (by simp [sizeLine_eq]; omega) fun d hd => by
  obtain ⟨q, _, rfl⟩ := List.mem_map.mp hd
  exact fr_plain q
theorem tbl_plain (l : List (List Fr)) (h : l.length ≤ 1000) (h2 : ∀ r ∈ l, r.length ≤ 1000) : Plain 4 (tblD l) := .tup _ _ (by simp [sizeLine_eq]; omega) fun d hd => by
  obtain ⟨q, hq, rfl⟩ := List.mem_map.mp hd
  exact frs_plain q (h2 q hq)
/-! ### common multiples, numbers -/
/-- a row with denominators below 2^b -/
def Dn (b : Nat) (l : List Fr) : Prop := ∀ q ∈ l, 0 < q.2 ∧ q.2 ≤ 2 ^ b
def den (l : List Fr) : List Nat := l.map (·.2)
theorem Dn.pos {b : Nat} {l : List Fr} (h : Dn b l) : 0 < lcmL (den l) := Ms.lcmL_pos fun d hd => by
  obtain ⟨q, hq, rfl⟩ := List.mem_map.mp hd
  exact (h q hq).1
theorem Dn.le {b : Nat} {l : List Fr} (h : Dn b l) : lcmL (den l) ≤ 2 ^ (b * l.length) := by
  have := Ms.lcmL_lt (b := b) (l := den l) fun d hd => by
    obtain ⟨q, hq, rfl⟩ := List.mem_map.mp hd
    exact h q hq
  rwa [show (den l).length = l.length by simp [den]] at this
theorem nat_bd {n a : Nat} (h : a ≤ 2 ^ n) : Bd (n + 1) (a : Int) := Bd.nat (by rw [Nat.pow_succ]; have := Nat.two_pow_pos n; omega)
theorem common_step {b : Nat} {L x : Nat} {s : Nat} (hs : 0 < s ∧ s ≤ 2 ^ b) (hx : 0 < x ∧ x ≤ 2 ^ b) (hb : b ≤ 4000) (p : PyData) (q : Fr) (hq : q.2 = x) :
    lsStep (gN 2) b1_common_of (frD q) [some (.dat p), some (.dat (.int s)), none] = some (.nx [some (.dat p), some (.dat (.int (Nat.lcm s x : Nat))), none]) := by
  subst hq
  have m := mulOk_bd (nat_bd hs.2) (nat_bd hx.2)
  have g0 : 0 < Nat.gcd s q.2 := Nat.gcd_pos_of_pos_left _ hs.1
  have gl : Nat.gcd s q.2 ≤ 2 ^ b := Nat.le_trans (Nat.gcd_le_left _ hs.1) hs.2
  have d : ∀ y : Int, divOk y (Nat.gcd s q.2 : Nat) = true := fun y => divOk_bd (by omega) (nat_bd gl)
  have e : ((Nat.lcm s q.2 : Nat) : Int) = (s : Int) * q.2 / (Nat.gcd s q.2 : Nat) := by
    rw [← Ms.lcm_step]; simp
  rw [e]
  have h1 : Nat.gcd (s : Int).natAbs (q.2 : Int).natAbs = Nat.gcd s q.2 := by simp
  have x1 : atI [PyData.int q.1, .int (q.2 : Nat)] 1 = some (.int (q.2 : Nat)) := rfl
  have g : gGcd [.int s, .int (q.2 : Nat)] = some (.val (.int (Nat.gcd s q.2 : Nat))) := by rw [gGcd, h1]
  generalize Nat.gcd s q.2 = gg at *
  simp [fnOf, fSeq, fNil, fSet, fRet, fDrop, fIf, fFgt, fgtO, fgt, fFor, fIfE, fT, fTru, truD, fAnd, fOr, fNot, fAndV, fOrV, fNotV, fOp2, fVar, fC, fB, fACons, fANil, fTup, fLst, fNeg, gRel, gInt2, gInt2C, gAdd, gMulX_int, gIx, gLen, gAbs, gInt, gEq, gIs, gIsNot, dv_dat, dv_lst, dv_al, dvs, own_dat, own_lst, own_bag, own_dcK, own_scr, flat_dat, flat_lst, Res.fin, frzs_nil, frzs_cons, frz_dat, intT_int, outs, als, argsOf, putArgs, fCall, eqv_int, shp_int, shp_none, shp_bool, noOwn, ownAt, sizeLine_eq, fIter, itemsOf, fRange1, fRange2, eqX_int, eqX_str, fEnumA, fFrz, fNever, permOk, perm, fCallK, fCallP, gMax2, gMin2, gMax3, gMin3, fPar2, fMulti, putM, fAsgG, fLc, lcStep, lsStep, tYesF, gN, gT, gsCons, gsNil, b1_common_of, frD, x1, m, g, d]
theorem common_loop {b : Nat} {l : List Fr} (hb2 : b ≤ 4000) (p : PyData) {L : Nat} (hL : 0 < L ∧ L ≤ 2 ^ b) (h : ∀ q ∈ l, 0 < q.2 ∧ q.2 ∣ L) : loopS (gN 2) b1_common_of (l.map frD) [some (.dat p), some (.dat (.int 1)), none] = some (.nx [some (.dat p), some (.dat (.int (lcmL (den l) : Nat))), none]) := by
  have key : ∀ (k : List Fr) (s : Nat), (∀ q ∈ k, q ∈ l) → 0 < s → s ∣ L → loopS (gN 2) b1_common_of (k.map frD) [some (.dat p), some (.dat (.int s)), none] = some (.nx [some (.dat p), some (.dat (.int ((den k).foldl Nat.lcm s : Nat))), none]) := by
    intro k
    induction k with
    | nil => intro s _ _ _; rfl
    | cons q k ih =>
      intro s hk h0 hd
      have hq := hk q List.mem_cons_self
      have hsl : s ≤ 2 ^ b := Nat.le_trans (Nat.le_of_dvd hL.1 hd) hL.2
      have hx : q.2 ≤ 2 ^ b := Nat.le_trans (Nat.le_of_dvd hL.1 (h q hq).2) hL.2
      have st := common_step (L := 0) ⟨h0, hsl⟩ ⟨(h q hq).1, hx⟩ hb2 p q rfl
      rw [List.map_cons, loopS_cons, st, Option.bind_some]
      dsimp only
      rw [ih _ (fun x hx => hk x (List.mem_cons_of_mem _ hx)) (Nat.lcm_pos h0 (h q hq).1) (Nat.lcm_dvd hd (h q hq).2)]
      rfl
  exact key l 1 (fun _ h => h) (by decide) (Nat.one_dvd _)
theorem common_ok {b : Nat} {l : List Fr} (hb2 : b ≤ 4000) {L : Nat} (hL : 0 < L ∧ L ≤ 2 ^ b) (h : ∀ q ∈ l, 0 < q.2 ∧ q.2 ∣ L) : F_common_of [.dat (frsD l)] = some (.dat (.int (lcmL (den l) : Nat)), [none]) ∧ F_common_of [.dat (.list (l.map frD))] = some (.dat (.int (lcmL (den l) : Nat)), [none]) := by
  have e1 := common_loop hb2 (frsD l) hL h
  have e2 := common_loop hb2 (.list (l.map frD)) hL h
  constructor
  · simp only [frsD] at e1 ⊢
    simp [fnOf, fSeq, fNil, fSet, fRet, fDrop, fIf, fFgt, fgtO, fgt, fFor, fIfE, fT, fTru, truD, fAnd, fOr, fNot, fAndV, fOrV, fNotV, fOp2, fVar, fC, fB, fACons, fANil, fTup, fLst, fNeg, gRel, gInt2, gInt2C, gAdd, gMulX_int, gIx, gLen, gAbs, gInt, gEq, gIs, gIsNot, dv_dat, dv_lst, dv_al, dvs, own_dat, own_lst, own_bag, own_dcK, own_scr, flat_dat, flat_lst, Res.fin, frzs_nil, frzs_cons, frz_dat, intT_int, outs, als, argsOf, putArgs, fCall, eqv_int, shp_int, shp_none, shp_bool, noOwn, ownAt, sizeLine_eq, fIter, itemsOf, fRange1, fRange2, eqX_int, eqX_str, fEnumA, fFrz, fNever, permOk, perm, fCallK, fCallP, gMax2, gMin2, gMax3, gMin3, fPar2, fMulti, putM, fAsgG, fLc, F_common_of, e1]
  · simp [fnOf, fSeq, fNil, fSet, fRet, fDrop, fIf, fFgt, fgtO, fgt, fFor, fIfE, fT, fTru, truD, fAnd, fOr, fNot, fAndV, fOrV, fNotV, fOp2, fVar, fC, fB, fACons, fANil, fTup, fLst, fNeg, gRel, gInt2, gInt2C, gAdd, gMulX_int, gIx, gLen, gAbs, gInt, gEq, gIs, gIsNot, dv_dat, dv_lst, dv_al, dvs, own_dat, own_lst, own_bag, own_dcK, own_scr, flat_dat, flat_lst, Res.fin, frzs_nil, frzs_cons, frz_dat, intT_int, outs, als, argsOf, putArgs, fCall, eqv_int, shp_int, shp_none, shp_bool, noOwn, ownAt, sizeLine_eq, fIter, itemsOf, fRange1, fRange2, eqX_int, eqX_str, fEnumA, fFrz, fNever, permOk, perm, fCallK, fCallP, gMax2, gMin2, gMax3, gMin3, fPar2, fMulti, putM, fAsgG, fLc, F_common_of, e2]
/-- items that lie between -1 and 1 -/
def Un (l : List Fr) : Prop := ∀ q ∈ l, q.1.natAbs ≤ q.2
theorem num_bd {c b : Nat} {q : Fr} (h1 : q.1.natAbs ≤ q.2) (hd : q.2 ∣ c) (hc : c ≤ 2 ^ b) : Bd (b + 1) (num c q) := by
  have : (num c q).natAbs ≤ c := by
    unfold num
    rw [Int.natAbs_mul, Int.natAbs_natCast]
    obtain ⟨k, rfl⟩ := hd
    by_cases h0 : q.2 = 0
    · rw [h0] at h1 ⊢; simp at h1 ⊢; 
    · rw [Nat.mul_div_cancel_left _ (by omega)]
      exact Nat.mul_le_mul_right _ h1
  exact (nat_bd hc).of_le (by simpa using this)
theorem numbers_ok {b : Nat} {l : List Fr} {c : Nat} (h1 : Un l) (h0 : ∀ q ∈ l, 0 < q.2 ∧ q.2 ∣ c) (hc : 0 < c ∧ c ≤ 2 ^ b) (hb : b ≤ 4000) (hl : l.length ≤ 1000) : F_numbers_of [.dat (frsD l), .dat (.int c)] = some (.dat (.list ((l.map (num c)).map .int)), [none, none]) := by
  have e1 := loopL_map (acc := []) (g := frD) (f := fun q : Fr => PyData.int (num c q)) (l := l) (tg := gN 2) (tt := tYesF) (fe := e1_numbers_of) (own := [2]) (Γ := [some (.dat (frsD l)), some (.dat (.int c)), none]) (by simp [sizeLine_eq]; omega) fun q hq => by
    have hqc : q.2 ≤ 2 ^ b := Nat.le_trans (Nat.le_of_dvd hc.1 (h0 q hq).2) hc.2
    have d : divOk (c : Int) (q.2 : Nat) = true := divOk_bd (by have := (h0 q hq).1; omega) (nat_bd hqc)
    have x0 : atI [PyData.int q.1, .int (q.2 : Nat)] 0 = some (.int q.1) := rfl
    have x1 : atI [PyData.int q.1, .int (q.2 : Nat)] 1 = some (.int (q.2 : Nat)) := rfl
    have m : mulOk q.1 ((c : Int) / (q.2 : Nat)) = true := mulOk_bd ((nat_bd hqc).of_le (by simpa using h1 q hq)) ((nat_bd hc.2).div)
    simp [fnOf, fSeq, fNil, fSet, fRet, fDrop, fIf, fFgt, fgtO, fgt, fFor, fIfE, fT, fTru, truD, fAnd, fOr, fNot, fAndV, fOrV, fNotV, fOp2, fVar, fC, fB, fACons, fANil, fTup, fLst, fNeg, gRel, gInt2, gInt2C, gAdd, gMulX_int, gIx, gLen, gAbs, gInt, gEq, gIs, gIsNot, dv_dat, dv_lst, dv_al, dvs, own_dat, own_lst, own_bag, own_dcK, own_scr, flat_dat, flat_lst, Res.fin, frzs_nil, frzs_cons, frz_dat, intT_int, outs, als, argsOf, putArgs, fCall, eqv_int, shp_int, shp_none, shp_bool, noOwn, ownAt, sizeLine_eq, fIter, itemsOf, fRange1, fRange2, eqX_int, eqX_str, fEnumA, fFrz, fNever, permOk, perm, fCallK, fCallP, gMax2, gMin2, gMax3, gMin3, fPar2, fMulti, putM, fAsgG, fLc, lcStep, lsStep, tYesF, gN, gT, gsCons, gsNil, e1_numbers_of, frD, x0, x1, d, m, num]
  simp only [List.nil_append] at e1
  simp only [frsD] at e1 ⊢
  rw [List.map_map]
  simp only [Function.comp_def]
  generalize l.map frD = ds at *
  simp [fnOf, fSeq, fNil, fSet, fRet, fDrop, fIf, fFgt, fgtO, fgt, fFor, fIfE, fT, fTru, truD, fAnd, fOr, fNot, fAndV, fOrV, fNotV, fOp2, fVar, fC, fB, fACons, fANil, fTup, fLst, fNeg, gRel, gInt2, gInt2C, gAdd, gMulX_int, gIx, gLen, gAbs, gInt, gEq, gIs, gIsNot, dv_dat, dv_lst, dv_al, dvs, own_dat, own_lst, own_bag, own_dcK, own_scr, flat_dat, flat_lst, Res.fin, frzs_nil, frzs_cons, frz_dat, intT_int, outs, als, argsOf, putArgs, fCall, eqv_int, shp_int, shp_none, shp_bool, noOwn, ownAt, sizeLine_eq, fIter, itemsOf, fRange1, fRange2, eqX_int, eqX_str, fEnumA, fFrz, fNever, permOk, perm, fCallK, fCallP, gMax2, gMin2, gMax3, gMin3, fPar2, fMulti, putM, fAsgG, fLc, F_numbers_of, e1]
end Lw

end

/-! K14b: sheets as whole numbers, parts, degrees -/
noncomputable section
namespace Lw
open PySem PySem.Spec PyProof.Rows L2 Fx
open Ms (Bd Fr low num lcmL Low)

abbrev intL (l : List Int) : PyData := .list (l.map .int)
def byW (W : List Fr) : Nat := lcmL (den W)
def unT (T : List (List Fr)) : Nat := lcmL (den T.flatten)
def wN (W : List Fr) : List Int := W.map (num (byW W))
def tN (T : List (List Fr)) : List (List Int) := T.map fun r => r.map (num (unT T))
/-- a sheet's form -/
structure Sh (m : Nat) (W : List Fr) (T : List (List Fr)) : Prop where
  m1 : 1 ≤ m
  m8 : m ≤ 8
  lw : W.length = m
  lt : T.length = m
  lr : ∀ r ∈ T, r.length = m
  dw : Dn 7 W
  uw : Un W
  dp : ∀ r ∈ T, ∀ q ∈ r, 0 < q.2
  un_le : unT T ≤ 2 ^ 300
  ut : ∀ r ∈ T, Un r
section
variable {m : Nat} {W : List Fr} {T : List (List Fr)}
theorem flat_len {T : List (List Fr)} (h : ∀ r ∈ T, r.length = m) : T.flatten.length = T.length * m := by
  induction T with
  | nil => simp
  | cons r T ih =>
    rw [List.flatten_cons, List.length_append, h r List.mem_cons_self, ih fun r hr => h r (List.mem_cons_of_mem _ hr), List.length_cons, Nat.succ_mul]; omega
theorem Sh.by_pos (h : Sh m W T) : 0 < byW W := h.dw.pos
theorem Sh.by_le (h : Sh m W T) : byW W ≤ 2 ^ 56 := Nat.le_trans h.dw.le (Nat.pow_le_pow_right (by decide) (by rw [h.lw]; have := h.m8; omega))
theorem Sh.un_pos (h : Sh m W T) : 0 < unT T := Ms.lcmL_pos fun d hd => by
  obtain ⟨q, hq, rfl⟩ := List.mem_map.mp hd
  obtain ⟨r, hr, hq⟩ := List.mem_flatten.mp hq
  exact h.dp r hr q hq
theorem un_crude {T : List (List Fr)} {b : Nat} (h : ∀ r ∈ T, Dn b r) (hl : b * T.flatten.length ≤ 300) : unT T ≤ 2 ^ 300 := by
  have : Dn b T.flatten := fun q hq => by
    obtain ⟨r, hr, hq⟩ := List.mem_flatten.mp hq
    exact h r hr q hq
  exact Nat.le_trans this.le (Nat.pow_le_pow_right (by decide) hl)
theorem Sh.wdvd (h : Sh m W T) : ∀ q ∈ W, 0 < q.2 ∧ q.2 ∣ byW W := fun q hq => ⟨(h.dw q hq).1, Ms.dvd_lcmL (List.mem_map.mpr ⟨q, hq, rfl⟩)⟩
theorem Sh.tdvd (h : Sh m W T) : ∀ r ∈ T, ∀ q ∈ r, 0 < q.2 ∧ q.2 ∣ unT T := fun r hr q hq => by
  exact ⟨h.dp r hr q hq, Ms.dvd_lcmL (List.mem_map.mpr ⟨q, List.mem_flatten.mpr ⟨r, hr, hq⟩, rfl⟩)⟩
theorem Sh.wbd (h : Sh m W T) : ∀ x ∈ wN W, Bd 57 x := fun x hx => by
  obtain ⟨q, hq, rfl⟩ := List.mem_map.mp hx
  exact num_bd (h.uw q hq) (h.wdvd q hq).2 h.by_le
theorem Sh.tbd (h : Sh m W T) : ∀ r ∈ tN T, ∀ x ∈ r, Bd 301 x := fun r hr x hx => by
  obtain ⟨r, hr', rfl⟩ := List.mem_map.mp hr
  obtain ⟨q, hq, rfl⟩ := List.mem_map.mp hx
  exact num_bd (h.ut r hr' q hq) (h.tdvd r hr' q hq).2 h.un_le
theorem Sh.wlen (h : Sh m W T) : (wN W).length = m := by simp [wN, h.lw]
theorem Sh.tlen (h : Sh m W T) : (tN T).length = m := by simp [tN, h.lt]
theorem Sh.trlen (h : Sh m W T) : ∀ r ∈ tN T, r.length = m := fun r hr => by
  obtain ⟨r, hr', rfl⟩ := List.mem_map.mp hr
  simpa using h.lr r hr'
end
theorem part_ok {n : Nat} {a : Int} {b : Nat} (hb : 0 < b) (h : Bd n b) (hn : n < 9000) : F_part_of [.dat (.int a), .dat (.int (b : Nat))] = some (.dat (frD (low a b)), [none, none]) := by
  have g : gGcd [.int a, .int (b : Nat)] = some (.val (.int (Nat.gcd a.natAbs b : Nat))) := by simp [gGcd]
  have g0 := Ms.gcd_pos' (a := a.natAbs) hb
  have gl : Nat.gcd a.natAbs b ≤ b := Nat.gcd_le_right _ hb
  have d : ∀ y : Int, divOk y (Nat.gcd a.natAbs b : Nat) = true := fun y => divOk_bd (by omega) (h.of_le (by simpa using gl)) hn
  have e : ((b / Nat.gcd a.natAbs b : Nat) : Int) = (b : Int) / (Nat.gcd a.natAbs b : Nat) := by simp
  simp only [frD, low, e]
  generalize Nat.gcd a.natAbs b = gg at *
  simp [fnOf, fSeq, fNil, fSet, fRet, fDrop, fIf, fFgt, fgtO, fgt, fFor, fIfE, fT, fTru, truD, fAnd, fOr, fNot, fAndV, fOrV, fNotV, fOp2, fVar, fC, fB, fACons, fANil, fTup, fLst, fNeg, gRel, gInt2, gInt2C, gAdd, gMulX_int, gIx, gLen, gAbs, gInt, gEq, gIs, gIsNot, dv_dat, dv_lst, dv_al, dvs, own_dat, own_lst, own_bag, own_dcK, own_scr, flat_dat, flat_lst, Res.fin, frzs_nil, frzs_cons, frz_dat, intT_int, outs, als, argsOf, putArgs, fCall, eqv_int, shp_int, shp_none, shp_bool, noOwn, ownAt, sizeLine_eq, fIter, itemsOf, fRange1, fRange2, eqX_int, eqX_str, fEnumA, fFrz, fNever, permOk, perm, fCallK, fCallP, gMax2, gMin2, gMax3, gMin3, fPar2, fMulti, putM, fAsgG, fLc, F_part_of, g, d]
/-- a sheet as whole numbers -/
def whD (W : List Fr) (T : List (List Fr)) : PyData := .tuple [intL (wN W), .list ((tN T).map intL), .int (byW W : Nat), .int (unT T : Nat)]
section
variable {m : Nat} {W : List Fr} {T : List (List Fr)}
theorem whole_ok (h : Sh m W T) : F_whole_of [.dat (shtD W T)] = some (.dat (whD W T), [none]) := by
  have h8 := h.m8
  have hW := (common_ok (b := 56) (by omega) ⟨h.by_pos, h.by_le⟩ h.wdvd).1
  have hT := (common_ok (b := 300) (l := T.flatten) (by omega) ⟨h.un_pos, h.un_le⟩ fun q hq => by
    obtain ⟨r, hr, hq⟩ := List.mem_flatten.mp hq
    exact h.tdvd r hr q hq).2
  have fl : T.flatten.length ≤ 64 := by
    rw [flat_len h.lr, h.lt]
    exact Nat.mul_le_mul h8 h8
  have e1 := fun (a c d : Option MD) => loopM_map (N := 64) (acc := []) (g := frsD) (f := fun r : List Fr => r.map frD) (l := T) (tg := gN 5) (tt := tYesF) (fi1 := i1_whole_of) (tg1 := gN 6) (tt1 := tYesF) (fe := e2_whole_of) (own := [5, 6]) (own1 := [6]) (Γ := [a, c, some (.dat (tblD T)), d, none, none, none]) (by rw [← List.map_flatten, List.length_map, List.length_nil]; omega) fun r hr acc hacc => by
    have e2 := loopL_map (acc := acc) (g := frD) (f := frD) (l := r) (tg := gN 6) (tt := tYesF) (fe := e2_whole_of) (own := [6]) (Γ := [a, c, some (.dat (tblD T)), d, none, some (.dat (frsD r)), none]) (by rw [sizeLine_eq]; rw [List.length_map] at hacc; omega) fun q hq => by
      simp only [frD]
      simp [fnOf, fSeq, fNil, fSet, fRet, fDrop, fIf, fFgt, fgtO, fgt, fFor, fIfE, fT, fTru, truD, fAnd, fOr, fNot, fAndV, fOrV, fNotV, fOp2, fVar, fC, fB, fACons, fANil, fTup, fLst, fNeg, gRel, gInt2, gInt2C, gAdd, gMulX_int, gIx, gLen, gAbs, gInt, gEq, gIs, gIsNot, dv_dat, dv_lst, dv_al, dvs, own_dat, own_lst, own_bag, own_dcK, own_scr, flat_dat, flat_lst, Res.fin, frzs_nil, frzs_cons, frz_dat, intT_int, outs, als, argsOf, putArgs, fCall, eqv_int, shp_int, shp_none, shp_bool, noOwn, ownAt, sizeLine_eq, fIter, itemsOf, fRange1, fRange2, eqX_int, eqX_str, fEnumA, fFrz, fNever, permOk, perm, fCallK, fCallP, gMax2, gMin2, gMax3, gMin3, fPar2, fMulti, putM, fAsgG, fLc, lcStep, lsStep, tYesF, gN, gT, gsCons, gsNil, e2_whole_of]
    simp only [frsD] at e2 ⊢
    generalize r.map frD = z at *
    simp [fnOf, fSeq, fNil, fSet, fRet, fDrop, fIf, fFgt, fgtO, fgt, fFor, fIfE, fT, fTru, truD, fAnd, fOr, fNot, fAndV, fOrV, fNotV, fOp2, fVar, fC, fB, fACons, fANil, fTup, fLst, fNeg, gRel, gInt2, gInt2C, gAdd, gMulX_int, gIx, gLen, gAbs, gInt, gEq, gIs, gIsNot, dv_dat, dv_lst, dv_al, dvs, own_dat, own_lst, own_bag, own_dcK, own_scr, flat_dat, flat_lst, Res.fin, frzs_nil, frzs_cons, frz_dat, intT_int, outs, als, argsOf, putArgs, fCall, eqv_int, shp_int, shp_none, shp_bool, noOwn, ownAt, sizeLine_eq, fIter, itemsOf, fRange1, fRange2, eqX_int, eqX_str, fEnumA, fFrz, fNever, permOk, perm, fCallK, fCallP, gMax2, gMin2, gMax3, gMin3, fPar2, fMulti, putM, fAsgG, fLc, lcStep, lsStep, tYesF, gN, gT, gsCons, gsNil, lmStep, i1_whole_of, e2]
  simp only [← List.map_flatten, List.nil_append] at e1
  have n1 := numbers_ok (b := 56) h.uw h.wdvd ⟨h.by_pos, h.by_le⟩ (by omega) (by rw [h.lw]; omega)
  have e3 := fun (a c d e : Option MD) => loopL_map (acc := []) (g := frsD) (f := fun r : List Fr => intL (r.map (num (unT T)))) (l := T) (tg := gN 5) (tt := tYesF) (fe := e3_whole_of) (own := [5]) (Γ := [a, c, d, e, some (.dat (.int (unT T : Nat))), none, none]) (by rw [sizeLine_eq, h.lt]; simp; omega) fun r hr => by
    have n2 := numbers_ok (b := 300) (h.ut r hr) (h.tdvd r hr) ⟨h.un_pos, h.un_le⟩ (by omega) (by rw [h.lr r hr]; omega)
    simp only [intL]
    generalize ((r.map (num (unT T))).map PyData.int) = z at *
    simp only [frsD] at n2 ⊢
    generalize r.map frD = y at *
    simp [fnOf, fSeq, fNil, fSet, fRet, fDrop, fIf, fFgt, fgtO, fgt, fFor, fIfE, fT, fTru, truD, fAnd, fOr, fNot, fAndV, fOrV, fNotV, fOp2, fVar, fC, fB, fACons, fANil, fTup, fLst, fNeg, gRel, gInt2, gInt2C, gAdd, gMulX_int, gIx, gLen, gAbs, gInt, gEq, gIs, gIsNot, dv_dat, dv_lst, dv_al, dvs, own_dat, own_lst, own_bag, own_dcK, own_scr, flat_dat, flat_lst, Res.fin, frzs_nil, frzs_cons, frz_dat, intT_int, outs, als, argsOf, putArgs, fCall, eqv_int, shp_int, shp_none, shp_bool, noOwn, ownAt, sizeLine_eq, fIter, itemsOf, fRange1, fRange2, eqX_int, eqX_str, fEnumA, fFrz, fNever, permOk, perm, fCallK, fCallP, gMax2, gMin2, gMax3, gMin3, fPar2, fMulti, putM, fAsgG, fLc, lcStep, lsStep, tYesF, gN, gT, gsCons, gsNil, e3_whole_of, n2]
  have et : (tN T).map intL = T.map fun r => intL (r.map (num (unT T))) := by simp [tN]
  simp only [List.nil_append] at e3
  rw [← et] at e3
  simp only [whD, shtD]
  have hby : byW W = lcmL (den W) := rfl
  have hun : unT T = lcmL (den T.flatten) := rfl
  rw [← hby] at hW
  rw [← hun] at hT
  have hw : wN W = W.map (num (byW W)) := rfl
  rw [← hw] at n1
  generalize (tN T).map intL = tt at *
  generalize (byW W : Int) = bb at *
  generalize (unT T : Int) = uu at *
  simp only [intL]
  generalize (wN W).map PyData.int = ww at *
  generalize T.flatten.map frD = ff at *
  simp only [tblD] at *
  generalize T.map frsD = td at *
  generalize frsD W = wd at *
  simp [fnOf, fSeq, fNil, fSet, fRet, fDrop, fIf, fFgt, fgtO, fgt, fFor, fIfE, fT, fTru, truD, fAnd, fOr, fNot, fAndV, fOrV, fNotV, fOp2, fVar, fC, fB, fACons, fANil, fTup, fLst, fNeg, gRel, gInt2, gInt2C, gAdd, gMulX_int, gIx, gLen, gAbs, gInt, gEq, gIs, gIsNot, dv_dat, dv_lst, dv_al, dvs, own_dat, own_lst, own_bag, own_dcK, own_scr, flat_dat, flat_lst, Res.fin, frzs_nil, frzs_cons, frz_dat, intT_int, outs, als, argsOf, putArgs, fCall, eqv_int, shp_int, shp_none, shp_bool, noOwn, ownAt, sizeLine_eq, fIter, itemsOf, fRange1, fRange2, eqX_int, eqX_str, fEnumA, fFrz, fNever, permOk, perm, fCallK, fCallP, gMax2, gMin2, gMax3, gMin3, fPar2, fMulti, putM, fAsgG, fLc, F_whole_of, gTA, gsCons, gsNil, gN, fLc2, hW, hT, e1, n1, e3]
end
end Lw

end

set_option exponentiation.threshold 20000
/-! K14c: means, degrees, squares, paths as the program reckons them -/
noncomputable section
namespace Lw
open PySem PySem.Spec PyProof.Rows L2 Fx
open Ms (Bd Fr low num lcmL Low)

def dot (x y : List Int) : Int := (List.zipWith (· * ·) x y).sum
theorem zipWith_zip (x y : List Int) : List.zipWith (· * ·) x y = (x.zip y).map fun p => p.1 * p.2 := (Fx.zip_sum x y (· * ·)).symm
theorem zip_mul {n k : Nat} {x y : List Int} (hx : ∀ a ∈ x, Bd n a) (hy : ∀ b ∈ y, Bd k b) (hl : x.length ≤ 1000) {tg : FG} {fe : FE} {own : List Nat} {Γ : Gm}
    (h : ∀ a b, mulOk a b = true → lcStep tg tYesF fe own (.tuple [.int a, .int b]) Γ = some (some (.int (a * b)), Γ)) (hn : n + k < 1000000 := by omega) :
    loopL tg tYesF fe own (zipD (x.map .int) (y.map .int)) [] Γ = some ((List.zipWith (· * ·) x y).map .int, Γ) := by
  have e := loopL_map (acc := []) (g := fun p : Int × Int => PyData.tuple [.int p.1, .int p.2]) (f := fun p => PyData.int (p.1 * p.2)) (l := x.zip y) (tg := tg) (tt := tYesF) (fe := fe) (own := own) (Γ := Γ) (by rw [sizeLine_eq, List.length_zip]; simp; omega) fun p hp => h p.1 p.2 (mulOk_bd (hx _ (List.of_mem_zip hp).1) (hy _ (List.of_mem_zip hp).2) hn)
  rw [zipD_ints, e, zipWith_zip, List.map_map, List.nil_append]
  rfl
theorem zipWith_mem {x y : List Int} {z : Int} (h : z ∈ List.zipWith (· * ·) x y) : ∃ a ∈ x, ∃ b ∈ y, z = a * b := by
  rw [zipWith_zip] at h
  obtain ⟨p, hp, rfl⟩ := List.mem_map.mp h
  exact ⟨p.1, (List.of_mem_zip hp).1, p.2, (List.of_mem_zip hp).2, rfl⟩
theorem zw_bd {n k : Nat} {x y : List Int} (hx : ∀ a ∈ x, Bd n a) (hy : ∀ b ∈ y, Bd k b) : ∀ z ∈ List.zipWith (· * ·) x y, Bd (n + k) z := fun z hz => by
  obtain ⟨a, ha, b, hb, rfl⟩ := zipWith_mem hz
  exact (hx a ha).mul (hy b hb)
theorem dot_bd {n k : Nat} {x y : List Int} (hx : ∀ a ∈ x, Bd n a) (hy : ∀ b ∈ y, Bd k b) (hl : x.length ≤ 8) : Bd (n + k + 4) (dot x y) :=
  Bd.sum (zw_bd hx hy) (by rw [List.length_zipWith]; show _ < 16; omega)
def dgs (W : List Fr) (T : List (List Fr)) : List Int := (tN T).map (dot (wN W))
def mnN (W : List Fr) (T : List (List Fr)) : Int := dot (wN W) (dgs W T)
section
variable {m : Nat} {W : List Fr} {T : List (List Fr)}
theorem Sh.dlen (h : Sh m W T) : (dgs W T).length = m := by simp [dgs, h.tlen]
theorem Sh.dbd (h : Sh m W T) : ∀ x ∈ dgs W T, Bd 362 x := fun x hx => by
  obtain ⟨r, hr, rfl⟩ := List.mem_map.mp hx
  exact dot_bd h.wbd (h.tbd r hr) (by rw [h.wlen]; exact h.m8)
theorem Sh.mbd (h : Sh m W T) : Bd 423 (mnN W T) := dot_bd h.wbd h.dbd (by rw [h.wlen]; exact h.m8)
theorem Sh.byB (h : Sh m W T) : Bd 57 (byW W : Nat) := nat_bd h.by_le
theorem Sh.unB (h : Sh m W T) : Bd 301 (unT T : Nat) := nat_bd h.un_le
def wdD (W : List Fr) (T : List (List Fr)) : PyData := .tuple [intL (wN W), intL (dgs W T), .int (byW W : Nat), .int ((byW W * unT T : Nat) : Int)]
theorem wdeg_ok (h : Sh m W T) : F_whole_degrees [.dat (shtD W T)] = some (.dat (wdD W T), [none]) := by
  have h8 := h.m8
  have e0 := whole_ok h
  have mk := mulOk_bd h.byB h.unB
  have e1 := fun (a b d : Option MD) => loopL_map (acc := []) (g := intL) (f := fun r : List Int => PyData.int (dot (wN W) r)) (l := tN T) (tg := gN 5) (tt := tYesF) (fe := e2_whole_degrees) (own := [5]) (Γ := [a, some (.dat (intL (wN W))), b, d, some (.dat (.int (unT T : Nat))), none, none, none]) (by rw [sizeLine_eq, h.tlen]; simp; omega) fun r hr => by
    have e2 := zip_mul h.wbd (h.tbd r hr) (by rw [h.wlen]; omega) (tg := gT 2 (gsCons (gN 6) (gsCons (gN 7) gsNil))) (fe := e1_whole_degrees) (own := [6, 7]) (Γ := [a, some (.dat (intL (wN W))), b, d, some (.dat (.int (unT T : Nat))), some (.dat (intL r)), none, none]) fun x y hxy => by simp [fnOf, fSeq, fNil, fSet, fRet, fDrop, fIf, fFgt, fgtO, fgt, fFor, fIfE, fT, fTru, truD, fAnd, fOr, fNot, fAndV, fOrV, fNotV, fOp2, fVar, fC, fB, fACons, fANil, fTup, fLst, fNeg, gRel, gInt2, gInt2C, gAdd, gMulX_int, gIx, gLen, gAbs, gInt, gEq, gIs, gIsNot, dv_dat, dv_lst, dv_al, dvs, own_dat, own_lst, own_bag, own_dcK, own_scr, flat_dat, flat_lst, Res.fin, frzs_nil, frzs_cons, frz_dat, intT_int, outs, als, argsOf, putArgs, fCall, eqv_int, shp_int, shp_none, shp_bool, noOwn, ownAt, sizeLine_eq, fIter, itemsOf, fRange1, fRange2, eqX_int, eqX_str, fEnumA, fFrz, fNever, permOk, perm, fCallK, fCallP, gMax2, gMin2, gMax3, gMin3, fPar2, fMulti, putM, fAsgG, fLc, lcStep, lsStep, tYesF, gN, gT, gsCons, gsNil, e1_whole_degrees, hxy]
    have e3 := gSumA_list (List.zipWith (· * ·) (wN W) r)
    have e4 : (List.zipWith (· * ·) (wN W) r).sum = dot (wN W) r := rfl
    rw [e4] at e3
    generalize dot (wN W) r = z at *
    generalize (List.zipWith (· * ·) (wN W) r).map PyData.int = zz at *
    simp only [intL] at e2 ⊢
    generalize (wN W).map PyData.int = ww at *
    generalize r.map PyData.int = rr at *
    simp [fnOf, fSeq, fNil, fSet, fRet, fDrop, fIf, fFgt, fgtO, fgt, fFor, fIfE, fT, fTru, truD, fAnd, fOr, fNot, fAndV, fOrV, fNotV, fOp2, fVar, fC, fB, fACons, fANil, fTup, fLst, fNeg, gRel, gInt2, gInt2C, gAdd, gMulX_int, gIx, gLen, gAbs, gInt, gEq, gIs, gIsNot, dv_dat, dv_lst, dv_al, dvs, own_dat, own_lst, own_bag, own_dcK, own_scr, flat_dat, flat_lst, Res.fin, frzs_nil, frzs_cons, frz_dat, intT_int, outs, als, argsOf, putArgs, fCall, eqv_int, shp_int, shp_none, shp_bool, noOwn, ownAt, sizeLine_eq, fIter, itemsOf, fRange1, fRange2, eqX_int, eqX_str, fEnumA, fFrz, fNever, permOk, perm, fCallK, fCallP, gMax2, gMin2, gMax3, gMin3, fPar2, fMulti, putM, fAsgG, fLc, lcStep, lsStep, tYesF, gN, gT, gsCons, gsNil, e2_whole_degrees, fZip, e2, e3]
  have ed : (dgs W T).map PyData.int = (tN T).map fun r => PyData.int (dot (wN W) r) := by simp [dgs]
  simp only [List.nil_append] at e1
  rw [← ed] at e1
  have ep : ((byW W * unT T : Nat) : Int) = (byW W : Int) * unT T := by simp
  simp only [wdD, whD, intL, ep] at *
  generalize (byW W : Int) = bb at *
  generalize (unT T : Int) = uu at *
  generalize (wN W).map PyData.int = ww at *
  generalize (dgs W T).map PyData.int = dd at *
  generalize (tN T).map (fun l => PyData.list (l.map PyData.int)) = tt at *
  simp [fnOf, fSeq, fNil, fSet, fRet, fDrop, fIf, fFgt, fgtO, fgt, fFor, fIfE, fT, fTru, truD, fAnd, fOr, fNot, fAndV, fOrV, fNotV, fOp2, fVar, fC, fB, fACons, fANil, fTup, fLst, fNeg, gRel, gInt2, gInt2C, gAdd, gMulX_int, gIx, gLen, gAbs, gInt, gEq, gIs, gIsNot, dv_dat, dv_lst, dv_al, dvs, own_dat, own_lst, own_bag, own_dcK, own_scr, flat_dat, flat_lst, Res.fin, frzs_nil, frzs_cons, frz_dat, intT_int, outs, als, argsOf, putArgs, fCall, eqv_int, shp_int, shp_none, shp_bool, noOwn, ownAt, sizeLine_eq, fIter, itemsOf, fRange1, fRange2, eqX_int, eqX_str, fEnumA, fFrz, fNever, permOk, perm, fCallK, fCallP, gMax2, gMin2, gMax3, gMin3, fPar2, fMulti, putM, fAsgG, fLc, F_whole_degrees, gTA, gsCons, gsNil, gN, e0, e1, mk]
theorem Sh.bu_pos (h : Sh m W T) : 0 < byW W * unT T := Nat.mul_pos h.by_pos h.un_pos
theorem Sh.buB (h : Sh m W T) : Bd 358 ((byW W * unT T : Nat) : Int) := by
  have := h.byB.mul h.unB
  simpa using this
theorem mean_ok (h : Sh m W T) : F_mean_of [.dat (shtD W T)] = some (.dat (frD (low (mnN W T) (byW W * (byW W * unT T)))), [none]) := by
  have h8 := h.m8
  have e0 := wdeg_ok h
  have mk := mulOk_bd h.byB h.buB
  have p := part_ok (n := 415) (a := mnN W T) (b := byW W * (byW W * unT T)) (Nat.mul_pos h.by_pos h.bu_pos) (by have := h.byB.mul h.buB; simpa using this) (by omega)
  have e2 := fun (a c d : Option MD) => zip_mul h.wbd h.dbd (by rw [h.wlen]; omega) (tg := gT 2 (gsCons (gN 5) (gsCons (gN 6) gsNil))) (fe := e1_mean_of) (own := [5, 6]) (Γ := [a, some (.dat (intL (wN W))), some (.dat (intL (dgs W T))), c, d, none, none]) fun x y hxy => by simp [fnOf, fSeq, fNil, fSet, fRet, fDrop, fIf, fFgt, fgtO, fgt, fFor, fIfE, fT, fTru, truD, fAnd, fOr, fNot, fAndV, fOrV, fNotV, fOp2, fVar, fC, fB, fACons, fANil, fTup, fLst, fNeg, gRel, gInt2, gInt2C, gAdd, gMulX_int, gIx, gLen, gAbs, gInt, gEq, gIs, gIsNot, dv_dat, dv_lst, dv_al, dvs, own_dat, own_lst, own_bag, own_dcK, own_scr, flat_dat, flat_lst, Res.fin, frzs_nil, frzs_cons, frz_dat, intT_int, outs, als, argsOf, putArgs, fCall, eqv_int, shp_int, shp_none, shp_bool, noOwn, ownAt, sizeLine_eq, fIter, itemsOf, fRange1, fRange2, eqX_int, eqX_str, fEnumA, fFrz, fNever, permOk, perm, fCallK, fCallP, gMax2, gMin2, gMax3, gMin3, fPar2, fMulti, putM, fAsgG, fLc, lcStep, lsStep, tYesF, gN, gT, gsCons, gsNil, e1_mean_of, hxy]
  have e3 := gSumA_list (List.zipWith (· * ·) (wN W) (dgs W T))
  have e4 : (List.zipWith (· * ·) (wN W) (dgs W T)).sum = mnN W T := rfl
  rw [e4] at e3
  have ep : ((byW W * (byW W * unT T) : Nat) : Int) = (byW W : Int) * (byW W * unT T : Nat) := by simp
  rw [ep] at p
  generalize mnN W T = mm at *
  generalize frD (low mm (byW W * (byW W * unT T))) = r at *
  simp only [wdD, intL] at *
  generalize ((byW W * unT T : Nat) : Int) = bu at *
  generalize (byW W : Int) = bb at *
  generalize (List.zipWith (· * ·) (wN W) (dgs W T)).map PyData.int = zz at *
  generalize (wN W).map PyData.int = ww at *
  generalize (dgs W T).map PyData.int = dd at *
  simp [fnOf, fSeq, fNil, fSet, fRet, fDrop, fIf, fFgt, fgtO, fgt, fFor, fIfE, fT, fTru, truD, fAnd, fOr, fNot, fAndV, fOrV, fNotV, fOp2, fVar, fC, fB, fACons, fANil, fTup, fLst, fNeg, gRel, gInt2, gInt2C, gAdd, gMulX_int, gIx, gLen, gAbs, gInt, gEq, gIs, gIsNot, dv_dat, dv_lst, dv_al, dvs, own_dat, own_lst, own_bag, own_dcK, own_scr, flat_dat, flat_lst, Res.fin, frzs_nil, frzs_cons, frz_dat, intT_int, outs, als, argsOf, putArgs, fCall, eqv_int, shp_int, shp_none, shp_bool, noOwn, ownAt, sizeLine_eq, fIter, itemsOf, fRange1, fRange2, eqX_int, eqX_str, fEnumA, fFrz, fNever, permOk, perm, fCallK, fCallP, gMax2, gMin2, gMax3, gMin3, fPar2, fMulti, putM, fAsgG, fLc, F_mean_of, gTA, gsCons, gsNil, gN, e0, fZip, e2, e3, mk, p]
def dgF (W : List Fr) (T : List (List Fr)) : List Fr := (dgs W T).map fun d => low d (byW W * unT T)
theorem degrees_ok (h : Sh m W T) : F_degrees_of [.dat (shtD W T)] = some (.dat (frsD (dgF W T)), [none]) := by
  have h8 := h.m8
  have e0 := wdeg_ok h
  have e1 := fun (a b c d : Option MD) => loopL_map (acc := []) (g := PyData.int) (f := fun d : Int => frD (low d (byW W * unT T))) (l := dgs W T) (tg := gN 5) (tt := tYesF) (fe := e1_degrees_of) (own := [5]) (Γ := [a, b, c, d, some (.dat (.int ((byW W * unT T : Nat) : Int))), none]) (by rw [sizeLine_eq, h.dlen]; simp; omega) fun d hd => by
    have p := part_ok (n := 358) (a := d) h.bu_pos h.buB (by omega)
    generalize frD (low d (byW W * unT T)) = r at *
    generalize ((byW W * unT T : Nat) : Int) = bu at *
    simp [fnOf, fSeq, fNil, fSet, fRet, fDrop, fIf, fFgt, fgtO, fgt, fFor, fIfE, fT, fTru, truD, fAnd, fOr, fNot, fAndV, fOrV, fNotV, fOp2, fVar, fC, fB, fACons, fANil, fTup, fLst, fNeg, gRel, gInt2, gInt2C, gAdd, gMulX_int, gIx, gLen, gAbs, gInt, gEq, gIs, gIsNot, dv_dat, dv_lst, dv_al, dvs, own_dat, own_lst, own_bag, own_dcK, own_scr, flat_dat, flat_lst, Res.fin, frzs_nil, frzs_cons, frz_dat, intT_int, outs, als, argsOf, putArgs, fCall, eqv_int, shp_int, shp_none, shp_bool, noOwn, ownAt, sizeLine_eq, fIter, itemsOf, fRange1, fRange2, eqX_int, eqX_str, fEnumA, fFrz, fNever, permOk, perm, fCallK, fCallP, gMax2, gMin2, gMax3, gMin3, fPar2, fMulti, putM, fAsgG, fLc, lcStep, lsStep, tYesF, gN, gT, gsCons, gsNil, e1_degrees_of, p]
  have ed : (dgF W T).map frD = (dgs W T).map fun d => frD (low d (byW W * unT T)) := by simp [dgF]
  simp only [List.nil_append] at e1
  rw [← ed] at e1
  simp only [wdD, intL, frsD] at *
  generalize ((byW W * unT T : Nat) : Int) = bu at *
  generalize (byW W : Int) = bb at *
  generalize (dgF W T).map frD = ff at *
  generalize (wN W).map PyData.int = ww at *
  generalize (dgs W T).map PyData.int = dd at *
  simp [fnOf, fSeq, fNil, fSet, fRet, fDrop, fIf, fFgt, fgtO, fgt, fFor, fIfE, fT, fTru, truD, fAnd, fOr, fNot, fAndV, fOrV, fNotV, fOp2, fVar, fC, fB, fACons, fANil, fTup, fLst, fNeg, gRel, gInt2, gInt2C, gAdd, gMulX_int, gIx, gLen, gAbs, gInt, gEq, gIs, gIsNot, dv_dat, dv_lst, dv_al, dvs, own_dat, own_lst, own_bag, own_dcK, own_scr, flat_dat, flat_lst, Res.fin, frzs_nil, frzs_cons, frz_dat, intT_int, outs, als, argsOf, putArgs, fCall, eqv_int, shp_int, shp_none, shp_bool, noOwn, ownAt, sizeLine_eq, fIter, itemsOf, fRange1, fRange2, eqX_int, eqX_str, fEnumA, fFrz, fNever, permOk, perm, fCallK, fCallP, gMax2, gMin2, gMax3, gMin3, fPar2, fMulti, putM, fAsgG, fLc, F_degrees_of, gTA, gsCons, gsNil, gN, e0, e1, gToT]
/-- the square that degrees go off the mean -/
def sqN (W : List Fr) (T : List (List Fr)) : Int := (List.zipWith (fun w d => w * (d * byW W - mnN W T) * (d * byW W - mnN W T)) (wN W) (dgs W T)).sum
theorem foldl_sum (l : List (Int × Int)) (f : Int → Int → Int) : ∀ s : Int, l.foldl (fun s p => s + f p.1 p.2) s = s + (l.map fun p => f p.1 p.2).sum := by
  induction l with
  | nil => intro s; simp
  | cons p l ih => intro s; rw [List.foldl_cons, ih, List.map_cons, List.sum_cons]; omega
theorem square_ok (h : Sh m W T) : F_degree_square [.dat (shtD W T)] = some (.dat (frD (low (sqN W T) (byW W * byW W * byW W * (byW W * unT T) * (byW W * unT T)))), [none]) := by
  have h8 := h.m8
  have e0 := wdeg_ok h
  have b1 := h.byB
  have b2 := h.buB
  have b3 := b1.mul b1
  have b4 := b3.mul b1
  have b5 := b4.mul b2
  have b6 := b5.mul b2
  have k1 := mulOk_bd b1 b1
  have k2 := mulOk_bd b3 b1
  have k3 := mulOk_bd b4 b2
  have k4 := mulOk_bd b5 b2
  have p := part_ok (n := 887) (a := sqN W T) (b := byW W * byW W * byW W * (byW W * unT T) * (byW W * unT T)) (Nat.mul_pos (Nat.mul_pos (Nat.mul_pos (Nat.mul_pos h.by_pos h.by_pos) h.by_pos) h.bu_pos) h.bu_pos) (by simpa using b6) (by omega)
  have e2 := fun (a c d : Option MD) => zip_mul h.wbd h.dbd (by rw [h.wlen]; omega) (tg := gT 2 (gsCons (gN 7) (gsCons (gN 8) gsNil))) (fe := e1_degree_square) (own := [7, 8]) (Γ := [a, some (.dat (intL (wN W))), some (.dat (intL (dgs W T))), c, d, none, none, none, none, none]) fun x y hxy => by simp [fnOf, fSeq, fNil, fSet, fRet, fDrop, fIf, fFgt, fgtO, fgt, fFor, fIfE, fT, fTru, truD, fAnd, fOr, fNot, fAndV, fOrV, fNotV, fOp2, fVar, fC, fB, fACons, fANil, fTup, fLst, fNeg, gRel, gInt2, gInt2C, gAdd, gMulX_int, gIx, gLen, gAbs, gInt, gEq, gIs, gIsNot, dv_dat, dv_lst, dv_al, dvs, own_dat, own_lst, own_bag, own_dcK, own_scr, flat_dat, flat_lst, Res.fin, frzs_nil, frzs_cons, frz_dat, intT_int, outs, als, argsOf, putArgs, fCall, eqv_int, shp_int, shp_none, shp_bool, noOwn, ownAt, sizeLine_eq, fIter, itemsOf, fRange1, fRange2, eqX_int, eqX_str, fEnumA, fFrz, fNever, permOk, perm, fCallK, fCallP, gMax2, gMin2, gMax3, gMin3, fPar2, fMulti, putM, fAsgG, fLc, lcStep, lsStep, tYesF, gN, gT, gsCons, gsNil, e1_degree_square, hxy]
  have e3 := gSumA_list (List.zipWith (· * ·) (wN W) (dgs W T))
  have e4 : (List.zipWith (· * ·) (wN W) (dgs W T)).sum = mnN W T := rfl
  rw [e4] at e3
  have e5 := fun (a b c d : Option MD) => loopS_foldI (tg := gT 2 (gsCons (gN 7) (gsCons (gN 8) gsNil))) (b := b2_degree_square) (g := fun p : Int × Int => PyData.tuple [.int p.1, .int p.2]) (st := fun s : Int => [a, b, c, some (.dat (.int (byW W : Nat))), d, some (.dat (.int (mnN W T))), some (.dat (.int s)), none, none, none])
    (f := fun s p => s + p.1 * (p.2 * byW W - mnN W T) * (p.2 * byW W - mnN W T)) (fun _ => True) ((wN W).zip (dgs W T)) 0 trivial fun q hq s _ => ⟨by
      have q1 := h.wbd _ (List.of_mem_zip hq).1
      have q2 := h.dbd _ (List.of_mem_zip hq).2
      have r1 := mulOk_bd q2 b1
      have q3 : Bd 424 (q.2 * byW W - mnN W T) := ((q2.mul b1).mono (by omega)).sub h.mbd
      have r2 := mulOk_bd q1 q3
      have r3 := mulOk_bd (q1.mul q3) q3
      generalize (byW W : Int) = bb at *
      generalize mnN W T = mm at *
      simp [fnOf, fSeq, fNil, fSet, fRet, fDrop, fIf, fFgt, fgtO, fgt, fFor, fIfE, fT, fTru, truD, fAnd, fOr, fNot, fAndV, fOrV, fNotV, fOp2, fVar, fC, fB, fACons, fANil, fTup, fLst, fNeg, gRel, gInt2, gInt2C, gAdd, gMulX_int, gIx, gLen, gAbs, gInt, gEq, gIs, gIsNot, dv_dat, dv_lst, dv_al, dvs, own_dat, own_lst, own_bag, own_dcK, own_scr, flat_dat, flat_lst, Res.fin, frzs_nil, frzs_cons, frz_dat, intT_int, outs, als, argsOf, putArgs, fCall, eqv_int, shp_int, shp_none, shp_bool, noOwn, ownAt, sizeLine_eq, fIter, itemsOf, fRange1, fRange2, eqX_int, eqX_str, fEnumA, fFrz, fNever, permOk, perm, fCallK, fCallP, gMax2, gMin2, gMax3, gMin3, fPar2, fMulti, putM, fAsgG, fLc, lcStep, lsStep, tYesF, gN, gT, gsCons, gsNil, b2_degree_square, r1, r2, r3], trivial⟩
  have e6 := fun (a b c d : Option MD) => (e5 a b c d).1
  rw [foldl_sum _ fun w d => w * (d * byW W - mnN W T) * (d * byW W - mnN W T)] at e6
  rw [Fx.zip_sum _ _ fun w d => w * (d * byW W - mnN W T) * (d * byW W - mnN W T), ← zipD_ints, Int.zero_add] at e6
  have e7 : (List.zipWith (fun w d => w * (d * byW W - mnN W T) * (d * byW W - mnN W T)) (wN W) (dgs W T)).sum = sqN W T := rfl
  rw [e7] at e6
  have ep : ((byW W * byW W * byW W * (byW W * unT T) * (byW W * unT T) : Nat) : Int) = (byW W : Int) * byW W * byW W * (byW W * unT T : Nat) * (byW W * unT T : Nat) := by simp
  rw [ep] at p
  generalize frD (low (sqN W T) (byW W * byW W * byW W * (byW W * unT T) * (byW W * unT T))) = r at *
  generalize sqN W T = ss at *
  clear e5 e7 ep e4
  generalize mnN W T = mm at *
  simp only [wdD, intL] at *
  generalize ((byW W * unT T : Nat) : Int) = bu at *
  generalize (byW W : Int) = bb at *
  generalize (List.zipWith (· * ·) (wN W) (dgs W T)).map PyData.int = zz at *
  generalize (wN W).map PyData.int = ww at *
  generalize (dgs W T).map PyData.int = dd at *
  simp [fnOf, fSeq, fNil, fSet, fRet, fDrop, fIf, fFgt, fgtO, fgt, fFor, fIfE, fT, fTru, truD, fAnd, fOr, fNot, fAndV, fOrV, fNotV, fOp2, fVar, fC, fB, fACons, fANil, fTup, fLst, fNeg, gRel, gInt2, gInt2C, gAdd, gMulX_int, gIx, gLen, gAbs, gInt, gEq, gIs, gIsNot, dv_dat, dv_lst, dv_al, dvs, own_dat, own_lst, own_bag, own_dcK, own_scr, flat_dat, flat_lst, Res.fin, frzs_nil, frzs_cons, frz_dat, intT_int, outs, als, argsOf, putArgs, fCall, eqv_int, shp_int, shp_none, shp_bool, noOwn, ownAt, sizeLine_eq, fIter, itemsOf, fRange1, fRange2, eqX_int, eqX_str, fEnumA, fFrz, fNever, permOk, perm, fCallK, fCallP, gMax2, gMin2, gMax3, gMin3, fPar2, fMulti, putM, fAsgG, fLc, F_degree_square, gTA, gsCons, gsNil, gN, e0, fZip, e2, e3, e6, k1, k2, k3, k4, p]
end
end Lw

end

/-! K14d: paths as the program reckons them; the law's own lowest terms and sums -/
noncomputable section
namespace Lw
open PySem PySem.Spec PyProof.Rows L2 Fx
open Ms (Bd Fr low num lcmL Low)

def nxM (w : List Int) (t : List (List Int)) (v : List Int) : List Int := t.map fun r => dot r (List.zipWith (· * ·) w v)
def mdN (w : List Int) (t : List (List Int)) (m : Nat) : Nat → List Int
  | 0 => List.replicate m 1
  | k + 1 => nxM w t (mdN w t m k)
theorem pow_bd {n : Nat} {x : Int} (h : Bd n x) (h1 : 1 ≤ n) (k : Nat) : Bd (n * k + 1) (x ^ k) := h.pow h1
section
variable {m : Nat} {W : List Fr} {T : List (List Fr)}
def mds (W : List Fr) (T : List (List Fr)) (k : Nat) : List Int := mdN (wN W) (tN T) W.length k
theorem Sh.mlen (h : Sh m W T) (k : Nat) : (Lw.mds W T k).length = m := by
  cases k with
  | zero => simp [Lw.mds, mdN, h.lw]
  | succ k => simp [Lw.mds, mdN, nxM, h.tlen]
theorem Sh.mdB (h : Sh m W T) : ∀ k, ∀ x ∈ Lw.mds W T k, Bd (1 + 362 * k) x
  | 0, x, hx => by
    have : x = 1 := List.eq_of_mem_replicate hx
    rw [this]; exact Bd.one 0
  | k + 1, x, hx => by
    obtain ⟨r, hr, rfl⟩ := List.mem_map.mp hx
    have := dot_bd (h.tbd r hr) (zw_bd h.wbd (h.mdB k)) (by rw [h.trlen r hr]; exact h.m8)
    exact this.mono (by omega)
theorem mds_succ (k : Nat) : Lw.mds W T (k + 1) = nxM (wN W) (tN T) (Lw.mds W T k) := rfl
/-- what many paths have, over what -/
def ptN (W : List Fr) (T : List (List Fr)) (k : Nat) : Int := dot (wN W) (Lw.mds W T k)
def ptU (W : List Fr) (T : List (List Fr)) (k : Nat) : Nat := (byW W * unT T) ^ k
theorem Sh.puB (h : Sh m W T) (k : Nat) : Bd (358 * k + 1) ((ptU W T k : Nat) : Int) := by
  have := pow_bd h.buB (by omega) k
  simpa [ptU] using this
theorem path_turn (h : Sh m W T) {k : Nat} (hk : k ≤ 20) (a b : Option MD) (j : Int) :
    lsStep (gN 8) b4_path_share (.int j) [a, b, some (.dat (intL (wN W))), some (.dat (.list ((tN T).map intL))), some (.dat (.int (byW W : Nat))), some (.dat (.int (unT T : Nat))), some (.dat (intL (Lw.mds W T k))), some (.dat (.int (ptU W T k : Nat))), none, none, none, none, none, none] =
      some (.nx [a, b, some (.dat (intL (wN W))), some (.dat (.list ((tN T).map intL))), some (.dat (.int (byW W : Nat))), some (.dat (.int (unT T : Nat))), some (.dat (intL (Lw.mds W T (k + 1)))), some (.dat (.int (ptU W T (k + 1) : Nat))), none, none, none, none, none, none]) := by
  have h8 := h.m8
  have k1 := mulOk_bd (h.puB k) h.byB
  have k2 := mulOk_bd ((h.puB k).mul h.byB) h.unB
  have e1 := fun (c d e f g j' : Option MD) => zip_mul h.wbd (h.mdB k) (by rw [h.wlen]; omega) (tg := gT 2 (gsCons (gN 10) (gsCons (gN 11) gsNil))) (fe := e1_path_share) (own := [10, 11]) (Γ := [a, b, c, d, e, f, g, j', some (.dat (.int j)), none, none, none, none, none]) fun x y hxy => by simp [fnOf, fSeq, fNil, fSet, fRet, fDrop, fIf, fFgt, fgtO, fgt, fFor, fIfE, fT, fTru, truD, fAnd, fOr, fNot, fAndV, fOrV, fNotV, fOp2, fVar, fC, fB, fACons, fANil, fTup, fLst, fNeg, gRel, gInt2, gInt2C, gAdd, gMulX_int, gIx, gLen, gAbs, gInt, gEq, gIs, gIsNot, dv_dat, dv_lst, dv_al, dvs, own_dat, own_lst, own_bag, own_dcK, own_scr, flat_dat, flat_lst, Res.fin, frzs_nil, frzs_cons, frz_dat, intT_int, outs, als, argsOf, putArgs, fCall, eqv_int, shp_int, shp_none, shp_bool, noOwn, ownAt, sizeLine_eq, fIter, itemsOf, fRange1, fRange2, eqX_int, eqX_str, fEnumA, fFrz, fNever, permOk, perm, fCallK, fCallP, gMax2, gMin2, gMax3, gMin3, fPar2, fMulti, putM, fAsgG, fLc, lcStep, lsStep, tYesF, gN, gT, gsCons, gsNil, e1_path_share, hxy]
  have hq := zw_bd h.wbd (h.mdB k)
  have e2 := fun (c d e f g j' : Option MD) => loopL_map (acc := []) (g := intL) (f := fun r : List Int => PyData.int (dot r (List.zipWith (· * ·) (wN W) (Lw.mds W T k)))) (l := tN T) (tg := gN 12) (tt := tYesF) (fe := e3_path_share) (own := [12]) (Γ := [a, b, c, d, e, f, g, j', some (.dat (.int j)), some (.dat (intL (List.zipWith (· * ·) (wN W) (Lw.mds W T k)))), none, none, none, none]) (by rw [sizeLine_eq, h.tlen]; simp; omega) fun r hr => by
    have e3 := zip_mul (h.tbd r hr) hq (by rw [h.trlen r hr]; omega) (tg := gT 2 (gsCons (gN 11) (gsCons (gN 13) gsNil))) (fe := e2_path_share) (own := [11, 13]) (Γ := [a, b, c, d, e, f, g, j', some (.dat (.int j)), some (.dat (intL (List.zipWith (· * ·) (wN W) (Lw.mds W T k)))), none, none, some (.dat (intL r)), none]) fun x y hxy => by simp [fnOf, fSeq, fNil, fSet, fRet, fDrop, fIf, fFgt, fgtO, fgt, fFor, fIfE, fT, fTru, truD, fAnd, fOr, fNot, fAndV, fOrV, fNotV, fOp2, fVar, fC, fB, fACons, fANil, fTup, fLst, fNeg, gRel, gInt2, gInt2C, gAdd, gMulX_int, gIx, gLen, gAbs, gInt, gEq, gIs, gIsNot, dv_dat, dv_lst, dv_al, dvs, own_dat, own_lst, own_bag, own_dcK, own_scr, flat_dat, flat_lst, Res.fin, frzs_nil, frzs_cons, frz_dat, intT_int, outs, als, argsOf, putArgs, fCall, eqv_int, shp_int, shp_none, shp_bool, noOwn, ownAt, sizeLine_eq, fIter, itemsOf, fRange1, fRange2, eqX_int, eqX_str, fEnumA, fFrz, fNever, permOk, perm, fCallK, fCallP, gMax2, gMin2, gMax3, gMin3, fPar2, fMulti, putM, fAsgG, fLc, lcStep, lsStep, tYesF, gN, gT, gsCons, gsNil, e2_path_share, hxy]
    have e4 := gSumA_list (List.zipWith (· * ·) r (List.zipWith (· * ·) (wN W) (Lw.mds W T k)))
    have e5 : (List.zipWith (· * ·) r (List.zipWith (· * ·) (wN W) (Lw.mds W T k))).sum = dot r (List.zipWith (· * ·) (wN W) (Lw.mds W T k)) := rfl
    rw [e5] at e4
    generalize dot r (List.zipWith (· * ·) (wN W) (Lw.mds W T k)) = z at *
    simp only [intL] at *
    generalize (List.zipWith (· * ·) r (List.zipWith (· * ·) (wN W) (Lw.mds W T k))).map PyData.int = zz at *
    generalize (List.zipWith (· * ·) (wN W) (Lw.mds W T k)).map PyData.int = ww at *
    generalize r.map PyData.int = rr at *
    simp [fnOf, fSeq, fNil, fSet, fRet, fDrop, fIf, fFgt, fgtO, fgt, fFor, fIfE, fT, fTru, truD, fAnd, fOr, fNot, fAndV, fOrV, fNotV, fOp2, fVar, fC, fB, fACons, fANil, fTup, fLst, fNeg, gRel, gInt2, gInt2C, gAdd, gMulX_int, gIx, gLen, gAbs, gInt, gEq, gIs, gIsNot, dv_dat, dv_lst, dv_al, dvs, own_dat, own_lst, own_bag, own_dcK, own_scr, flat_dat, flat_lst, Res.fin, frzs_nil, frzs_cons, frz_dat, intT_int, outs, als, argsOf, putArgs, fCall, eqv_int, shp_int, shp_none, shp_bool, noOwn, ownAt, sizeLine_eq, fIter, itemsOf, fRange1, fRange2, eqX_int, eqX_str, fEnumA, fFrz, fNever, permOk, perm, fCallK, fCallP, gMax2, gMin2, gMax3, gMin3, fPar2, fMulti, putM, fAsgG, fLc, lcStep, lsStep, tYesF, gN, gT, gsCons, gsNil, e3_path_share, fZip, e3, e4]
  have ed : (Lw.mds W T (k + 1)).map PyData.int = (tN T).map fun r => PyData.int (dot r (List.zipWith (· * ·) (wN W) (Lw.mds W T k))) := by simp [mds_succ, nxM]
  simp only [List.nil_append] at e2
  rw [← ed] at e2
  have ep : ((ptU W T (k + 1) : Nat) : Int) = (ptU W T k : Nat) * (byW W : Nat) * (unT T : Nat) := by
    rw [ptU, ptU, Nat.pow_succ]; simp [Int.mul_assoc]
  rw [ep]
  generalize ((ptU W T k : Nat) : Int) = pu at *
  generalize (byW W : Int) = bb at *
  generalize (unT T : Int) = uu at *
  simp only [intL] at *
  generalize (Lw.mds W T (k + 1)).map PyData.int = m1 at *
  generalize (List.zipWith (· * ·) (wN W) (Lw.mds W T k)).map PyData.int = zz at *
  generalize (Lw.mds W T k).map PyData.int = m0 at *
  generalize (wN W).map PyData.int = ww at *
  generalize (tN T).map (fun l => PyData.list (l.map PyData.int)) = tt at *
  simp [fnOf, fSeq, fNil, fSet, fRet, fDrop, fIf, fFgt, fgtO, fgt, fFor, fIfE, fT, fTru, truD, fAnd, fOr, fNot, fAndV, fOrV, fNotV, fOp2, fVar, fC, fB, fACons, fANil, fTup, fLst, fNeg, gRel, gInt2, gInt2C, gAdd, gMulX_int, gIx, gLen, gAbs, gInt, gEq, gIs, gIsNot, dv_dat, dv_lst, dv_al, dvs, own_dat, own_lst, own_bag, own_dcK, own_scr, flat_dat, flat_lst, Res.fin, frzs_nil, frzs_cons, frz_dat, intT_int, outs, als, argsOf, putArgs, fCall, eqv_int, shp_int, shp_none, shp_bool, noOwn, ownAt, sizeLine_eq, fIter, itemsOf, fRange1, fRange2, eqX_int, eqX_str, fEnumA, fFrz, fNever, permOk, perm, fCallK, fCallP, gMax2, gMin2, gMax3, gMin3, fPar2, fMulti, putM, fAsgG, fLc, lcStep, lsStep, tYesF, gN, gT, gsCons, gsNil, b4_path_share, fZip, e1, e2, k1, k2]
theorem path_ok (h : Sh m W T) {k : Nat} (hk : k < 20) : F_path_share [.dat (shtD W T), .dat (.int ((k + 1 : Nat) : Int))] = some (.dat (frD (low (ptN W T k) (ptU W T k * byW W))), [none, none]) := by
  have h8 := h.m8
  have e0 := whole_ok h
  have key : ∀ (a b : Option MD) (j : Nat), j ≤ 20 → ∀ (l : List Nat), j + l.length ≤ 20 → loopS (gN 8) b4_path_share (l.map fun (x : Nat) => PyData.int x) [a, b, some (.dat (intL (wN W))), some (.dat (.list ((tN T).map intL))), some (.dat (.int (byW W : Nat))), some (.dat (.int (unT T : Nat))), some (.dat (intL (Lw.mds W T j))), some (.dat (.int (ptU W T j : Nat))), none, none, none, none, none, none] =
      some (.nx [a, b, some (.dat (intL (wN W))), some (.dat (.list ((tN T).map intL))), some (.dat (.int (byW W : Nat))), some (.dat (.int (unT T : Nat))), some (.dat (intL (Lw.mds W T (j + l.length)))), some (.dat (.int (ptU W T (j + l.length) : Nat))), none, none, none, none, none, none]) := by
    intro a b j hj l
    induction l generalizing j with
    | nil => intro _; rfl
    | cons x l ih =>
      intro hl
      rw [List.length_cons] at hl
      rw [List.map_cons, loopS_cons, path_turn h hj, Option.bind_some]
      dsimp only
      rw [ih (j + 1) (by omega) (by omega), List.length_cons, show j + 1 + l.length = j + (l.length + 1) by omega]
  have e1 := fun a b => key a b 0 (by omega) (List.range k) (by simp; omega)
  simp only [List.length_range, Nat.zero_add] at e1
  have r1 := rg1_nat (p := k) (by omega)
  have mk := mulOk_bd (h.puB k) h.byB
  have p := part_ok (n := 7219) (a := ptN W T k) (b := ptU W T k * byW W) (Nat.mul_pos (Nat.pow_pos h.bu_pos) h.by_pos) (by
    have := (h.puB k).mul h.byB
    have := this.mono (m := 7219) (by omega)
    simpa using this) (by omega)
  have ep : ((ptU W T k * byW W : Nat) : Int) = (ptU W T k : Nat) * (byW W : Nat) := by simp
  rw [ep] at p
  have e2 := fun (a b c d e f g : Option MD) => zip_mul h.wbd (h.mdB k) (by rw [h.wlen]; omega) (tg := gT 2 (gsCons (gN 10) (gsCons (gN 11) gsNil))) (fe := e5_path_share) (own := [10, 11]) (Γ := [a, b, c, d, e, f, some (.dat (intL (Lw.mds W T k))), g, none, none, none, none, none, none]) fun x y hxy => by simp [fnOf, fSeq, fNil, fSet, fRet, fDrop, fIf, fFgt, fgtO, fgt, fFor, fIfE, fT, fTru, truD, fAnd, fOr, fNot, fAndV, fOrV, fNotV, fOp2, fVar, fC, fB, fACons, fANil, fTup, fLst, fNeg, gRel, gInt2, gInt2C, gAdd, gMulX_int, gIx, gLen, gAbs, gInt, gEq, gIs, gIsNot, dv_dat, dv_lst, dv_al, dvs, own_dat, own_lst, own_bag, own_dcK, own_scr, flat_dat, flat_lst, Res.fin, frzs_nil, frzs_cons, frz_dat, intT_int, outs, als, argsOf, putArgs, fCall, eqv_int, shp_int, shp_none, shp_bool, noOwn, ownAt, sizeLine_eq, fIter, itemsOf, fRange1, fRange2, eqX_int, eqX_str, fEnumA, fFrz, fNever, permOk, perm, fCallK, fCallP, gMax2, gMin2, gMax3, gMin3, fPar2, fMulti, putM, fAsgG, fLc, lcStep, lsStep, tYesF, gN, gT, gsCons, gsNil, e5_path_share, hxy]
  have e3 := gSumA_list (List.zipWith (· * ·) (wN W) (Lw.mds W T k))
  have e4 : (List.zipWith (· * ·) (wN W) (Lw.mds W T k)).sum = ptN W T k := rfl
  rw [e4] at e3
  have e5 : gMulX (.list [.int 1]) (.int (m : Nat)) = some (.new (List.replicate m (.int 1))) := gMul_rep (.int 1) (by omega)
  have e6 : (Lw.mds W T 0).map PyData.int = List.replicate m (.int 1) := by simp [Lw.mds, mdN, h.lw]
  have e7 : ((ptU W T 0 : Nat) : Int) = 1 := by simp [ptU]
  have e8 : ((wN W).map PyData.int).length = m := by rw [List.length_map, h.wlen]
  simp only [intL] at e1
  simp only [e6, e7] at e1
  have ek : ((k + 1 : Nat) : Int) = (k : Int) + 1 := by omega
  rw [ek]
  generalize frD (low (ptN W T k) (ptU W T k * byW W)) = r at *
  generalize ptN W T k = nn at *
  generalize ((ptU W T k : Nat) : Int) = pu at *
  simp only [whD, intL] at *
  generalize (byW W : Int) = bb at *
  generalize (unT T : Int) = uu at *
  generalize List.replicate m (PyData.int 1) = rp at *
  generalize (List.zipWith (· * ·) (wN W) (Lw.mds W T k)).map PyData.int = zz at *
  generalize (Lw.mds W T k).map PyData.int = m0 at *
  generalize (wN W).map PyData.int = ww at *
  generalize (tN T).map (fun l => PyData.list (l.map PyData.int)) = tt at *
  generalize (List.range k).map (fun (x : Nat) => PyData.int x) = rr at *
  simp [fnOf, fSeq, fNil, fSet, fRet, fDrop, fIf, fFgt, fgtO, fgt, fFor, fIfE, fT, fTru, truD, fAnd, fOr, fNot, fAndV, fOrV, fNotV, fOp2, fVar, fC, fB, fACons, fANil, fTup, fLst, fNeg, gRel, gInt2, gInt2C, gAdd, gMulX_int, gIx, gLen, gAbs, gInt, gEq, gIs, gIsNot, dv_dat, dv_lst, dv_al, dvs, own_dat, own_lst, own_bag, own_dcK, own_scr, flat_dat, flat_lst, Res.fin, frzs_nil, frzs_cons, frz_dat, intT_int, outs, als, argsOf, putArgs, fCall, eqv_int, shp_int, shp_none, shp_bool, noOwn, ownAt, sizeLine_eq, fIter, itemsOf, fRange1, fRange2, eqX_int, eqX_str, fEnumA, fFrz, fNever, permOk, perm, fCallK, fCallP, gMax2, gMin2, gMax3, gMin3, fPar2, fMulti, putM, fAsgG, fLc, F_path_share, gTA, gsCons, gsNil, gN, e0, fZip, e1, e2, e3, e5, e8, r1, mk, p]
end

/-! ### the law's own lowest terms -/
theorem gcd_one {a b : Nat} (h : 0 < b) : c1__law_gcd [some (.dat (.int a)), some (.dat (.int b))] = some (true, [some (.dat (.int a)), some (.dat (.int b))]) ∧ b2__law_gcd [some (.dat (.int a)), some (.dat (.int b))] = some (.nx [some (.dat (.int b)), some (.dat (.int ((a % b : Nat) : Int)))]) := by
  have q : (0 : Int) < b := by omega
  exact ⟨by simp [fnOf, fSeq, fNil, fSet, fRet, fDrop, fIf, fFgt, fgtO, fgt, fFor, fIfE, fT, fTru, truD, fAnd, fOr, fNot, fAndV, fOrV, fNotV, fOp2, fVar, fC, fB, fACons, fANil, fTup, fLst, fNeg, gRel, gInt2, gInt2C, gAdd, gMulX_int, gIx, gLen, gAbs, gInt, gEq, gIs, gIsNot, dv_dat, dv_lst, dv_al, dvs, own_dat, own_lst, own_bag, own_dcK, own_scr, flat_dat, flat_lst, Res.fin, frzs_nil, frzs_cons, frz_dat, intT_int, outs, als, argsOf, putArgs, fCall, eqv_int, shp_int, shp_none, shp_bool, noOwn, ownAt, sizeLine_eq, fIter, itemsOf, fRange1, fRange2, eqX_int, eqX_str, fEnumA, fFrz, fNever, permOk, perm, fCallK, fCallP, gMax2, gMin2, gMax3, gMin3, fPar2, fMulti, putM, fAsgG, fLc, c1__law_gcd, q, h], by simp [fnOf, fSeq, fNil, fSet, fRet, fDrop, fIf, fFgt, fgtO, fgt, fFor, fIfE, fT, fTru, truD, fAnd, fOr, fNot, fAndV, fOrV, fNotV, fOp2, fVar, fC, fB, fACons, fANil, fTup, fLst, fNeg, gRel, gInt2, gInt2C, gAdd, gMulX_int, gIx, gLen, gAbs, gInt, gEq, gIs, gIsNot, dv_dat, dv_lst, dv_al, dvs, own_dat, own_lst, own_bag, own_dcK, own_scr, flat_dat, flat_lst, Res.fin, frzs_nil, frzs_cons, frz_dat, intT_int, outs, als, argsOf, putArgs, fCall, eqv_int, shp_int, shp_none, shp_bool, noOwn, ownAt, sizeLine_eq, fIter, itemsOf, fRange1, fRange2, eqX_int, eqX_str, fEnumA, fFrz, fNever, permOk, perm, fCallK, fCallP, gMax2, gMin2, gMax3, gMin3, fPar2, fMulti, putM, fAsgG, fLc, b2__law_gcd, q, h]⟩
theorem gcd_end {a : Nat} (fuel : Nat) : fWhile c1__law_gcd b2__law_gcd (fuel + 1) [some (.dat (.int a)), some (.dat (.int (0 : Nat)))] = some (.nx [some (.dat (.int a)), some (.dat (.int 0))]) := by
  have c : c1__law_gcd [some (.dat (.int a)), some (.dat (.int (0 : Nat)))] = some (false, [some (.dat (.int a)), some (.dat (.int (0 : Nat)))]) := by simp [fnOf, fSeq, fNil, fSet, fRet, fDrop, fIf, fFgt, fgtO, fgt, fFor, fIfE, fT, fTru, truD, fAnd, fOr, fNot, fAndV, fOrV, fNotV, fOp2, fVar, fC, fB, fACons, fANil, fTup, fLst, fNeg, gRel, gInt2, gInt2C, gAdd, gMulX_int, gIx, gLen, gAbs, gInt, gEq, gIs, gIsNot, dv_dat, dv_lst, dv_al, dvs, own_dat, own_lst, own_bag, own_dcK, own_scr, flat_dat, flat_lst, Res.fin, frzs_nil, frzs_cons, frz_dat, intT_int, outs, als, argsOf, putArgs, fCall, eqv_int, shp_int, shp_none, shp_bool, noOwn, ownAt, sizeLine_eq, fIter, itemsOf, fRange1, fRange2, eqX_int, eqX_str, fEnumA, fFrz, fNever, permOk, perm, fCallK, fCallP, gMax2, gMin2, gMax3, gMin3, fPar2, fMulti, putM, fAsgG, fLc, c1__law_gcd]
  rw [fWhile_stop c]; rfl
theorem gcd_loop : ∀ (n a b fuel : Nat), b < 2 ^ n → 2 * n + 1 ≤ fuel → fWhile c1__law_gcd b2__law_gcd fuel [some (.dat (.int a)), some (.dat (.int b))] = some (.nx [some (.dat (.int (Nat.gcd a b : Nat))), some (.dat (.int 0))]) := by
  intro n
  induction n with
  | zero =>
    intro a b fuel hb hf
    have : b = 0 := by simpa using hb
    subst this
    obtain ⟨fuel, rfl⟩ : ∃ n, fuel = n + 1 := ⟨fuel - 1, by omega⟩
    rw [gcd_end, Nat.gcd_zero_right]
  | succ n ih =>
    intro a b fuel hb hf
    obtain ⟨fuel, rfl⟩ : ∃ n, fuel = n + 1 + 1 + 1 := ⟨fuel - 3, by omega⟩
    by_cases h0 : b = 0
    · subst h0
      rw [gcd_end, Nat.gcd_zero_right]
    · have hb0 : 0 < b := by omega
      obtain ⟨c, s⟩ := gcd_one (a := a) hb0
      rw [fWhile_step c s, Nat.gcd_comm a b, show Nat.gcd b a = Nat.gcd b (a % b) by rw [Nat.gcd_comm b a, Nat.gcd_comm b (a % b), ← Nat.gcd_rec, Nat.gcd_comm]]
      have hr := Nat.mod_lt a hb0
      generalize a % b = r at *
      by_cases hr0 : r = 0
      · subst hr0
        rw [gcd_end, Nat.gcd_zero_right]
      · have hr1 : 0 < r := by omega
        obtain ⟨c, s⟩ := gcd_one (a := b) hr1
        rw [fWhile_step c s, Nat.gcd_comm b r, show Nat.gcd r b = Nat.gcd r (b % r) by rw [Nat.gcd_comm r b, Nat.gcd_comm r (b % r), ← Nat.gcd_rec, Nat.gcd_comm]]
        refine ih r (b % r) (fuel + 1) ?_ (by omega)
        have h1 := Nat.mod_lt b hr1
        have h2 := Nat.mod_add_div b r
        have h3 : r * 1 ≤ r * (b / r) := Nat.mul_le_mul_left r (Nat.div_pos (Nat.le_of_lt hr) hr1)
        rw [Nat.pow_succ] at hb
        omega
theorem gcd_ok {n : Nat} (a : Int) {b : Nat} (hb : b < 2 ^ n) (hn : n ≤ 9000) : F__law_gcd [.dat (.int a), .dat (.int (b : Nat))] = some (.dat (.int (Nat.gcd a.natAbs b : Nat)), [none, none]) := by
  have e := gcd_loop n a.natAbs b FUEL hb (by unfold FUEL; omega)
  by_cases q : a < 0
  · have ea : ((a.natAbs : Nat) : Int) = -a := by omega
    rw [ea] at e
    simp [fnOf, fSeq, fNil, fSet, fRet, fDrop, fIf, fFgt, fgtO, fgt, fFor, fIfE, fT, fTru, truD, fAnd, fOr, fNot, fAndV, fOrV, fNotV, fOp2, fVar, fC, fB, fACons, fANil, fTup, fLst, fNeg, gRel, gInt2, gInt2C, gAdd, gMulX_int, gIx, gLen, gAbs, gInt, gEq, gIs, gIsNot, dv_dat, dv_lst, dv_al, dvs, own_dat, own_lst, own_bag, own_dcK, own_scr, flat_dat, flat_lst, Res.fin, frzs_nil, frzs_cons, frz_dat, intT_int, outs, als, argsOf, putArgs, fCall, eqv_int, shp_int, shp_none, shp_bool, noOwn, ownAt, sizeLine_eq, fIter, itemsOf, fRange1, fRange2, eqX_int, eqX_str, fEnumA, fFrz, fNever, permOk, perm, fCallK, fCallP, gMax2, gMin2, gMax3, gMin3, fPar2, fMulti, putM, fAsgG, fLc, F__law_gcd, q, e]
  · have ea : ((a.natAbs : Nat) : Int) = a := by omega
    rw [ea] at e
    simp [fnOf, fSeq, fNil, fSet, fRet, fDrop, fIf, fFgt, fgtO, fgt, fFor, fIfE, fT, fTru, truD, fAnd, fOr, fNot, fAndV, fOrV, fNotV, fOp2, fVar, fC, fB, fACons, fANil, fTup, fLst, fNeg, gRel, gInt2, gInt2C, gAdd, gMulX_int, gIx, gLen, gAbs, gInt, gEq, gIs, gIsNot, dv_dat, dv_lst, dv_al, dvs, own_dat, own_lst, own_bag, own_dcK, own_scr, flat_dat, flat_lst, Res.fin, frzs_nil, frzs_cons, frz_dat, intT_int, outs, als, argsOf, putArgs, fCall, eqv_int, shp_int, shp_none, shp_bool, noOwn, ownAt, sizeLine_eq, fIter, itemsOf, fRange1, fRange2, eqX_int, eqX_str, fEnumA, fFrz, fNever, permOk, perm, fCallK, fCallP, gMax2, gMin2, gMax3, gMin3, fPar2, fMulti, putM, fAsgG, fLc, F__law_gcd, q, e]
theorem lowest_ok {n : Nat} {a : Int} {b : Nat} (hb : 0 < b) (h : b < 2 ^ n) (hn : n < 9000) : F__law_lowest [.dat (.int a), .dat (.int (b : Nat))] = some (.dat (frD (low a b)), [none, none]) := by
  have g := gcd_ok a h (by omega)
  have g0 := Ms.gcd_pos' (a := a.natAbs) hb
  have gl : Nat.gcd a.natAbs b ≤ b := Nat.gcd_le_right _ hb
  have d : ∀ y : Int, divOk y (Nat.gcd a.natAbs b : Nat) = true := fun y => divOk_bd (by omega) ((Bd.nat h).of_le (by simpa using gl)) hn
  have e : ((b / Nat.gcd a.natAbs b : Nat) : Int) = (b : Int) / (Nat.gcd a.natAbs b : Nat) := by simp
  simp only [frD, low, e]
  generalize Nat.gcd a.natAbs b = gg at *
  simp [fnOf, fSeq, fNil, fSet, fRet, fDrop, fIf, fFgt, fgtO, fgt, fFor, fIfE, fT, fTru, truD, fAnd, fOr, fNot, fAndV, fOrV, fNotV, fOp2, fVar, fC, fB, fACons, fANil, fTup, fLst, fNeg, gRel, gInt2, gInt2C, gAdd, gMulX_int, gIx, gLen, gAbs, gInt, gEq, gIs, gIsNot, dv_dat, dv_lst, dv_al, dvs, own_dat, own_lst, own_bag, own_dcK, own_scr, flat_dat, flat_lst, Res.fin, frzs_nil, frzs_cons, frz_dat, intT_int, outs, als, argsOf, putArgs, fCall, eqv_int, shp_int, shp_none, shp_bool, noOwn, ownAt, sizeLine_eq, fIter, itemsOf, fRange1, fRange2, eqX_int, eqX_str, fEnumA, fFrz, fNever, permOk, perm, fCallK, fCallP, gMax2, gMin2, gMax3, gMin3, fPar2, fMulti, putM, fAsgG, fLc, F__law_lowest, g, d]
theorem lowest_bd {n : Nat} {a : Int} {b : Nat} (hb : 0 < b) (h : Bd n (b : Int)) (hn : n < 9000) : F__law_lowest [.dat (.int a), .dat (.int (b : Nat))] = some (.dat (frD (low a b)), [none, none]) := lowest_ok hb (by have h' : ((b : Int)).natAbs < 2 ^ n := h; simpa using h') hn
/-! ### the law's common multiples -/
theorem under_step {b : Nat} {x s : Nat} (hs : 0 < s ∧ s ≤ 2 ^ b) (hx : 0 < x ∧ x ≤ 2 ^ b) (hb : b ≤ 4000) (p : PyData) (q : Fr) (hq : q.2 = x) :
    lsStep (gN 2) b1__law_under (frD q) [some (.dat p), some (.dat (.int s)), none] = some (.nx [some (.dat p), some (.dat (.int (Nat.lcm s x : Nat))), none]) := by
  subst hq
  have g0 : 0 < Nat.gcd s q.2 := Nat.gcd_pos_of_pos_left _ hs.1
  have gl : Nat.gcd s q.2 ≤ 2 ^ b := Nat.le_trans (Nat.gcd_le_left _ hs.1) hs.2
  have g := gcd_ok (n := b + 1) (s : Int) (b := q.2) (by rw [Nat.pow_succ]; have := Nat.two_pow_pos b; omega) (by omega)
  rw [Int.natAbs_natCast] at g
  have d : ∀ y : Int, divOk y (Nat.gcd s q.2 : Nat) = true := fun y => divOk_bd (by omega) (nat_bd gl)
  have m : mulOk (s : Int) ((q.2 : Int) / (Nat.gcd s q.2 : Nat)) = true := mulOk_bd (nat_bd hs.2) (nat_bd hx.2).div
  have e : ((Nat.lcm s q.2 : Nat) : Int) = (s : Int) * ((q.2 : Int) / (Nat.gcd s q.2 : Nat)) := by
    rw [← Ms.lcm_step2]; simp
  rw [e]
  have x1 : atI [PyData.int q.1, .int (q.2 : Nat)] 1 = some (.int (q.2 : Nat)) := rfl
  generalize Nat.gcd s q.2 = gg at *
  simp [fnOf, fSeq, fNil, fSet, fRet, fDrop, fIf, fFgt, fgtO, fgt, fFor, fIfE, fT, fTru, truD, fAnd, fOr, fNot, fAndV, fOrV, fNotV, fOp2, fVar, fC, fB, fACons, fANil, fTup, fLst, fNeg, gRel, gInt2, gInt2C, gAdd, gMulX_int, gIx, gLen, gAbs, gInt, gEq, gIs, gIsNot, dv_dat, dv_lst, dv_al, dvs, own_dat, own_lst, own_bag, own_dcK, own_scr, flat_dat, flat_lst, Res.fin, frzs_nil, frzs_cons, frz_dat, intT_int, outs, als, argsOf, putArgs, fCall, eqv_int, shp_int, shp_none, shp_bool, noOwn, ownAt, sizeLine_eq, fIter, itemsOf, fRange1, fRange2, eqX_int, eqX_str, fEnumA, fFrz, fNever, permOk, perm, fCallK, fCallP, gMax2, gMin2, gMax3, gMin3, fPar2, fMulti, putM, fAsgG, fLc, lcStep, lsStep, tYesF, gN, gT, gsCons, gsNil, b1__law_under, frD, x1, m, g, d]
theorem under_loop {b : Nat} {l : List Fr} (hb2 : b ≤ 4000) (p : PyData) {L : Nat} (hL : 0 < L ∧ L ≤ 2 ^ b) (h : ∀ q ∈ l, 0 < q.2 ∧ q.2 ∣ L) : loopS (gN 2) b1__law_under (l.map frD) [some (.dat p), some (.dat (.int 1)), none] = some (.nx [some (.dat p), some (.dat (.int (lcmL (den l) : Nat))), none]) := by
  have key : ∀ (k : List Fr) (s : Nat), (∀ q ∈ k, q ∈ l) → 0 < s → s ∣ L → loopS (gN 2) b1__law_under (k.map frD) [some (.dat p), some (.dat (.int s)), none] = some (.nx [some (.dat p), some (.dat (.int ((den k).foldl Nat.lcm s : Nat))), none]) := by
    intro k
    induction k with
    | nil => intro s _ _ _; rfl
    | cons q k ih =>
      intro s hk h0 hd
      have hq := hk q List.mem_cons_self
      have hsl : s ≤ 2 ^ b := Nat.le_trans (Nat.le_of_dvd hL.1 hd) hL.2
      have hx : q.2 ≤ 2 ^ b := Nat.le_trans (Nat.le_of_dvd hL.1 (h q hq).2) hL.2
      have st := under_step ⟨h0, hsl⟩ ⟨(h q hq).1, hx⟩ hb2 p q rfl
      rw [List.map_cons, loopS_cons, st, Option.bind_some]
      dsimp only
      rw [ih _ (fun x hx => hk x (List.mem_cons_of_mem _ hx)) (Nat.lcm_pos h0 (h q hq).1) (Nat.lcm_dvd hd (h q hq).2)]
      rfl
  exact key l 1 (fun _ h => h) (by decide) (Nat.one_dvd _)
theorem under_ok {b : Nat} {l : List Fr} (hb2 : b ≤ 4000) {L : Nat} (hL : 0 < L ∧ L ≤ 2 ^ b) (h : ∀ q ∈ l, 0 < q.2 ∧ q.2 ∣ L) : F__law_under [.dat (frsD l)] = some (.dat (.int (lcmL (den l) : Nat)), [none]) ∧ F__law_under [.dat (.list (l.map frD))] = some (.dat (.int (lcmL (den l) : Nat)), [none]) := by
  have e1 := under_loop hb2 (frsD l) hL h
  have e2 := under_loop hb2 (.list (l.map frD)) hL h
  constructor
  · simp only [frsD] at e1 ⊢
    simp [fnOf, fSeq, fNil, fSet, fRet, fDrop, fIf, fFgt, fgtO, fgt, fFor, fIfE, fT, fTru, truD, fAnd, fOr, fNot, fAndV, fOrV, fNotV, fOp2, fVar, fC, fB, fACons, fANil, fTup, fLst, fNeg, gRel, gInt2, gInt2C, gAdd, gMulX_int, gIx, gLen, gAbs, gInt, gEq, gIs, gIsNot, dv_dat, dv_lst, dv_al, dvs, own_dat, own_lst, own_bag, own_dcK, own_scr, flat_dat, flat_lst, Res.fin, frzs_nil, frzs_cons, frz_dat, intT_int, outs, als, argsOf, putArgs, fCall, eqv_int, shp_int, shp_none, shp_bool, noOwn, ownAt, sizeLine_eq, fIter, itemsOf, fRange1, fRange2, eqX_int, eqX_str, fEnumA, fFrz, fNever, permOk, perm, fCallK, fCallP, gMax2, gMin2, gMax3, gMin3, fPar2, fMulti, putM, fAsgG, fLc, F__law_under, e1]
  · simp [fnOf, fSeq, fNil, fSet, fRet, fDrop, fIf, fFgt, fgtO, fgt, fFor, fIfE, fT, fTru, truD, fAnd, fOr, fNot, fAndV, fOrV, fNotV, fOp2, fVar, fC, fB, fACons, fANil, fTup, fLst, fNeg, gRel, gInt2, gInt2C, gAdd, gMulX_int, gIx, gLen, gAbs, gInt, gEq, gIs, gIsNot, dv_dat, dv_lst, dv_al, dvs, own_dat, own_lst, own_bag, own_dcK, own_scr, flat_dat, flat_lst, Res.fin, frzs_nil, frzs_cons, frz_dat, intT_int, outs, als, argsOf, putArgs, fCall, eqv_int, shp_int, shp_none, shp_bool, noOwn, ownAt, sizeLine_eq, fIter, itemsOf, fRange1, fRange2, eqX_int, eqX_str, fEnumA, fFrz, fNever, permOk, perm, fCallK, fCallP, gMax2, gMin2, gMax3, gMin3, fPar2, fMulti, putM, fAsgG, fLc, F__law_under, e2]
theorem sum_ok {n k : Nat} {x y : List Int} (hx : ∀ a ∈ x, Bd n a) (hy : ∀ b ∈ y, Bd k b) (hl : x.length ≤ 1000) (hn : n + k < 1000000 := by omega) : F__law_sum [.dat (intL x), .dat (intL y)] = some (.dat (.int (dot x y)), [none, none]) := by
  have e2 := zip_mul hx hy hl (tg := gT 2 (gsCons (gN 2) (gsCons (gN 3) gsNil))) (fe := e1__law_sum) (own := [2, 3]) (Γ := [some (.dat (intL x)), some (.dat (intL y)), none, none]) (fun a b hab => by simp [fnOf, fSeq, fNil, fSet, fRet, fDrop, fIf, fFgt, fgtO, fgt, fFor, fIfE, fT, fTru, truD, fAnd, fOr, fNot, fAndV, fOrV, fNotV, fOp2, fVar, fC, fB, fACons, fANil, fTup, fLst, fNeg, gRel, gInt2, gInt2C, gAdd, gMulX_int, gIx, gLen, gAbs, gInt, gEq, gIs, gIsNot, dv_dat, dv_lst, dv_al, dvs, own_dat, own_lst, own_bag, own_dcK, own_scr, flat_dat, flat_lst, Res.fin, frzs_nil, frzs_cons, frz_dat, intT_int, outs, als, argsOf, putArgs, fCall, eqv_int, shp_int, shp_none, shp_bool, noOwn, ownAt, sizeLine_eq, fIter, itemsOf, fRange1, fRange2, eqX_int, eqX_str, fEnumA, fFrz, fNever, permOk, perm, fCallK, fCallP, gMax2, gMin2, gMax3, gMin3, fPar2, fMulti, putM, fAsgG, fLc, lcStep, lsStep, tYesF, gN, gT, gsCons, gsNil, e1__law_sum, hab]) hn
  have e3 := gSumA_list (List.zipWith (· * ·) x y)
  have e4 : (List.zipWith (· * ·) x y).sum = dot x y := rfl
  rw [e4] at e3
  generalize dot x y = z at *
  simp only [intL] at *
  generalize (List.zipWith (· * ·) x y).map PyData.int = zz at *
  generalize x.map PyData.int = xx at *
  generalize y.map PyData.int = yy at *
  simp [fnOf, fSeq, fNil, fSet, fRet, fDrop, fIf, fFgt, fgtO, fgt, fFor, fIfE, fT, fTru, truD, fAnd, fOr, fNot, fAndV, fOrV, fNotV, fOp2, fVar, fC, fB, fACons, fANil, fTup, fLst, fNeg, gRel, gInt2, gInt2C, gAdd, gMulX_int, gIx, gLen, gAbs, gInt, gEq, gIs, gIsNot, dv_dat, dv_lst, dv_al, dvs, own_dat, own_lst, own_bag, own_dcK, own_scr, flat_dat, flat_lst, Res.fin, frzs_nil, frzs_cons, frz_dat, intT_int, outs, als, argsOf, putArgs, fCall, eqv_int, shp_int, shp_none, shp_bool, noOwn, ownAt, sizeLine_eq, fIter, itemsOf, fRange1, fRange2, eqX_int, eqX_str, fEnumA, fFrz, fNever, permOk, perm, fCallK, fCallP, gMax2, gMin2, gMax3, gMin3, fPar2, fMulti, putM, fAsgG, fLc, F__law_sum, fListZip, e2, e3]
end Lw

end

/-! K14e: what the law reckons of a sheet -/
noncomputable section
namespace Lw
open PySem PySem.Spec PyProof.Rows L2 Fx
open Ms (Bd Fr low num lcmL Low)

section
variable {m : Nat} {W : List Fr} {T : List (List Fr)}
def plD (W : List Fr) (T : List (List Fr)) : PyData := .list [intL (wN W), .list ((tN T).map intL), .int (byW W : Nat), .int (unT T : Nat)]
theorem plain_turn (h : Sh m W T) {r : List Fr} (hr : r ∈ T) {u : Nat} (hu : 0 < u) (hd : u ∣ unT T) (a b c d : Option MD) :
    lsStep (gN 5) b1__law_plain (frsD r) [a, b, c, d, some (.dat (.int u)), none, none, none, none, none] = some (.nx [a, b, c, d, some (.dat (.int (Nat.lcm u (lcmL (den r)) : Nat))), none, none, none, none, none]) := by
  have h8 := h.m8
  have e := (under_ok (b := 300) (l := ((1, u) : Fr) :: r) (by omega) ⟨h.un_pos, h.un_le⟩ (fun q hq => by
    rcases List.mem_cons.mp hq with rfl | hq
    · exact ⟨hu, hd⟩
    · exact h.tdvd r hr q hq)).2
  have e2 : lcmL (den (((1, u) : Fr) :: r)) = Nat.lcm u (lcmL (den r)) := Ms.lcmL_cons _ _
  rw [e2] at e
  have e3 : List.map frD (((1, u) : Fr) :: r) = .tuple [.int 1, .int (u : Nat)] :: r.map frD := rfl
  rw [e3] at e
  have hl : (r.map frD).length ≤ 16777215 := by rw [List.length_map, h.lr r hr]; omega
  generalize Nat.lcm u (lcmL (den r)) = z at *
  simp only [frsD]
  generalize r.map frD = rr at *
  simp [fnOf, fSeq, fNil, fSet, fRet, fDrop, fIf, fFgt, fgtO, fgt, fFor, fIfE, fT, fTru, truD, fAnd, fOr, fNot, fAndV, fOrV, fNotV, fOp2, fVar, fC, fB, fACons, fANil, fTup, fLst, fNeg, gRel, gInt2, gInt2C, gAdd, gMulX_int, gIx, gLen, gAbs, gInt, gEq, gIs, gIsNot, dv_dat, dv_lst, dv_al, dvs, own_dat, own_lst, own_bag, own_dcK, own_scr, flat_dat, flat_lst, Res.fin, frzs_nil, frzs_cons, frz_dat, intT_int, outs, als, argsOf, putArgs, fCall, eqv_int, shp_int, shp_none, shp_bool, noOwn, ownAt, sizeLine_eq, fIter, itemsOf, fRange1, fRange2, eqX_int, eqX_str, fEnumA, fFrz, fNever, permOk, perm, fCallK, fCallP, gMax2, gMin2, gMax3, gMin3, fPar2, fMulti, putM, fAsgG, fLc, lcStep, lsStep, tYesF, gN, gT, gsCons, gsNil, b1__law_plain, gToL, e, hl, Nat.add_comm]
theorem fold_flat (T : List (List Fr)) : ∀ u : Nat, (T.foldl (fun u r => Nat.lcm u (lcmL (den r))) u) = Nat.lcm u (lcmL (den T.flatten)) := by
  induction T with
  | nil => intro u; simp [den, lcmL]
  | cons r T ih =>
    intro u
    have : den (r :: T).flatten = den r ++ den T.flatten := by simp [den]
    rw [List.foldl_cons, ih, this, Ms.lcmL_append, Nat.lcm_assoc]
theorem plain_ok (h : Sh m W T) : F__law_plain [.dat (shtD W T)] = some (.dat (plD W T), [none]) := by
  have h8 := h.m8
  have hW := (under_ok (b := 56) (by omega) ⟨h.by_pos, h.by_le⟩ h.wdvd).1
  have key : ∀ (a b c d : Option MD) (k : List (List Fr)) (u : Nat), (∀ r ∈ k, r ∈ T) → 0 < u → u ∣ unT T → loopS (gN 5) b1__law_plain (k.map frsD) [a, b, c, d, some (.dat (.int u)), none, none, none, none, none] =
      some (.nx [a, b, c, d, some (.dat (.int ((k.foldl (fun u r => Nat.lcm u (lcmL (den r))) u : Nat)))), none, none, none, none, none]) := by
    intro a b c d k
    induction k with
    | nil => intro u _ _ _; rfl
    | cons r k ih =>
      intro u hk hu hd
      have hr := hk r List.mem_cons_self
      rw [List.map_cons, loopS_cons, plain_turn h hr hu hd, Option.bind_some]
      dsimp only
      have dr : lcmL (den r) ∣ unT T := Ms.lcmL_dvd fun x hx => by
        obtain ⟨q, hq, rfl⟩ := List.mem_map.mp hx
        exact (h.tdvd r hr q hq).2
      have pr : 0 < lcmL (den r) := Nat.pos_of_dvd_of_pos dr h.un_pos
      rw [ih _ (fun x hx => hk x (List.mem_cons_of_mem _ hx)) (Nat.lcm_pos hu pr) (Nat.lcm_dvd hd dr)]
      rfl
  have e1 := fun a b c d => key a b c d T 1 (fun _ h => h) (by decide) (Nat.one_dvd _)
  rw [fold_flat, Nat.lcm_one_left] at e1
  have e2 : ∀ (a b c d : Option MD), loopL (gN 7) tYesF e3__law_plain [7] (T.map frsD) [] [a, b, c, d, some (.dat (.int (unT T : Nat))), none, none, none, none, none] = some ((tN T).map intL, [a, b, c, d, some (.dat (.int (unT T : Nat))), none, none, none, none, none]) := fun a b c d => by
    have := loopL_map (acc := []) (g := frsD) (f := fun r : List Fr => intL (r.map (num (unT T)))) (l := T) (tg := gN 7) (tt := tYesF) (fe := e3__law_plain) (own := [7]) (Γ := [a, b, c, d, some (.dat (.int (unT T : Nat))), none, none, none, none, none]) (by rw [sizeLine_eq, h.lt]; simp; omega) fun r hr => by
      have e3 := loopL_map (acc := []) (g := frD) (f := fun q : Fr => PyData.int (num (unT T) q)) (l := r) (tg := gN 8) (tt := tYesF) (fe := e2__law_plain) (own := [8]) (Γ := [a, b, c, d, some (.dat (.int (unT T : Nat))), none, none, some (.dat (frsD r)), none, none]) (by rw [sizeLine_eq, h.lr r hr]; simp; omega) fun q hq => by
        have hqd := h.tdvd r hr q hq
        have hqc : q.2 ≤ 2 ^ 300 := Nat.le_trans (Nat.le_of_dvd h.un_pos hqd.2) h.un_le
        have d := divOk_bd (x := (unT T : Int)) (y := (q.2 : Nat)) (by have := hqd.1; omega) (nat_bd hqc)
        have x0 : atI [PyData.int q.1, .int (q.2 : Nat)] 0 = some (.int q.1) := rfl
        have x1 : atI [PyData.int q.1, .int (q.2 : Nat)] 1 = some (.int (q.2 : Nat)) := rfl
        have mk : mulOk q.1 ((unT T : Int) / (q.2 : Nat)) = true := mulOk_bd ((nat_bd hqc).of_le (by simpa using h.ut r hr q hq)) h.unB.div
        have en : num (unT T) q = q.1 * ((unT T : Int) / (q.2 : Nat)) := by simp [num]
        rw [en]
        generalize (unT T : Int) = uu at *
        simp [fnOf, fSeq, fNil, fSet, fRet, fDrop, fIf, fFgt, fgtO, fgt, fFor, fIfE, fT, fTru, truD, fAnd, fOr, fNot, fAndV, fOrV, fNotV, fOp2, fVar, fC, fB, fACons, fANil, fTup, fLst, fNeg, gRel, gInt2, gInt2C, gAdd, gMulX_int, gIx, gLen, gAbs, gInt, gEq, gIs, gIsNot, dv_dat, dv_lst, dv_al, dvs, own_dat, own_lst, own_bag, own_dcK, own_scr, flat_dat, flat_lst, Res.fin, frzs_nil, frzs_cons, frz_dat, intT_int, outs, als, argsOf, putArgs, fCall, eqv_int, shp_int, shp_none, shp_bool, noOwn, ownAt, sizeLine_eq, fIter, itemsOf, fRange1, fRange2, eqX_int, eqX_str, fEnumA, fFrz, fNever, permOk, perm, fCallK, fCallP, gMax2, gMin2, gMax3, gMin3, fPar2, fMulti, putM, fAsgG, fLc, lcStep, lsStep, tYesF, gN, gT, gsCons, gsNil, e2__law_plain, frD, x0, x1, d, mk]
      have em : (r.map (num (unT T))).map PyData.int = r.map fun q => PyData.int (num (unT T) q) := by simp
      simp only [intL]
      rw [List.nil_append, ← em] at e3
      generalize (r.map (num (unT T))).map PyData.int = z at *
      simp only [frsD] at *
      generalize r.map frD = rr at *
      generalize (unT T : Int) = uu at *
      simp [fnOf, fSeq, fNil, fSet, fRet, fDrop, fIf, fFgt, fgtO, fgt, fFor, fIfE, fT, fTru, truD, fAnd, fOr, fNot, fAndV, fOrV, fNotV, fOp2, fVar, fC, fB, fACons, fANil, fTup, fLst, fNeg, gRel, gInt2, gInt2C, gAdd, gMulX_int, gIx, gLen, gAbs, gInt, gEq, gIs, gIsNot, dv_dat, dv_lst, dv_al, dvs, own_dat, own_lst, own_bag, own_dcK, own_scr, flat_dat, flat_lst, Res.fin, frzs_nil, frzs_cons, frz_dat, intT_int, outs, als, argsOf, putArgs, fCall, eqv_int, shp_int, shp_none, shp_bool, noOwn, ownAt, sizeLine_eq, fIter, itemsOf, fRange1, fRange2, eqX_int, eqX_str, fEnumA, fFrz, fNever, permOk, perm, fCallK, fCallP, gMax2, gMin2, gMax3, gMin3, fPar2, fMulti, putM, fAsgG, fLc, lcStep, lsStep, tYesF, gN, gT, gsCons, gsNil, e3__law_plain, e3]
    rw [this]
    simp [tN]
  have e4 : ∀ (a b c d e : Option MD), loopL (gN 9) tYesF e4__law_plain [9] (W.map frD) [] [a, b, c, some (.dat (.int (byW W : Nat))), d, none, e, none, none, none] = some ((wN W).map .int, [a, b, c, some (.dat (.int (byW W : Nat))), d, none, e, none, none, none]) := fun a b c d e => by
    have := loopL_map (acc := []) (g := frD) (f := fun q : Fr => PyData.int (num (byW W) q)) (l := W) (tg := gN 9) (tt := tYesF) (fe := e4__law_plain) (own := [9]) (Γ := [a, b, c, some (.dat (.int (byW W : Nat))), d, none, e, none, none, none]) (by rw [sizeLine_eq, h.lw]; simp; omega) fun q hq => by
      have hqd := h.wdvd q hq
      have hqc : q.2 ≤ 2 ^ 56 := Nat.le_trans (Nat.le_of_dvd h.by_pos hqd.2) h.by_le
      have d := divOk_bd (x := (byW W : Int)) (y := (q.2 : Nat)) (by have := hqd.1; omega) (nat_bd hqc)
      have x0 : atI [PyData.int q.1, .int (q.2 : Nat)] 0 = some (.int q.1) := rfl
      have x1 : atI [PyData.int q.1, .int (q.2 : Nat)] 1 = some (.int (q.2 : Nat)) := rfl
      have mk : mulOk q.1 ((byW W : Int) / (q.2 : Nat)) = true := mulOk_bd ((nat_bd hqc).of_le (by simpa using h.uw q hq)) h.byB.div
      have en : num (byW W) q = q.1 * ((byW W : Int) / (q.2 : Nat)) := by simp [num]
      rw [en]
      generalize (byW W : Int) = bb at *
      simp [fnOf, fSeq, fNil, fSet, fRet, fDrop, fIf, fFgt, fgtO, fgt, fFor, fIfE, fT, fTru, truD, fAnd, fOr, fNot, fAndV, fOrV, fNotV, fOp2, fVar, fC, fB, fACons, fANil, fTup, fLst, fNeg, gRel, gInt2, gInt2C, gAdd, gMulX_int, gIx, gLen, gAbs, gInt, gEq, gIs, gIsNot, dv_dat, dv_lst, dv_al, dvs, own_dat, own_lst, own_bag, own_dcK, own_scr, flat_dat, flat_lst, Res.fin, frzs_nil, frzs_cons, frz_dat, intT_int, outs, als, argsOf, putArgs, fCall, eqv_int, shp_int, shp_none, shp_bool, noOwn, ownAt, sizeLine_eq, fIter, itemsOf, fRange1, fRange2, eqX_int, eqX_str, fEnumA, fFrz, fNever, permOk, perm, fCallK, fCallP, gMax2, gMin2, gMax3, gMin3, fPar2, fMulti, putM, fAsgG, fLc, lcStep, lsStep, tYesF, gN, gT, gsCons, gsNil, e4__law_plain, frD, x0, x1, d, mk]
    rw [this]
    simp [wN]
  have hby : lcmL (den W) = byW W := rfl
  have hun : lcmL (den T.flatten) = unT T := rfl
  rw [hby] at hW
  rw [hun] at e1
  have e1' : ∀ (a b c d : Option MD), loopS (gN 5) b1__law_plain (T.map frsD) [a, b, c, d, some (.dat (.int 1)), none, none, none, none, none] = some (.nx [a, b, c, d, some (.dat (.int (unT T : Nat))), none, none, none, none, none]) := e1
  clear e1 key
  simp only [plD, shtD, intL, frsD, tblD] at *
  generalize (byW W : Int) = bb at *
  generalize (unT T : Int) = uu at *
  generalize (wN W).map PyData.int = ww at *
  generalize (tN T).map (fun l => PyData.list (l.map PyData.int)) = tt at *
  generalize T.map (fun l => PyData.tuple (l.map frD)) = td at *
  generalize W.map frD = wd at *
  simp [fnOf, fSeq, fNil, fSet, fRet, fDrop, fIf, fFgt, fgtO, fgt, fFor, fIfE, fT, fTru, truD, fAnd, fOr, fNot, fAndV, fOrV, fNotV, fOp2, fVar, fC, fB, fACons, fANil, fTup, fLst, fNeg, gRel, gInt2, gInt2C, gAdd, gMulX_int, gIx, gLen, gAbs, gInt, gEq, gIs, gIsNot, dv_dat, dv_lst, dv_al, dvs, own_dat, own_lst, own_bag, own_dcK, own_scr, flat_dat, flat_lst, Res.fin, frzs_nil, frzs_cons, frz_dat, intT_int, outs, als, argsOf, putArgs, fCall, eqv_int, shp_int, shp_none, shp_bool, noOwn, ownAt, sizeLine_eq, fIter, itemsOf, fRange1, fRange2, eqX_int, eqX_str, fEnumA, fFrz, fNever, permOk, perm, fCallK, fCallP, gMax2, gMin2, gMax3, gMin3, fPar2, fMulti, putM, fAsgG, fLc, F__law_plain, gTA, gsCons, gsNil, gN, hW, e1', e2, e4]
def dueD (W : List Fr) (T : List (List Fr)) : PyData := .list [frD (low (mnN W T) (byW W * (byW W * unT T))), frsD (dgF W T), frD (low (sqN W T) (byW W * byW W * byW W * (byW W * unT T) * (byW W * unT T)))]
theorem due_ok (h : Sh m W T) : F__law_due [.dat (plD W T)] = some (.dat (dueD W T), [none]) := by
  have h8 := h.m8
  have e1 : ∀ (a b d e : Option MD), loopL (gN 9) tYesF e1__law_due [9] ((tN T).map intL) [] [a, some (.dat (intL (wN W))), b, d, e, none, none, none, none, none, none, none] = some ((dgs W T).map .int, [a, some (.dat (intL (wN W))), b, d, e, none, none, none, none, none, none, none]) := fun a b d e => by
    have := loopL_map (acc := []) (g := intL) (f := fun r : List Int => PyData.int (dot (wN W) r)) (l := tN T) (tg := gN 9) (tt := tYesF) (fe := e1__law_due) (own := [9]) (Γ := [a, some (.dat (intL (wN W))), b, d, e, none, none, none, none, none, none, none]) (by rw [sizeLine_eq, h.tlen]; simp; omega) fun r hr => by
      have s := sum_ok h.wbd (h.tbd r hr) (by rw [h.wlen]; omega)
      generalize dot (wN W) r = z at *
      generalize intL (wN W) = ww at *
      generalize intL r = rr at *
      simp [fnOf, fSeq, fNil, fSet, fRet, fDrop, fIf, fFgt, fgtO, fgt, fFor, fIfE, fT, fTru, truD, fAnd, fOr, fNot, fAndV, fOrV, fNotV, fOp2, fVar, fC, fB, fACons, fANil, fTup, fLst, fNeg, gRel, gInt2, gInt2C, gAdd, gMulX_int, gIx, gLen, gAbs, gInt, gEq, gIs, gIsNot, dv_dat, dv_lst, dv_al, dvs, own_dat, own_lst, own_bag, own_dcK, own_scr, flat_dat, flat_lst, Res.fin, frzs_nil, frzs_cons, frz_dat, intT_int, outs, als, argsOf, putArgs, fCall, eqv_int, shp_int, shp_none, shp_bool, noOwn, ownAt, sizeLine_eq, fIter, itemsOf, fRange1, fRange2, eqX_int, eqX_str, fEnumA, fFrz, fNever, permOk, perm, fCallK, fCallP, gMax2, gMin2, gMax3, gMin3, fPar2, fMulti, putM, fAsgG, fLc, lcStep, lsStep, tYesF, gN, gT, gsCons, gsNil, e1__law_due, s]
    rw [this]
    simp [dgs]
  have s2 := sum_ok h.wbd h.dbd (by rw [h.wlen]; omega)
  have hm : dot (wN W) (dgs W T) = mnN W T := rfl
  rw [hm] at s2
  have b1 := h.byB
  have b2 := h.buB
  have e2 : ∀ (a b c d e : Option MD), loopL (gT 2 (gsCons (gN 10) (gsCons (gN 11) gsNil))) tYesF e2__law_due [10, 11] (zipD ((wN W).map .int) ((dgs W T).map .int)) [] [a, b, c, some (.dat (.int (byW W : Nat))), d, e, some (.dat (.int (mnN W T))), none, none, none, none, none] =
      some ((List.zipWith (fun w d => w * (d * byW W - mnN W T) * (d * byW W - mnN W T)) (wN W) (dgs W T)).map .int, [a, b, c, some (.dat (.int (byW W : Nat))), d, e, some (.dat (.int (mnN W T))), none, none, none, none, none]) := fun a b c d e => by
    rw [zipD_ints]
    have := loopL_map (acc := []) (g := fun p : Int × Int => PyData.tuple [.int p.1, .int p.2]) (f := fun p => PyData.int (p.1 * (p.2 * byW W - mnN W T) * (p.2 * byW W - mnN W T))) (l := (wN W).zip (dgs W T)) (tg := gT 2 (gsCons (gN 10) (gsCons (gN 11) gsNil))) (tt := tYesF) (fe := e2__law_due) (own := [10, 11]) (Γ := [a, b, c, some (.dat (.int (byW W : Nat))), d, e, some (.dat (.int (mnN W T))), none, none, none, none, none]) (by rw [sizeLine_eq, List.length_zip, h.wlen]; simp; omega) fun q hq => by
      have q1 := h.wbd _ (List.of_mem_zip hq).1
      have q2 := h.dbd _ (List.of_mem_zip hq).2
      have r1 := mulOk_bd b1 q2
      have q3 : Bd 424 ((byW W : Int) * q.2 - mnN W T) := ((b1.mul q2).mono (by omega)).sub h.mbd
      have p2 := powOkX_bd (k := 2) q3
      rw [show ((2 : Nat) : Int) = 2 from rfl] at p2
      have q4 : Bd 849 (((byW W : Int) * q.2 - mnN W T) ^ 2) := pow_bd q3 (by omega) 2
      have r2 := mulOk_bd q1 q4
      have ee : q.1 * (q.2 * (byW W : Int) - mnN W T) * (q.2 * byW W - mnN W T) = q.1 * ((byW W : Int) * q.2 - mnN W T) ^ 2 := by grind
      rw [ee]
      generalize (byW W : Int) = bb at *
      generalize mnN W T = mm at *
      simp [fnOf, fSeq, fNil, fSet, fRet, fDrop, fIf, fFgt, fgtO, fgt, fFor, fIfE, fT, fTru, truD, fAnd, fOr, fNot, fAndV, fOrV, fNotV, fOp2, fVar, fC, fB, fACons, fANil, fTup, fLst, fNeg, gRel, gInt2, gInt2C, gAdd, gMulX_int, gIx, gLen, gAbs, gInt, gEq, gIs, gIsNot, dv_dat, dv_lst, dv_al, dvs, own_dat, own_lst, own_bag, own_dcK, own_scr, flat_dat, flat_lst, Res.fin, frzs_nil, frzs_cons, frz_dat, intT_int, outs, als, argsOf, putArgs, fCall, eqv_int, shp_int, shp_none, shp_bool, noOwn, ownAt, sizeLine_eq, fIter, itemsOf, fRange1, fRange2, eqX_int, eqX_str, fEnumA, fFrz, fNever, permOk, perm, fCallK, fCallP, gMax2, gMin2, gMax3, gMin3, fPar2, fMulti, putM, fAsgG, fLc, lcStep, lsStep, tYesF, gN, gT, gsCons, gsNil, e2__law_due, r1, r2, p2]
    rw [this, List.nil_append, ← Fx.zip_sum _ _ fun w d => w * (d * byW W - mnN W T) * (d * byW W - mnN W T), List.map_map]
    rfl
  have e3 := gSumA_list (List.zipWith (fun w d => w * (d * byW W - mnN W T) * (d * byW W - mnN W T)) (wN W) (dgs W T))
  have e4 : (List.zipWith (fun w d => w * (d * byW W - mnN W T) * (d * byW W - mnN W T)) (wN W) (dgs W T)).sum = sqN W T := rfl
  rw [e4] at e3
  generalize (List.zipWith (fun w d => w * (d * byW W - mnN W T) * (d * byW W - mnN W T)) (wN W) (dgs W T)).map PyData.int = zz at *
  have k1 := mulOk_bd b1 h.unB
  have e5 : ∀ (a b c d e f : Option MD), loopL (gN 11) tYesF e3__law_due [11] ((dgs W T).map .int) [] [a, b, c, some (.dat (.int (byW W : Nat))), some (.dat (.int (unT T : Nat))), d, e, f, none, none, none, none] = some ((dgF W T).map frD, [a, b, c, some (.dat (.int (byW W : Nat))), some (.dat (.int (unT T : Nat))), d, e, f, none, none, none, none]) := fun a b c d e f => by
    have := loopL_map (acc := []) (g := PyData.int) (f := fun d : Int => frD (low d (byW W * unT T))) (l := dgs W T) (tg := gN 11) (tt := tYesF) (fe := e3__law_due) (own := [11]) (Γ := [a, b, c, some (.dat (.int (byW W : Nat))), some (.dat (.int (unT T : Nat))), d, e, f, none, none, none, none]) (by rw [sizeLine_eq, h.dlen]; simp; omega) fun d hd => by
      have p := lowest_bd (n := 358) (a := d) h.bu_pos h.buB (by omega)
      have ep : ((byW W * unT T : Nat) : Int) = (byW W : Int) * unT T := by simp
      rw [ep] at p
      generalize frD (low d (byW W * unT T)) = r at *
      generalize (byW W : Int) = bb at *
      generalize (unT T : Int) = uu at *
      simp [fnOf, fSeq, fNil, fSet, fRet, fDrop, fIf, fFgt, fgtO, fgt, fFor, fIfE, fT, fTru, truD, fAnd, fOr, fNot, fAndV, fOrV, fNotV, fOp2, fVar, fC, fB, fACons, fANil, fTup, fLst, fNeg, gRel, gInt2, gInt2C, gAdd, gMulX_int, gIx, gLen, gAbs, gInt, gEq, gIs, gIsNot, dv_dat, dv_lst, dv_al, dvs, own_dat, own_lst, own_bag, own_dcK, own_scr, flat_dat, flat_lst, Res.fin, frzs_nil, frzs_cons, frz_dat, intT_int, outs, als, argsOf, putArgs, fCall, eqv_int, shp_int, shp_none, shp_bool, noOwn, ownAt, sizeLine_eq, fIter, itemsOf, fRange1, fRange2, eqX_int, eqX_str, fEnumA, fFrz, fNever, permOk, perm, fCallK, fCallP, gMax2, gMin2, gMax3, gMin3, fPar2, fMulti, putM, fAsgG, fLc, lcStep, lsStep, tYesF, gN, gT, gsCons, gsNil, e3__law_due, k1, p]
    rw [this]
    simp [dgF]
  have b3 := b1.mul b1
  have k2 := mulOk_bd b1 b1
  have k3 := mulOk_bd b3 h.unB
  have m1 := lowest_bd (n := 415) (a := mnN W T) (b := byW W * (byW W * unT T)) (Nat.mul_pos h.by_pos h.bu_pos) (by have := h.byB.mul h.buB; simpa using this) (by omega)
  have em : ((byW W * (byW W * unT T) : Nat) : Int) = (byW W : Int) * byW W * unT T := by simp [Int.mul_assoc]
  rw [em] at m1
  have b6 := (((b3.mul b1).mul b2).mul b2)
  have m2 := lowest_bd (n := 887) (a := sqN W T) (b := byW W * byW W * byW W * (byW W * unT T) * (byW W * unT T)) (Nat.mul_pos (Nat.mul_pos (Nat.mul_pos (Nat.mul_pos h.by_pos h.by_pos) h.by_pos) h.bu_pos) h.bu_pos) (by simpa using b6) (by omega)
  have em2 : ((byW W * byW W * byW W * (byW W * unT T) * (byW W * unT T) : Nat) : Int) = (byW W : Int) ^ 5 * (unT T : Int) ^ 2 := by push_cast; grind
  rw [em2] at m2
  have p5 := powOkX_bd (k := 5) b1
  have p2 := powOkX_bd (k := 2) h.unB
  rw [show ((5 : Nat) : Int) = 5 from rfl] at p5
  rw [show ((2 : Nat) : Int) = 2 from rfl] at p2
  have k5 := mulOk_bd (pow_bd b1 (by omega) 5) (pow_bd h.unB (by omega) 2)
  simp only [dueD]
  generalize frD (low (mnN W T) (byW W * (byW W * unT T))) = r1 at *
  generalize frD (low (sqN W T) (byW W * byW W * byW W * (byW W * unT T) * (byW W * unT T))) = r2 at *
  generalize sqN W T = ss at *
  generalize mnN W T = mm at *
  simp only [plD, frsD, intL] at *
  generalize (byW W : Int) = bb at *
  generalize (unT T : Int) = uu at *
  generalize (dgF W T).map frD = ff at *
  generalize (wN W).map PyData.int = ww at *
  generalize (dgs W T).map PyData.int = dd at *
  generalize (tN T).map (fun l => PyData.list (l.map PyData.int)) = tt at *
  simp [fnOf, fSeq, fNil, fSet, fRet, fDrop, fIf, fFgt, fgtO, fgt, fFor, fIfE, fT, fTru, truD, fAnd, fOr, fNot, fAndV, fOrV, fNotV, fOp2, fVar, fC, fB, fACons, fANil, fTup, fLst, fNeg, gRel, gInt2, gInt2C, gAdd, gMulX_int, gIx, gLen, gAbs, gInt, gEq, gIs, gIsNot, dv_dat, dv_lst, dv_al, dvs, own_dat, own_lst, own_bag, own_dcK, own_scr, flat_dat, flat_lst, Res.fin, frzs_nil, frzs_cons, frz_dat, intT_int, outs, als, argsOf, putArgs, fCall, eqv_int, shp_int, shp_none, shp_bool, noOwn, ownAt, sizeLine_eq, fIter, itemsOf, fRange1, fRange2, eqX_int, eqX_str, fEnumA, fFrz, fNever, permOk, perm, fCallK, fCallP, gMax2, gMin2, gMax3, gMin3, fPar2, fMulti, putM, fAsgG, fLc, F__law_due, gTA, gsCons, gsNil, gN, fListZip, e1, s2, e2, e3, e5, k2, k3, k5, m1, m2, p5, p2, gToT]
end
end Lw

end

/-! K14f: the law's paths; what is told is due -/
noncomputable section
namespace Lw
open PySem PySem.Spec PyProof.Rows L2 Fx
open Ms (Bd Fr low num lcmL Low)

section
variable {m : Nat} {W : List Fr} {T : List (List Fr)}
def ptF (W : List Fr) (T : List (List Fr)) (k : Nat) : Fr := low (ptN W T k) (ptU W T k * byW W)
theorem Sh.pt_pos (h : Sh m W T) (k : Nat) : 0 < ptU W T k * byW W := Nat.mul_pos (Nat.pow_pos h.bu_pos) h.by_pos
theorem Sh.ptB (h : Sh m W T) {k : Nat} (hk : k ≤ 20) : Bd 7219 ((ptU W T k * byW W : Nat) : Int) := by
  have := ((h.puB k).mul h.byB).mono (m := 7219) (by omega)
  simpa using this
theorem ptU_succ (k : Nat) : ((ptU W T (k + 1) * byW W : Nat) : Int) = ((ptU W T k * byW W : Nat) : Int) * (byW W : Nat) * (unT T : Nat) := by
  rw [ptU, ptU, Nat.pow_succ]; push_cast; grind
theorem paths_turn (h : Sh m W T) {k : Nat} (hk : k < 20) (a b : Option MD) (j : Int) {A : List PyData} (hA : A.length < 1000) :
    lsStep (gN 9) b3__law_paths (.int j) [a, b, some (.dat (intL (wN W))), some (.dat (.list ((tN T).map intL))), some (.dat (.int (byW W : Nat))), some (.dat (.int (unT T : Nat))), some (.dat (intL (Lw.mds W T k))), some (.dat (.int ((ptU W T k * byW W : Nat) : Int))), some (.lst A), none, none, none, none, none] =
      some (.nx [a, b, some (.dat (intL (wN W))), some (.dat (.list ((tN T).map intL))), some (.dat (.int (byW W : Nat))), some (.dat (.int (unT T : Nat))), some (.dat (intL (Lw.mds W T (k + 1)))), some (.dat (.int ((ptU W T (k + 1) * byW W : Nat) : Int))), some (.lst (A ++ [frD (ptF W T k)])), none, none, none, none, none]) := by
  have h8 := h.m8
  have pB := h.ptB (Nat.le_of_lt hk)
  have k1 := mulOk_bd pB h.byB
  have k2 := mulOk_bd (pB.mul h.byB) h.unB
  have s1 := sum_ok h.wbd (h.mdB k) (by rw [h.wlen]; omega)
  have hp : dot (wN W) (Lw.mds W T k) = ptN W T k := rfl
  rw [hp] at s1
  have l1 := lowest_bd (n := 7219) (a := ptN W T k) (h.pt_pos k) pB (by omega)
  have e1 := fun (c d e f g j' i' : Option MD) => zip_mul h.wbd (h.mdB k) (by rw [h.wlen]; omega) (tg := gT 2 (gsCons (gN 11) (gsCons (gN 12) gsNil))) (fe := e1__law_paths) (own := [11, 12]) (Γ := [a, b, c, d, e, f, g, j', i', some (.dat (.int j)), none, none, none, none]) fun x y hxy => by simp [fnOf, fSeq, fNil, fSet, fRet, fDrop, fIf, fFgt, fgtO, fgt, fFor, fIfE, fT, fTru, truD, fAnd, fOr, fNot, fAndV, fOrV, fNotV, fOp2, fVar, fC, fB, fACons, fANil, fTup, fLst, fNeg, gRel, gInt2, gInt2C, gAdd, gMulX_int, gIx, gLen, gAbs, gInt, gEq, gIs, gIsNot, dv_dat, dv_lst, dv_al, dvs, own_dat, own_lst, own_bag, own_dcK, own_scr, flat_dat, flat_lst, Res.fin, frzs_nil, frzs_cons, frz_dat, intT_int, outs, als, argsOf, putArgs, fCall, eqv_int, shp_int, shp_none, shp_bool, noOwn, ownAt, sizeLine_eq, fIter, itemsOf, fRange1, fRange2, eqX_int, eqX_str, fEnumA, fFrz, fNever, permOk, perm, fCallK, fCallP, gMax2, gMin2, gMax3, gMin3, fPar2, fMulti, putM, fAsgG, fLc, lcStep, lsStep, tYesF, gN, gT, gsCons, gsNil, e1__law_paths, hxy]
  have hq := zw_bd h.wbd (h.mdB k)
  have e2 := fun (c d e f g j' i' : Option MD) => loopL_map (acc := []) (g := intL) (f := fun r : List Int => PyData.int (dot r (List.zipWith (· * ·) (wN W) (Lw.mds W T k)))) (l := tN T) (tg := gN 13) (tt := tYesF) (fe := e2__law_paths) (own := [13]) (Γ := [a, b, c, d, e, f, g, j', i', some (.dat (.int j)), some (.dat (intL (List.zipWith (· * ·) (wN W) (Lw.mds W T k)))), none, none, none]) (by rw [sizeLine_eq, h.tlen]; simp; omega) fun r hr => by
    have s2 := sum_ok (h.tbd r hr) hq (by rw [h.trlen r hr]; omega)
    generalize dot r (List.zipWith (· * ·) (wN W) (Lw.mds W T k)) = z at *
    generalize intL (List.zipWith (· * ·) (wN W) (Lw.mds W T k)) = ww at *
    generalize intL r = rr at *
    simp [fnOf, fSeq, fNil, fSet, fRet, fDrop, fIf, fFgt, fgtO, fgt, fFor, fIfE, fT, fTru, truD, fAnd, fOr, fNot, fAndV, fOrV, fNotV, fOp2, fVar, fC, fB, fACons, fANil, fTup, fLst, fNeg, gRel, gInt2, gInt2C, gAdd, gMulX_int, gIx, gLen, gAbs, gInt, gEq, gIs, gIsNot, dv_dat, dv_lst, dv_al, dvs, own_dat, own_lst, own_bag, own_dcK, own_scr, flat_dat, flat_lst, Res.fin, frzs_nil, frzs_cons, frz_dat, intT_int, outs, als, argsOf, putArgs, fCall, eqv_int, shp_int, shp_none, shp_bool, noOwn, ownAt, sizeLine_eq, fIter, itemsOf, fRange1, fRange2, eqX_int, eqX_str, fEnumA, fFrz, fNever, permOk, perm, fCallK, fCallP, gMax2, gMin2, gMax3, gMin3, fPar2, fMulti, putM, fAsgG, fLc, lcStep, lsStep, tYesF, gN, gT, gsCons, gsNil, e2__law_paths, s2]
  have ed : (Lw.mds W T (k + 1)).map PyData.int = (tN T).map fun r => PyData.int (dot r (List.zipWith (· * ·) (wN W) (Lw.mds W T k))) := by simp [mds_succ, nxM]
  simp only [List.nil_append] at e2
  rw [← ed] at e2
  have hA' : A.length < 16777216 := by omega
  rw [ptU_succ]
  simp only [ptF]
  generalize frD (low (ptN W T k) (ptU W T k * byW W)) = r at *
  generalize ptN W T k = nn at *
  generalize ((ptU W T k * byW W : Nat) : Int) = pu at *
  generalize (byW W : Int) = bb at *
  generalize (unT T : Int) = uu at *
  simp only [intL] at *
  generalize (Lw.mds W T (k + 1)).map PyData.int = m1 at *
  generalize (List.zipWith (· * ·) (wN W) (Lw.mds W T k)).map PyData.int = zz at *
  generalize (Lw.mds W T k).map PyData.int = m0 at *
  generalize (wN W).map PyData.int = ww at *
  generalize (tN T).map (fun l => PyData.list (l.map PyData.int)) = tt at *
  simp [fnOf, fSeq, fNil, fSet, fRet, fDrop, fIf, fFgt, fgtO, fgt, fFor, fIfE, fT, fTru, truD, fAnd, fOr, fNot, fAndV, fOrV, fNotV, fOp2, fVar, fC, fB, fACons, fANil, fTup, fLst, fNeg, gRel, gInt2, gInt2C, gAdd, gMulX_int, gIx, gLen, gAbs, gInt, gEq, gIs, gIsNot, dv_dat, dv_lst, dv_al, dvs, own_dat, own_lst, own_bag, own_dcK, own_scr, flat_dat, flat_lst, Res.fin, frzs_nil, frzs_cons, frz_dat, intT_int, outs, als, argsOf, putArgs, fCall, eqv_int, shp_int, shp_none, shp_bool, noOwn, ownAt, sizeLine_eq, fIter, itemsOf, fRange1, fRange2, eqX_int, eqX_str, fEnumA, fFrz, fNever, permOk, perm, fCallK, fCallP, gMax2, gMin2, gMax3, gMin3, fPar2, fMulti, putM, fAsgG, fLc, lcStep, lsStep, tYesF, gN, gT, gsCons, gsNil, b3__law_paths, fListZip, e1, e2, s1, l1, k1, k2, fAppend, lstS, hA']
def psD (W : List Fr) (T : List (List Fr)) (n : Nat) : PyData := .list (frD (0, 1) :: (List.range n).map fun k => frD (ptF W T k))
theorem psD_at {n k : Nat} (hk : k < n) : atI (frD (0, 1) :: (List.range n).map fun k => frD (ptF W T k)) ((k + 1 : Nat) : Int) = some (frD (ptF W T k)) := by
  refine atI_nat ?_
  rw [List.getElem?_cons_succ, List.getElem?_map, List.getElem?_range hk]; rfl
theorem paths_ok (h : Sh m W T) {n : Nat} (hn : n ≤ 20) : F__law_paths [.dat (plD W T), .dat (.int (n : Nat))] = some (.dat (psD W T n), [none, none]) := by
  have h8 := h.m8
  have key : ∀ (a b : Option MD) (n : Nat), n ≤ 20 → loopS (gN 9) b3__law_paths ((List.range n).map fun (x : Nat) => PyData.int x) [a, b, some (.dat (intL (wN W))), some (.dat (.list ((tN T).map intL))), some (.dat (.int (byW W : Nat))), some (.dat (.int (unT T : Nat))), some (.dat (intL (Lw.mds W T 0))), some (.dat (.int ((ptU W T 0 * byW W : Nat) : Int))), some (.lst [frD (0, 1)]), none, none, none, none, none] =
      some (.nx [a, b, some (.dat (intL (wN W))), some (.dat (.list ((tN T).map intL))), some (.dat (.int (byW W : Nat))), some (.dat (.int (unT T : Nat))), some (.dat (intL (Lw.mds W T n))), some (.dat (.int ((ptU W T n * byW W : Nat) : Int))), some (.lst (frD (0, 1) :: (List.range n).map fun k => frD (ptF W T k))), none, none, none, none, none]) := by
    intro a b n hn
    obtain ⟨Γ, e, hΓ⟩ := loopS_ok (tg := gN 9) (b := b3__law_paths) (P := fun k Γ => Γ = [a, b, some (.dat (intL (wN W))), some (.dat (.list ((tN T).map intL))), some (.dat (.int (byW W : Nat))), some (.dat (.int (unT T : Nat))), some (.dat (intL (Lw.mds W T k))), some (.dat (.int ((ptU W T k * byW W : Nat) : Int))), some (.lst (frD (0, 1) :: (List.range k).map fun k => frD (ptF W T k))), none, none, none, none, none])
      (items := (List.range n).map fun (x : Nat) => PyData.int x) (Γ := [a, b, some (.dat (intL (wN W))), some (.dat (.list ((tN T).map intL))), some (.dat (.int (byW W : Nat))), some (.dat (.int (unT T : Nat))), some (.dat (intL (Lw.mds W T 0))), some (.dat (.int ((ptU W T 0 * byW W : Nat) : Int))), some (.lst [frD (0, 1)]), none, none, none, none, none]) 0 rfl fun i d Γ hd hΓ => by
        subst hΓ
        have hi : i < n := by
          have := (List.getElem?_eq_some_iff.mp hd).1
          simpa using this
        rw [List.getElem?_map, List.getElem?_range hi] at hd
        cases hd
        refine ⟨_, .inl (paths_turn h (by omega) a b _ (by simp; omega)), ?_⟩
        rw [Nat.zero_add, List.range_succ, List.map_append, List.cons_append]
        rfl
    rw [e, hΓ]
    simp
  have e1 := fun a b => key a b n hn
  have r1 := rg1_nat (p := n) (by omega)
  have e5 : gMulX (.list [.int 1]) (.int (m : Nat)) = some (.new (List.replicate m (.int 1))) := gMul_rep (.int 1) (by omega)
  have e6 : (Lw.mds W T 0).map PyData.int = List.replicate m (.int 1) := by simp [Lw.mds, mdN, h.lw]
  have e7 : ((ptU W T 0 * byW W : Nat) : Int) = (byW W : Nat) := by simp [ptU]
  have e8 : ((wN W).map PyData.int).length = m := by rw [List.length_map, h.wlen]
  have e9 : frD (0, 1) = .tuple [.int 0, .int 1] := rfl
  simp only [intL] at e1
  simp only [e6, e7, e9] at e1
  simp only [psD, e9]
  generalize (List.range n).map (fun k => frD (ptF W T k)) = res at *
  simp only [plD, intL] at *
  generalize (byW W : Int) = bb at *
  generalize (unT T : Int) = uu at *
  generalize List.replicate m (PyData.int 1) = rp at *
  generalize (wN W).map PyData.int = ww at *
  generalize (tN T).map (fun l => PyData.list (l.map PyData.int)) = tt at *
  generalize (List.range n).map (fun (x : Nat) => PyData.int x) = rr at *
  simp [fnOf, fSeq, fNil, fSet, fRet, fDrop, fIf, fFgt, fgtO, fgt, fFor, fIfE, fT, fTru, truD, fAnd, fOr, fNot, fAndV, fOrV, fNotV, fOp2, fVar, fC, fB, fACons, fANil, fTup, fLst, fNeg, gRel, gInt2, gInt2C, gAdd, gMulX_int, gIx, gLen, gAbs, gInt, gEq, gIs, gIsNot, dv_dat, dv_lst, dv_al, dvs, own_dat, own_lst, own_bag, own_dcK, own_scr, flat_dat, flat_lst, Res.fin, frzs_nil, frzs_cons, frz_dat, intT_int, outs, als, argsOf, putArgs, fCall, eqv_int, shp_int, shp_none, shp_bool, noOwn, ownAt, sizeLine_eq, fIter, itemsOf, fRange1, fRange2, eqX_int, eqX_str, fEnumA, fFrz, fNever, permOk, perm, fCallK, fCallP, gMax2, gMin2, gMax3, gMin3, fPar2, fMulti, putM, fAsgG, fLc, F__law_paths, gTA, gsCons, gsNil, gN, e1, e5, e8, r1]
theorem paths_told (h : Sh m W T) {W' : List Fr} {T' : List (List Fr)} {n : Nat} (hs : ∀ k, k < n → ptF W' T' k = ptF W T k) (hn : n ≤ 20) (is : List Nat) (his : ∀ i ∈ is, 1 ≤ i ∧ i ≤ n) (b : Bool) :
    F__law_are_paths_told [.dat (shtD W T), .dat (psD W' T' n), .dat (.list (is.map fun (i : Nat) => .int i)), .dat (.bool b)] = some (.dat (.bool true), [none, none, none, none]) := by
  have e1 : ∀ c : Option MD, loopS (gN 4) b1__law_are_paths_told (is.map fun (i : Nat) => PyData.int i) [some (.dat (shtD W T)), some (.dat (psD W' T' n)), c, some (.dat (.bool b)), none, none] = some (.nx [some (.dat (shtD W T)), some (.dat (psD W' T' n)), c, some (.dat (.bool b)), none, none]) := fun c => loopS_all (g := fun (i : Nat) => PyData.int i) is fun i hi => by
    obtain ⟨k, rfl⟩ : ∃ k, i = k + 1 := ⟨i - 1, by have := his i hi; omega⟩
    have hk : k < n := by have := his _ hi; omega
    have p := path_ok h (k := k) (by omega)
    have a := psD_at (W := W') (T := T') hk
    have hk' : ptF W' T' k = low (ptN W T k) (ptU W T k * byW W) := hs k hk
    rw [hk'] at a
    have s := same8 (fr_plain (low (ptN W T k) (ptU W T k * byW W))) (by decide)
    generalize frD (low (ptN W T k) (ptU W T k * byW W)) = r at *
    generalize shtD W T = sh at *
    simp only [psD]
    generalize (frD (0, 1) :: (List.range n).map fun k => frD (ptF W' T' k)) = ps at *
    generalize ((k + 1 : Nat) : Int) = kk at *
    cases b with
    | true => simp [fnOf, fSeq, fNil, fSet, fRet, fDrop, fIf, fFgt, fgtO, fgt, fFor, fIfE, fT, fTru, truD, fAnd, fOr, fNot, fAndV, fOrV, fNotV, fOp2, fVar, fC, fB, fACons, fANil, fTup, fLst, fNeg, gRel, gInt2, gInt2C, gAdd, gMulX_int, gIx, gLen, gAbs, gInt, gEq, gIs, gIsNot, dv_dat, dv_lst, dv_al, dvs, own_dat, own_lst, own_bag, own_dcK, own_scr, flat_dat, flat_lst, Res.fin, frzs_nil, frzs_cons, frz_dat, intT_int, outs, als, argsOf, putArgs, fCall, eqv_int, shp_int, shp_none, shp_bool, noOwn, ownAt, sizeLine_eq, fIter, itemsOf, fRange1, fRange2, eqX_int, eqX_str, fEnumA, fFrz, fNever, permOk, perm, fCallK, fCallP, gMax2, gMin2, gMax3, gMin3, fPar2, fMulti, putM, fAsgG, fLc, lcStep, lsStep, tYesF, gN, gT, gsCons, gsNil, b1__law_are_paths_told, p, a, s]
    | false => simp [fnOf, fSeq, fNil, fSet, fRet, fDrop, fIf, fFgt, fgtO, fgt, fFor, fIfE, fT, fTru, truD, fAnd, fOr, fNot, fAndV, fOrV, fNotV, fOp2, fVar, fC, fB, fACons, fANil, fTup, fLst, fNeg, gRel, gInt2, gInt2C, gAdd, gMulX_int, gIx, gLen, gAbs, gInt, gEq, gIs, gIsNot, dv_dat, dv_lst, dv_al, dvs, own_dat, own_lst, own_bag, own_dcK, own_scr, flat_dat, flat_lst, Res.fin, frzs_nil, frzs_cons, frz_dat, intT_int, outs, als, argsOf, putArgs, fCall, eqv_int, shp_int, shp_none, shp_bool, noOwn, ownAt, sizeLine_eq, fIter, itemsOf, fRange1, fRange2, eqX_int, eqX_str, fEnumA, fFrz, fNever, permOk, perm, fCallK, fCallP, gMax2, gMin2, gMax3, gMin3, fPar2, fMulti, putM, fAsgG, fLc, lcStep, lsStep, tYesF, gN, gT, gsCons, gsNil, b1__law_are_paths_told, p, a, s]
  generalize shtD W T = sh at *
  generalize psD W' T' n = ps at *
  generalize is.map (fun (i : Nat) => PyData.int i) = il at *
  simp [fnOf, fSeq, fNil, fSet, fRet, fDrop, fIf, fFgt, fgtO, fgt, fFor, fIfE, fT, fTru, truD, fAnd, fOr, fNot, fAndV, fOrV, fNotV, fOp2, fVar, fC, fB, fACons, fANil, fTup, fLst, fNeg, gRel, gInt2, gInt2C, gAdd, gMulX_int, gIx, gLen, gAbs, gInt, gEq, gIs, gIsNot, dv_dat, dv_lst, dv_al, dvs, own_dat, own_lst, own_bag, own_dcK, own_scr, flat_dat, flat_lst, Res.fin, frzs_nil, frzs_cons, frz_dat, intT_int, outs, als, argsOf, putArgs, fCall, eqv_int, shp_int, shp_none, shp_bool, noOwn, ownAt, sizeLine_eq, fIter, itemsOf, fRange1, fRange2, eqX_int, eqX_str, fEnumA, fFrz, fNever, permOk, perm, fCallK, fCallP, gMax2, gMin2, gMax3, gMin3, fPar2, fMulti, putM, fAsgG, fLc, F__law_are_paths_told, e1]
end
end Lw

end

/-! K14g: degrees are alike just where the square is nought -/
noncomputable section
namespace Lw
open PySem PySem.Spec PyProof.Rows L2 Fx
open Ms (Bd Fr low num lcmL Low)

theorem sum_nn {l : List Int} (h : ∀ x ∈ l, 0 ≤ x) : 0 ≤ l.sum := by
  induction l with
  | nil => simp
  | cons a l ih =>
    have h1 := h a List.mem_cons_self
    have h2 := ih fun x hx => h x (List.mem_cons_of_mem _ hx)
    rw [List.sum_cons]; omega
theorem sum_zero {l : List Int} (h : ∀ x ∈ l, 0 ≤ x) (e : l.sum = 0) : ∀ x ∈ l, x = 0 := by
  induction l with
  | nil => intro x hx; cases hx
  | cons a l ih =>
    have h1 := h a List.mem_cons_self
    have h2 := sum_nn fun x hx => h x (List.mem_cons_of_mem _ hx)
    rw [List.sum_cons] at e
    intro x hx
    rcases List.mem_cons.mp hx with rfl | hx
    · omega
    · exact ih (fun x hx => h x (List.mem_cons_of_mem _ hx)) (by omega) x hx
theorem mem_zip_right {x y : List Int} (hl : x.length = y.length) {b : Int} (hb : b ∈ y) : ∃ a, (a, b) ∈ x.zip y := by
  induction x generalizing y with
  | nil => cases y with
    | nil => cases hb
    | cons _ _ => simp at hl
  | cons a x ih =>
    cases y with
    | nil => cases hb
    | cons c y =>
      rcases List.mem_cons.mp hb with rfl | hb
      · exact ⟨a, by simp⟩
      · obtain ⟨a', h⟩ := ih (by simpa using hl) hb
        exact ⟨a', by rw [List.zip_cons_cons]; exact List.mem_cons_of_mem _ h⟩
theorem dot_const {x y : List Int} (hl : x.length = y.length) {d : Int} (h : ∀ b ∈ y, b = d) : dot x y = x.sum * d := by
  induction x generalizing y with
  | nil => simp [dot]
  | cons a x ih =>
    cases y with
    | nil => simp at hl
    | cons b y =>
      have hb := h b List.mem_cons_self
      have := ih (y := y) (by simpa using hl) fun b hb => h b (List.mem_cons_of_mem _ hb)
      simp only [dot, List.zipWith_cons_cons, List.sum_cons] at this ⊢
      rw [this, hb]; grind
theorem sq_zero {w d : List Int} {n : Int} (hl : w.length = d.length) (hw : ∀ x ∈ w, 0 < x) (hs : w.sum = n) (hn : 0 < n) :
    (List.zipWith (fun w x => w * (x * n - dot w' d') * (x * n - dot w' d')) w d).sum = 0 ∧ w' = w ∧ d' = d → ∀ x ∈ d, ∀ y ∈ d, x = y := by
  rintro ⟨e, rfl, rfl⟩ x hx y hy
  have z : ∀ b ∈ d', b * n = dot w' d' := fun b hb => by
    rw [← Fx.zip_sum _ _ fun w x => w * (x * n - dot w' d') * (x * n - dot w' d')] at e
    obtain ⟨a, ha⟩ := mem_zip_right hl hb
    have nn : ∀ p ∈ w'.zip d', 0 ≤ p.1 * (p.2 * n - dot w' d') * (p.2 * n - dot w' d') := fun p hp => by
      have h1 := hw _ (List.of_mem_zip hp).1
      have h2 : 0 ≤ (p.2 * n - dot w' d') * (p.2 * n - dot w' d') := by
        rcases Int.le_total 0 (p.2 * n - dot w' d') with h | h
        · exact Int.mul_nonneg h h
        · exact Int.mul_nonneg_of_nonpos_of_nonpos h h
      rw [Int.mul_assoc]
      exact Int.mul_nonneg (Int.le_of_lt h1) h2
    have := sum_zero (l := (w'.zip d').map fun p => p.1 * (p.2 * n - dot w' d') * (p.2 * n - dot w' d')) (fun x hx => by
      obtain ⟨p, hp, rfl⟩ := List.mem_map.mp hx
      exact nn p hp) e _ (List.mem_map.mpr ⟨(a, b), ha, rfl⟩)
    have h1 := hw _ (List.of_mem_zip ha).1
    dsimp only at this h1
    rcases Int.mul_eq_zero.mp this with h | h
    · rcases Int.mul_eq_zero.mp h with h | h
      · omega
      · omega
    · omega
  have h1 := z x hx
  have h2 := z y hy
  exact Int.eq_of_mul_eq_mul_right (Int.ne_of_gt hn) (h1.trans h2.symm)
theorem sq_same {w d : List Int} {n : Int} (hl : w.length = d.length) (hs : w.sum = n) (h : ∀ x ∈ d, ∀ y ∈ d, x = y) : (List.zipWith (fun u x => u * (x * n - dot w d) * (x * n - dot w d)) w d).sum = 0 := by
  rw [← Fx.zip_sum _ _ fun u x => u * (x * n - dot w d) * (x * n - dot w d)]
  have : ∀ (l : List (Int × Int)), (∀ p ∈ l, p.2 * n - dot w d = 0) → (l.map fun p => p.1 * (p.2 * n - dot w d) * (p.2 * n - dot w d)).sum = 0 := by
    intro l
    induction l with
    | nil => intro _; rfl
    | cons p l ih =>
      intro hp
      rw [List.map_cons, List.sum_cons, ih fun q hq => hp q (List.mem_cons_of_mem _ hq), hp p List.mem_cons_self]
      simp
  refine this _ fun p hp => ?_
  have h2 := (List.of_mem_zip hp).2
  rw [dot_const hl (d := p.2) fun b hb => h b hb p.2 h2, hs]
  grind
/-- weights above nought that come to one -/
structure Vd (m : Nat) (W : List Fr) (T : List (List Fr)) : Prop extends Sh m W T where
  wp : ∀ x ∈ wN W, 0 < x
  ws : (wN W).sum = byW W
section
variable {m : Nat} {W : List Fr} {T : List (List Fr)}
theorem gAll_mapB {α : Type} (l : List α) (f : α → Bool) : gAll [.list (l.map fun d => PyData.bool (f d))] = some (.val (.bool (l.all f))) := by
  have e : (l.map fun d => PyData.bool (f d)) = (l.map f).map PyData.bool := by rw [List.map_map]; rfl
  show (boolsOf (l.map fun d => PyData.bool (f d))).map (fun bs => Res.val (.bool (bs.all id))) = _
  rw [e, boolsOf_map, Option.map_some, List.all_map]
  rfl
theorem dgF_cons (h : Sh m W T) : ∃ q l, dgF W T = q :: l := by
  have : (dgF W T).length = m := by simp [dgF, h.dlen]
  cases e : dgF W T with
  | nil => rw [e, List.length_nil] at this; have := h.m1; omega
  | cons q l => exact ⟨q, l, rfl⟩
theorem like_iff (h : Vd m W T) {q : Fr} {l : List Fr} (e : dgF W T = q :: l) {U : Nat} (hU : 0 < U) : decide (low (sqN W T) U = (0, 1)) = (dgF W T).all fun x => decide (x = q) := by
  have hl : (wN W).length = (dgs W T).length := by rw [h.wlen, h.dlen]
  have hn : (0 : Int) < byW W := by have := h.by_pos; omega
  have all_iff : ((dgF W T).all fun x => decide (x = q)) = true ↔ ∀ x ∈ dgs W T, ∀ y ∈ dgs W T, x = y := by
    rw [List.all_eq_true]
    constructor
    · intro hh x hx y hy
      have h1 := of_decide_eq_true (hh _ (List.mem_map.mpr ⟨x, hx, rfl⟩))
      have h2 := of_decide_eq_true (hh _ (List.mem_map.mpr ⟨y, hy, rfl⟩))
      have h3 := Ms.low_inj h.bu_pos h.bu_pos (h1.trans h2.symm)
      exact Int.eq_of_mul_eq_mul_right (by have := h.bu_pos; omega) h3
    · intro hh z hz
      have hq : q ∈ dgF W T := by rw [e]; exact List.mem_cons_self
      obtain ⟨x, hx, rfl⟩ := List.mem_map.mp hz
      obtain ⟨y, hy, rfl⟩ := List.mem_map.mp hq
      exact decide_eq_true (by rw [hh x hx y hy])
  rw [Bool.eq_iff_iff, all_iff, decide_eq_true_iff, Ms.low_zero_iff hU]
  constructor
  · intro hz
    exact sq_zero (w' := wN W) (d' := dgs W T) hl h.wp h.ws hn ⟨hz, rfl, rfl⟩
  · intro hh
    exact sq_same hl h.ws hh
theorem Sh.dFlen (h : Sh m W T) : (dgF W T).length = m := by simp [dgF, h.dlen]
theorem dgF_plain (h : Sh m W T) : Plain 3 (frsD (dgF W T)) := frs_plain _ (by rw [h.dFlen]; have := h.m8; omega)
theorem due_plain (h : Sh m W T) : ∀ d ∈ [frD (low (mnN W T) (byW W * (byW W * unT T))), frsD (dgF W T), frD (low (sqN W T) (byW W * byW W * byW W * (byW W * unT T) * (byW W * unT T)))], Plain 3 d := fun d hd => by
  simp only [List.mem_cons, List.not_mem_nil, or_false] at hd
  rcases hd with rfl | rfl | rfl
  · exact plain_up (by decide) (fr_plain _)
  · exact dgF_plain h
  · exact plain_up (by decide) (fr_plain _)
theorem Rp.sheet (h : Sh m W T) : Rp 4 500 (shtD W T) := by
  have h8 := h.m8
  have hw : Rp 2 25 (frsD W) := (Rp.frs (k := 8) (fun q hq => by
    have h1 := h.dw q hq
    have h2 := h.uw q hq
    have b : Bd 500 ((q.2 : Nat) : Int) := Bd.mono (nat_bd h1.2) (by omega)
    exact ⟨b.of_le (by simpa using h2), b⟩) (by rw [h.lw]; omega)).mono (by omega) (by omega)
  have ht : Rp 3 201 (tblD T) := (Rp.tuple (k := 8) (c := 25) (n := 2) (fun d hd => by
    obtain ⟨r, hr, rfl⟩ := List.mem_map.mp hd
    exact (Rp.frs (k := 8) (fun q hq => by
      have h1 := Nat.le_trans (Nat.le_of_dvd h.un_pos (h.tdvd r hr q hq).2) h.un_le
      have h2 := h.ut r hr q hq
      have b : Bd 500 ((q.2 : Nat) : Int) := Bd.mono (nat_bd h1) (by omega)
      exact ⟨b.of_le (by simpa using h2), b⟩) (by rw [h.lr r hr]; omega)).mono (by omega) (by omega)) (by rw [List.length_map, h.lt]; omega)).mono (by omega) (by omega)
  refine (Rp.tuple (k := 2) (c := 201) (n := 3) (fun d hd => ?_) (by simp)).mono (by omega) (by omega)
  simp only [List.mem_cons, List.not_mem_nil, or_false] at hd
  rcases hd with rfl | rfl
  · exact hw.mono (by omega) (by omega)
  · exact ht
theorem told_ok (h : Vd m W T) (b : Bool) : F__law_are_told [.dat (shtD W T), .dat (dueD W T), .dat (.bool b)] = some (.dat (.bool true), [none, none, none]) := by
  have h8 := h.m8
  obtain ⟨q, l, eq⟩ := dgF_cons h.toSh
  have hU : 0 < byW W * byW W * byW W * (byW W * unT T) * (byW W * unT T) := Nat.mul_pos (Nat.mul_pos (Nat.mul_pos (Nat.mul_pos h.by_pos h.by_pos) h.by_pos) h.bu_pos) h.bu_pos
  have lk := like_iff h eq hU
  have r := gReprX_ok (Rp.sheet h.toSh) (by decide) (by decide)
  have rs : ∀ s : Str, gEqX true (.str s) (.str s) = some (.val (.bool false)) := fun s => by rw [eqX_str]; simp
  have m1 := mean_ok h.toSh
  have m2 := degrees_ok h.toSh
  have m3 := square_ok h.toSh
  have pl := due_plain h.toSh
  simp only [dueD] at *
  have ez := eqX_fr false (low (sqN W T) (byW W * byW W * byW W * (byW W * unT T) * (byW W * unT T))) (0, 1)
  simp only [Bool.false_eq_true, if_false] at ez
  rw [lk] at ez
  have e01 : frD (0, 1) = .tuple [.int 0, .int 1] := rfl
  rw [e01] at ez
  have lg : (dgF W T).length ≤ 1000 := by have : (dgF W T).length = m := by simp [dgF, h.dlen]
                                          omega
  generalize hB : ((dgF W T).all fun x => decide (x = q)) = B at *
  have e1 : ∀ (a c d e : Option MD) (x z : PyData), loopL (gN 6) tYesF e1__law_are_told [6] ((dgF W T).map frD) [] [a, some (.dat (.list [x, frsD (dgF W T), z])), c, d, e, none, none, none, none] = some ((dgF W T).map fun y => .bool (decide (y = q)), [a, some (.dat (.list [x, frsD (dgF W T), z])), c, d, e, none, none, none, none]) := fun a c d e x z => by
    have := loopL_map (acc := []) (g := frD) (f := fun y : Fr => PyData.bool (decide (y = q))) (l := dgF W T) (tg := gN 6) (tt := tYesF) (fe := e1__law_are_told) (own := [6]) (Γ := [a, some (.dat (.list [x, frsD (dgF W T), z])), c, d, e, none, none, none, none]) (by rw [sizeLine_eq]; simp; omega) fun y hy => by
      have q1 := eqX_fr false y q
      have x0 : atI ((dgF W T).map frD) 0 = some (frD q) := by rw [eq]; exact atI_nat (j := 0) rfl
      have x1 : atI [x, .tuple ((dgF W T).map frD), z] 1 = some (.tuple ((dgF W T).map frD)) := rfl
      simp only [Bool.false_eq_true, if_false] at q1
      simp only [frsD]
      generalize (dgF W T).map frD = ff at *
      generalize frD y = yy at *
      generalize frD q = qq at *
      simp [fnOf, fSeq, fNil, fSet, fRet, fDrop, fIf, fFgt, fgtO, fgt, fFor, fIfE, fT, fTru, truD, fAnd, fOr, fNot, fAndV, fOrV, fNotV, fOp2, fVar, fC, fB, fACons, fANil, fTup, fLst, fNeg, gRel, gInt2, gInt2C, gAdd, gMulX_int, gIx, gLen, gAbs, gInt, gEq, gIs, gIsNot, dv_dat, dv_lst, dv_al, dvs, own_dat, own_lst, own_bag, own_dcK, own_scr, flat_dat, flat_lst, Res.fin, frzs_nil, frzs_cons, frz_dat, intT_int, outs, als, argsOf, putArgs, fCall, eqv_int, shp_int, shp_none, shp_bool, noOwn, ownAt, sizeLine_eq, fIter, itemsOf, fRange1, fRange2, eqX_int, eqX_str, fEnumA, fFrz, fNever, permOk, perm, fCallK, fCallP, gMax2, gMin2, gMax3, gMin3, fPar2, fMulti, putM, fAsgG, fLc, lcStep, lsStep, tYesF, gN, gT, gsCons, gsNil, e1__law_are_told, x0, x1, q1]
    rw [this, List.nil_append]
  have e2 := gAll_mapB (dgF W T) fun y => decide (y = q)
  rw [hB] at e2
  generalize (dgF W T).map (fun y => PyData.bool (decide (y = q))) = bs at *
  have e3 : ∀ (a b' c d e f : Option MD), loopL (gT 2 (gsCons (gN 7) (gsCons (gN 8) gsNil))) tYesF e2__law_are_told [7, 8] (zipD [frD (low (mnN W T) (byW W * (byW W * unT T))), frsD (dgF W T), frD (low (sqN W T) (byW W * byW W * byW W * (byW W * unT T) * (byW W * unT T)))] [frD (low (mnN W T) (byW W * (byW W * unT T))), frsD (dgF W T), frD (low (sqN W T) (byW W * byW W * byW W * (byW W * unT T) * (byW W * unT T)))]) [] [a, b', c, d, e, f, none, none, none] =
      some ([.bool true, .bool true, .bool true], [a, b', c, d, e, f, none, none, none]) := fun a b' c d e f => by
    rw [zipD_self]
    have := loopL_map (acc := []) (g := fun d : PyData => PyData.tuple [d, d]) (f := fun _ => PyData.bool true) (l := [frD (low (mnN W T) (byW W * (byW W * unT T))), frsD (dgF W T), frD (low (sqN W T) (byW W * byW W * byW W * (byW W * unT T) * (byW W * unT T)))]) (tg := gT 2 (gsCons (gN 7) (gsCons (gN 8) gsNil))) (tt := tYesF) (fe := e2__law_are_told) (own := [7, 8]) (Γ := [a, b', c, d, e, f, none, none, none]) (by simp [sizeLine_eq]) fun y hy => by
      have s := same8 (pl y hy) (by decide)
      simp [fnOf, fSeq, fNil, fSet, fRet, fDrop, fIf, fFgt, fgtO, fgt, fFor, fIfE, fT, fTru, truD, fAnd, fOr, fNot, fAndV, fOrV, fNotV, fOp2, fVar, fC, fB, fACons, fANil, fTup, fLst, fNeg, gRel, gInt2, gInt2C, gAdd, gMulX_int, gIx, gLen, gAbs, gInt, gEq, gIs, gIsNot, dv_dat, dv_lst, dv_al, dvs, own_dat, own_lst, own_bag, own_dcK, own_scr, flat_dat, flat_lst, Res.fin, frzs_nil, frzs_cons, frz_dat, intT_int, outs, als, argsOf, putArgs, fCall, eqv_int, shp_int, shp_none, shp_bool, noOwn, ownAt, sizeLine_eq, fIter, itemsOf, fRange1, fRange2, eqX_int, eqX_str, fEnumA, fFrz, fNever, permOk, perm, fCallK, fCallP, gMax2, gMin2, gMax3, gMin3, fPar2, fMulti, putM, fAsgG, fLc, lcStep, lsStep, tYesF, gN, gT, gsCons, gsNil, e2__law_are_told, s]
    rw [this]
    rfl
  have e4 : gAll [.list [.bool true, .bool true, .bool true]] = some (.val (.bool true)) := gAll_true [.none, .none, .none]
  have eb : gEqX true (.bool B) (.bool B) = some (.val (.bool false)) := by rw [eqX_bool]; simp
  generalize (shtD W T).shown = sn at *
  generalize shtD W T = sh at *
  clear pl lk
  generalize frD (low (mnN W T) (byW W * (byW W * unT T))) = r1 at *
  generalize frD (low (sqN W T) (byW W * byW W * byW W * (byW W * unT T) * (byW W * unT T))) = r3 at *
  simp only [frsD] at *
  generalize (dgF W T).map frD = ff at *
  have rs' := rs sn
  have x1 : ∀ x y z : PyData, atI [x, y, z] 1 = some y := fun _ _ _ => rfl
  have x2 : ∀ x y z : PyData, atI [x, y, z] 2 = some z := fun _ _ _ => rfl
  cases b with
  | true => simp [fnOf, fSeq, fNil, fSet, fRet, fDrop, fIf, fFgt, fgtO, fgt, fFor, fIfE, fT, fTru, truD, fAnd, fOr, fNot, fAndV, fOrV, fNotV, fOp2, fVar, fC, fB, fACons, fANil, fTup, fLst, fNeg, gRel, gInt2, gInt2C, gAdd, gMulX_int, gIx, gLen, gAbs, gInt, gEq, gIs, gIsNot, dv_dat, dv_lst, dv_al, dvs, own_dat, own_lst, own_bag, own_dcK, own_scr, flat_dat, flat_lst, Res.fin, frzs_nil, frzs_cons, frz_dat, intT_int, outs, als, argsOf, putArgs, fCall, eqv_int, shp_int, shp_none, shp_bool, noOwn, ownAt, sizeLine_eq, fIter, itemsOf, fRange1, fRange2, eqX_int, eqX_str, fEnumA, fFrz, fNever, permOk, perm, fCallK, fCallP, gMax2, gMin2, gMax3, gMin3, fPar2, fMulti, putM, fAsgG, fLc, F__law_are_told, r, m1, m2, m3, ez, e1, e2, e3, e4, eb, rs', x1, x2, fListZip]
  | false => simp [fnOf, fSeq, fNil, fSet, fRet, fDrop, fIf, fFgt, fgtO, fgt, fFor, fIfE, fT, fTru, truD, fAnd, fOr, fNot, fAndV, fOrV, fNotV, fOp2, fVar, fC, fB, fACons, fANil, fTup, fLst, fNeg, gRel, gInt2, gInt2C, gAdd, gMulX_int, gIx, gLen, gAbs, gInt, gEq, gIs, gIsNot, dv_dat, dv_lst, dv_al, dvs, own_dat, own_lst, own_bag, own_dcK, own_scr, flat_dat, flat_lst, Res.fin, frzs_nil, frzs_cons, frz_dat, intT_int, outs, als, argsOf, putArgs, fCall, eqv_int, shp_int, shp_none, shp_bool, noOwn, ownAt, sizeLine_eq, fIter, itemsOf, fRange1, fRange2, eqX_int, eqX_str, fEnumA, fFrz, fNever, permOk, perm, fCallK, fCallP, gMax2, gMin2, gMax3, gMin3, fPar2, fMulti, putM, fAsgG, fLc, F__law_are_told, r, m1, m2, m3, ez, e1, e2, e3, e4, eb, rs', x1, x2, fListZip]
end
end Lw

end

/-! K14h: paths of one, two and three points -/
noncomputable section
namespace Lw
open PySem PySem.Spec PyProof.Rows L2 Fx
open Ms (Bd Fr low num lcmL Low S)

theorem dot_cons (a : Int) (r : List Int) (b : Int) (s : List Int) : dot (a :: r) (b :: s) = a * b + dot r s := by simp [dot]
theorem dot_comm : ∀ r s : List Int, dot r s = dot s r
  | [], s => by cases s <;> rfl
  | a :: r, [] => rfl
  | a :: r, b :: s => by rw [dot_cons, dot_cons, dot_comm r s, Int.mul_comm]
theorem dot_range {n : Nat} {r s : List Int} (h1 : r.length = n) (h2 : s.length = n) : dot r s = S (List.range n) fun k => r.getD k 0 * s.getD k 0 := by
  induction n generalizing r s with
  | zero => rw [List.length_eq_zero_iff.mp h1]; rfl
  | succ n ih =>
    cases r with
    | nil => simp at h1
    | cons a r =>
      cases s with
      | nil => simp at h2
      | cons b s =>
        rw [dot_cons, ih (by simpa using h1) (by simpa using h2), List.range_succ_eq_map, Ms.S_cons, Ms.S_map]
        rfl
theorem zw_getD (x y : List Int) (f : Int → Int → Int) {i : Nat} (hx : i < x.length) (hy : i < y.length) : (List.zipWith f x y).getD i 0 = f (x.getD i 0) (y.getD i 0) := by
  rw [List.getD_eq_getElem?_getD, List.getD_eq_getElem?_getD, List.getD_eq_getElem?_getD, List.getElem?_zipWith, List.getElem?_eq_getElem hx, List.getElem?_eq_getElem hy]
  rfl
theorem map_getD' {α : Type} (l : List α) (f : α → Int) {i : Nat} (d : α) (h : i < l.length) : (l.map f).getD i 0 = f (l.getD i d) := by
  rw [List.getD_eq_getElem?_getD, List.getD_eq_getElem?_getD, List.getElem?_map, List.getElem?_eq_getElem h]
  rfl
/-- the numbers of a sheet at places -/
def wA (W : List Fr) (i : Nat) : Int := (wN W).getD i 0
def tA (T : List (List Fr)) (i j : Nat) : Int := ((tN T).getD i []).getD j 0
def dA (W : List Fr) (T : List (List Fr)) (i : Nat) : Int := S (List.range W.length) fun j => wA W j * tA T i j
structure Sy (m : Nat) (T : List (List Fr)) : Prop where
  sy : ∀ i j, i < m → j < m → (T.getD i []).getD j (0, 1) = (T.getD j []).getD i (0, 1)
section
variable {m : Nat} {W : List Fr} {T : List (List Fr)}
theorem Sh.rowAt (h : Sh m W T) {i : Nat} (hi : i < m) : (T.getD i []) ∈ T ∧ (tN T).getD i [] = (T.getD i []).map (num (unT T)) := by
  have hl : i < T.length := by rw [h.lt]; exact hi
  constructor
  · rw [List.getD_eq_getElem?_getD, List.getElem?_eq_getElem hl]; exact List.getElem_mem hl
  · rw [tN, List.getD_eq_getElem?_getD, List.getD_eq_getElem?_getD, List.getElem?_map, List.getElem?_eq_getElem hl]; rfl
theorem Sh.tAt (h : Sh m W T) {i j : Nat} (hi : i < m) (hj : j < m) : tA T i j = num (unT T) ((T.getD i []).getD j (0, 1)) := by
  obtain ⟨h1, h2⟩ := h.rowAt hi
  rw [tA, h2, map_getD' _ _ (0, 1) (by rw [h.lr _ h1]; exact hj)]
theorem Sh.dAt (h : Sh m W T) {i : Nat} (hi : i < m) : (dgs W T).getD i 0 = dA W T i := by
  obtain ⟨h1, h2⟩ := h.rowAt hi
  rw [dgs, map_getD' _ _ [] (by rw [h.tlen]; exact hi), dot_range h.wlen (by rw [h2, List.length_map, h.lr _ h1]), dA, h.lw]
  rfl
theorem Sh.mnS (h : Sh m W T) : mnN W T = S (List.range m) fun i => wA W i * dA W T i := by
  rw [mnN, dot_range h.wlen h.dlen]
  exact Ms.S_congr fun i hi => by rw [h.dAt (List.mem_range.mp hi)]; rfl
theorem Sh.sumS (h : Sh m W T) : (wN W).sum = S (List.range m) (wA W) := by
  have : (wN W).sum = dot (wN W) (List.replicate m 1) := by
    rw [dot_const (by rw [h.wlen, List.length_replicate]) (d := 1) fun b hb => List.eq_of_mem_replicate hb, Int.mul_one]
  rw [this, dot_range h.wlen List.length_replicate]
  refine Ms.S_congr fun i hi => ?_
  have hi := List.mem_range.mp hi
  have : (List.replicate m (1 : Int)).getD i 0 = 1 := by
    rw [List.getD_eq_getElem?_getD, List.getElem?_replicate, if_pos hi]; rfl
  rw [this, Int.mul_one]; rfl
theorem Sh.md1 (h : Sh m W T) {i : Nat} (hi : i < m) (k : Nat) : (Lw.mds W T (k + 1)).getD i 0 = S (List.range m) fun j => tA T i j * (wA W j * (Lw.mds W T k).getD j 0) := by
  obtain ⟨h1, h2⟩ := h.rowAt hi
  rw [mds_succ, nxM, map_getD' _ _ [] (by rw [h.tlen]; exact hi), dot_range (n := m) (by rw [h2, List.length_map, h.lr _ h1]) (by rw [List.length_zipWith, h.wlen, h.mlen]; omega)]
  refine Ms.S_congr fun j hj => ?_
  have hj := List.mem_range.mp hj
  rw [zw_getD _ _ _ (by rw [h.wlen]; exact hj) (by rw [h.mlen]; exact hj)]
  rfl
theorem Sh.pt0 (h : Vd m W T) : ptN W T 0 = byW W := by
  rw [ptN, Lw.mds, mdN, dot_const (by rw [h.wlen, List.length_replicate, h.lw]) (d := 1) fun b hb => List.eq_of_mem_replicate hb, h.ws, Int.mul_one]
theorem Sh.md1A (h : Sh m W T) {i : Nat} (hi : i < m) : (Lw.mds W T 1).getD i 0 = dA W T i := by
  rw [h.md1 hi 0, dA, h.lw]
  refine Ms.S_congr fun j hj => ?_
  have hj := List.mem_range.mp hj
  have : (Lw.mds W T 0).getD j 0 = 1 := by
    rw [Lw.mds, mdN, List.getD_eq_getElem?_getD, List.getElem?_replicate, if_pos (by rw [h.lw]; exact hj)]; rfl
  rw [this, Int.mul_one, Int.mul_comm]
theorem Sh.pt1 (h : Sh m W T) : ptN W T 1 = mnN W T := by
  rw [ptN, dot_range h.wlen (h.mlen 1), h.mnS]
  exact Ms.S_congr fun i hi => by rw [h.md1A (List.mem_range.mp hi)]; rfl
theorem Sh.tSy (h : Sh m W T) (s : Sy m T) {i j : Nat} (hi : i < m) (hj : j < m) : tA T i j = tA T j i := by
  rw [h.tAt hi hj, h.tAt hj hi, s.sy i j hi hj]
theorem Sh.pt2 (h : Sh m W T) (s : Sy m T) : ptN W T 2 = S (List.range m) fun j => wA W j * (dA W T j * dA W T j) := by
  rw [ptN, dot_range h.wlen (h.mlen 2)]
  have e1 : (S (List.range m) fun i => (wN W).getD i 0 * (Lw.mds W T 2).getD i 0) = S (List.range m) fun i => S (List.range m) fun j => wA W i * (tA T i j * (wA W j * dA W T j)) := by
    refine Ms.S_congr fun i hi => ?_
    have hi := List.mem_range.mp hi
    rw [h.md1 hi 1, ← Ms.S_mul]
    refine Ms.S_congr fun j hj => ?_
    rw [h.md1A (List.mem_range.mp hj)]; rfl
  rw [e1, Ms.S_swap]
  refine Ms.S_congr fun j hj => ?_
  have hj := List.mem_range.mp hj
  have e2 : (S (List.range m) fun i => wA W i * (tA T i j * (wA W j * dA W T j))) = S (List.range m) fun i => (wA W i * tA T j i) * (wA W j * dA W T j) := by
    refine Ms.S_congr fun i hi => ?_
    rw [h.tSy s (List.mem_range.mp hi) hj]; grind
  rw [e2, Ms.S_mulr]
  have e3 : (S (List.range m) fun i => wA W i * tA T j i) = dA W T j := by rw [dA, h.lw]
  rw [e3]; grind
theorem Sh.sqS (h : Sh m W T) : sqN W T = S (List.range m) fun i => wA W i * ((dA W T i * byW W - mnN W T) * (dA W T i * byW W - mnN W T)) := by
  have e : sqN W T = dot (wN W) ((dgs W T).map fun d => (d * byW W - mnN W T) * (d * byW W - mnN W T)) := by
    rw [sqN, dot, List.zipWith_map_right]
    congr 2
    funext w d
    rw [Int.mul_assoc]
  rw [e, dot_range h.wlen (by rw [List.length_map, h.dlen])]
  refine Ms.S_congr fun i hi => ?_
  have hi := List.mem_range.mp hi
  rw [map_getD' _ _ 0 (by rw [h.dlen]; exact hi), h.dAt hi]; rfl
theorem sq_expand (h : Vd m W T) (s : Sy m T) : sqN W T = byW W * byW W * ptN W T 2 - byW W * (mnN W T * mnN W T) := by
  rw [h.sqS, h.pt2 s]
  have e1 : (S (List.range m) fun i => wA W i * ((dA W T i * byW W - mnN W T) * (dA W T i * byW W - mnN W T))) =
      S (List.range m) fun i => (byW W * byW W * (wA W i * (dA W T i * dA W T i))) + ((-(2 * byW W * mnN W T)) * (wA W i * dA W T i) + mnN W T * mnN W T * wA W i) := Ms.S_congr fun i _ => by grind
  rw [e1, Ms.S_add, Ms.S_add, Ms.S_mul, Ms.S_mul, Ms.S_mul, ← h.mnS]
  have e2 : S (List.range m) (fun i => wA W i) = byW W := by rw [← h.ws, h.sumS]
  rw [e2]; grind
theorem three_eq (h : Vd m W T) (s : Sy m T) {M Q : Fr} (hM : M = low (mnN W T) (byW W * (byW W * unT T))) (hQ : Q = low (sqN W T) (byW W * byW W * byW W * (byW W * unT T) * (byW W * unT T))) :
    low (M.1 * M.1 * Q.2 + Q.1 * M.2 * M.2) (M.2 * M.2 * Q.2) = ptF W T 2 := by
  have u1 : 0 < byW W * (byW W * unT T) := Nat.mul_pos h.by_pos h.bu_pos
  have u2 : 0 < byW W * byW W * byW W * (byW W * unT T) * (byW W * unT T) := Nat.mul_pos (Nat.mul_pos (Nat.mul_pos (Nat.mul_pos h.by_pos h.by_pos) h.by_pos) h.bu_pos) h.bu_pos
  have l1 := Ms.low_val (mnN W T) u1
  have l2 := Ms.low_val (sqN W T) u2
  have p1 := (Ms.low_Low (mnN W T) u1).pos
  have p2 := (Ms.low_Low (sqN W T) u2).pos
  rw [← hM] at l1 p1
  rw [← hQ] at l2 p2
  have sx := sq_expand h s
  refine Ms.low_eq (Nat.mul_pos (Nat.mul_pos p1 p1) p2) (h.pt_pos 2) ?_
  have bp : (0 : Int) < byW W := by have := h.by_pos; omega
  have up : (0 : Int) < unT T := by have := h.un_pos; omega
  simp only [ptU]
  generalize ptN W T 2 = P at *
  generalize mnN W T = mn at *
  generalize sqN W T = sq at *
  push_cast at l1 l2 ⊢
  generalize (byW W : Int) = b at *
  generalize (unT T : Int) = u at *
  generalize (M.2 : Int) = m2 at *
  generalize (Q.2 : Int) = q2 at *
  generalize M.1 = m1 at *
  generalize Q.1 = q1 at *
  have k : (0 : Int) < (b * (b * u)) * (b * (b * u)) * (b * b * b * (b * u) * (b * u)) := by
    have h1 := Int.mul_pos bp up
    have h2 := Int.mul_pos bp h1
    exact Int.mul_pos (Int.mul_pos h2 h2) (Int.mul_pos (Int.mul_pos (Int.mul_pos (Int.mul_pos bp bp) bp) h1) h1)
  refine Int.eq_of_mul_eq_mul_right (Int.ne_of_gt k) ?_
  subst sx
  have e1 : (m1 * m1 * q2 + q1 * m2 * m2) * ((b * u) ^ 2 * b) * ((b * (b * u)) * (b * (b * u)) * (b * b * b * (b * u) * (b * u))) =
      ((m1 * (b * (b * u))) * (m1 * (b * (b * u))) * q2 * (b * b * b * (b * u) * (b * u)) + (q1 * (b * b * b * (b * u) * (b * u))) * m2 * m2 * ((b * (b * u)) * (b * (b * u)))) * ((b * u) ^ 2 * b) := by grind
  rw [e1, l1, l2]
  grind
end
end Lw

end

/-! K14i: three points told; items, weights -/
noncomputable section
namespace Lw
open PySem PySem.Spec PyProof.Rows L2 Fx
open Ms (Bd Fr low num lcmL Low S)

theorem low_abs {a : Int} {b : Nat} (h : a.natAbs ≤ b) : (low a b).1.natAbs ≤ (low a b).2 := by
  have e : (low a b).1.natAbs = a.natAbs / Nat.gcd a.natAbs b := by
    show (a / ((Nat.gcd a.natAbs b : Nat) : Int)).natAbs = _
    rw [Int.natAbs_ediv_of_dvd (Int.ofNat_dvd_left.mpr (Nat.gcd_dvd_left _ _))]
    simp
  rw [e]
  exact Nat.div_le_div_right h
theorem low_den {a : Int} {b : Nat} : (low a b).2 ≤ b := Nat.div_le_self _ _
theorem low_nn {a : Int} {b : Nat} (h : 0 ≤ a) : 0 ≤ (low a b).1 := Int.ediv_nonneg h (by omega)
section
variable {m : Nat} {W : List Fr} {T : List (List Fr)}
theorem low_bd {n k : Nat} {a : Int} {b : Nat} (ha : Bd n a) (hb : Bd k (b : Int)) : Bd n (low a b).1 ∧ Bd k ((low a b).2 : Nat) := by
  refine ⟨ha.div, hb.of_le ?_⟩
  simpa using (low_den (a := a) (b := b))
theorem Sh.sqB (h : Sh m W T) : Bd 910 (sqN W T) := by
  refine (Bd.sum (n := 906) (k := 4) (l := List.zipWith (fun w d => w * (d * byW W - mnN W T) * (d * byW W - mnN W T)) (wN W) (dgs W T)) (fun x hx => ?_) (by rw [List.length_zipWith, h.wlen]; have := h.m8; show _ < 16; omega)).mono (by omega)
  rw [← Fx.zip_sum _ _ fun w d => w * (d * byW W - mnN W T) * (d * byW W - mnN W T)] at hx
  obtain ⟨p, hp, rfl⟩ := List.mem_map.mp hx
  have q1 := h.wbd _ (List.of_mem_zip hp).1
  have q2 := h.dbd _ (List.of_mem_zip hp).2
  have q3 : Bd 424 (p.2 * byW W - mnN W T) := ((q2.mul h.byB).mono (by omega)).sub h.mbd
  exact ((q1.mul q3).mul q3).mono (by omega)
theorem short_ok (h : Vd m W T) (s : Sy m T) : F__law_are_short_right [.dat (shtD W T), .dat (dueD W T)] = some (.dat (.bool true), [none, none]) := by
  have m1 := mean_ok h.toSh
  have m2 := square_ok h.toSh
  have p1 := path_ok h.toSh (k := 0) (by omega)
  have p2 := path_ok h.toSh (k := 1) (by omega)
  have p3 := path_ok h.toSh (k := 2) (by omega)
  have e1 : low (ptN W T 0) (ptU W T 0 * byW W) = (1, 1) := by
    rw [Sh.pt0 h, ptU, Nat.pow_zero, Nat.one_mul]
    exact Ms.low_one h.by_pos
  have e2 : low (ptN W T 1) (ptU W T 1 * byW W) = low (mnN W T) (byW W * (byW W * unT T)) := by
    rw [h.toSh.pt1, ptU, Nat.pow_one, Nat.mul_comm]
  have t3 := three_eq h s rfl rfl
  have hU1 : Bd 415 ((byW W * (byW W * unT T) : Nat) : Int) := by have := h.byB.mul h.buB; simpa using this
  have hU2 : Bd 887 ((byW W * byW W * byW W * (byW W * unT T) * (byW W * unT T) : Nat) : Int) := by have := ((((h.byB.mul h.byB).mul h.byB).mul h.buB).mul h.buB); simpa using this
  obtain ⟨c1, c2⟩ := low_bd h.mbd hU1
  obtain ⟨c3, c4⟩ := low_bd h.toSh.sqB hU2
  have u1 : 0 < byW W * (byW W * unT T) := Nat.mul_pos h.by_pos h.bu_pos
  have u2 : 0 < byW W * byW W * byW W * (byW W * unT T) * (byW W * unT T) := Nat.mul_pos (Nat.mul_pos (Nat.mul_pos (Nat.mul_pos h.by_pos h.by_pos) h.by_pos) h.bu_pos) h.bu_pos
  have d1 := (Ms.low_Low (mnN W T) u1).pos
  have d2 := (Ms.low_Low (sqN W T) u2).pos
  have s1 := same8 (fr_plain (1, 1)) (by decide)
  have s2 := same8 (fr_plain (low (mnN W T) (byW W * (byW W * unT T)))) (by decide)
  have s3 := same8 (fr_plain (low (sqN W T) (byW W * byW W * byW W * (byW W * unT T) * (byW W * unT T)))) (by decide)
  have s4 := same8 (fr_plain (low (ptN W T 2) (ptU W T 2 * byW W))) (by decide)
  rw [e1, show ((0 + 1 : Nat) : Int) = 1 from rfl] at p1
  rw [e2, show ((1 + 1 : Nat) : Int) = 2 from rfl] at p2
  rw [show ((2 + 1 : Nat) : Int) = 3 from rfl] at p3
  simp only [dueD, ptF] at *
  generalize low (ptN W T 2) (ptU W T 2 * byW W) = P at *
  generalize low (mnN W T) (byW W * (byW W * unT T)) = M at *
  generalize low (sqN W T) (byW W * byW W * byW W * (byW W * unT T) * (byW W * unT T)) = Q at *
  have k1 := mulOk_bd c2 c2
  have k2 := mulOk_bd (c2.mul c2) c4
  have k3 := mulOk_bd c1 c1
  have k4 := mulOk_bd (c1.mul c1) c4
  have k5 := mulOk_bd c3 c2
  have k6 := mulOk_bd (c3.mul c2) c2
  have dl := lowest_bd (n := 1717) (a := M.1 * M.1 * Q.2 + Q.1 * M.2 * M.2) (b := M.2 * M.2 * Q.2) (Nat.mul_pos (Nat.mul_pos d1 d1) d2) (by have := (c2.mul c2).mul c4; simpa using this) (by omega)
  rw [t3] at dl
  have ep : ((M.2 * M.2 * Q.2 : Nat) : Int) = (M.2 : Int) * M.2 * Q.2 := by simp
  rw [ep] at dl
  have e11 : frD (1, 1) = .tuple [.int 1, .int 1] := rfl
  rw [e11] at s1 p1
  have x0 : ∀ q : Fr, atI [PyData.int q.1, .int (q.2 : Nat)] 0 = some (.int q.1) := fun _ => rfl
  have x1 : ∀ q : Fr, atI [PyData.int q.1, .int (q.2 : Nat)] 1 = some (.int (q.2 : Nat)) := fun _ => rfl
  have y0 : ∀ a b c : PyData, atI [a, b, c] 0 = some a := fun _ _ _ => rfl
  have y2 : ∀ a b c : PyData, atI [a, b, c] 2 = some c := fun _ _ _ => rfl
  generalize shtD W T = sh at *
  generalize frsD (dgF W T) = ff at *
  generalize frD P = PP at *
  have eM : frD M = .tuple [.int M.1, .int (M.2 : Nat)] := rfl
  have eQ : frD Q = .tuple [.int Q.1, .int (Q.2 : Nat)] := rfl
  rw [eM] at m1 p2 s2 ⊢
  rw [eQ] at m2 s3 ⊢
  simp [fnOf, fSeq, fNil, fSet, fRet, fDrop, fIf, fFgt, fgtO, fgt, fFor, fIfE, fT, fTru, truD, fAnd, fOr, fNot, fAndV, fOrV, fNotV, fOp2, fVar, fC, fB, fACons, fANil, fTup, fLst, fNeg, gRel, gInt2, gInt2C, gAdd, gMulX_int, gIx, gLen, gAbs, gInt, gEq, gIs, gIsNot, dv_dat, dv_lst, dv_al, dvs, own_dat, own_lst, own_bag, own_dcK, own_scr, flat_dat, flat_lst, Res.fin, frzs_nil, frzs_cons, frz_dat, intT_int, outs, als, argsOf, putArgs, fCall, eqv_int, shp_int, shp_none, shp_bool, noOwn, ownAt, sizeLine_eq, fIter, itemsOf, fRange1, fRange2, eqX_int, eqX_str, fEnumA, fFrz, fNever, permOk, perm, fCallK, fCallP, gMax2, gMin2, gMax3, gMin3, fPar2, fMulti, putM, fAsgG, fLc, F__law_are_short_right, m1, m2, p1, p2, p3, s1, s2, s3, s4, y0, y2, x0, x1, k1, k2, k3, k4, k5, k6, dl]
end
/-! ### what is drawn -/
structure It (lo : Int) (most : Nat) (q : Fr) : Prop where
  lw : Low q
  un : q.1.natAbs ≤ q.2
  dn : q.2 ≤ most
  nn : lo = 0 → 0 ≤ q.1
theorem low_int (x : Int) : Low (x, 1) := ⟨Nat.one_pos, by simp⟩
theorem item_ok {lo : Int} (hlo : lo = 0 ∨ lo = -1) {most : Nat} (h1 : 1 ≤ most) (hm : most ≤ 1000) {B : MD} (hB : BagOk B) : ∃ (q : Fr) (B' : MD), F__law_own_item [B, .dat (.int lo), .dat (.int (most : Nat))] = some (.dat (frD q), [some B', none, none]) ∧ BagOk B' ∧ It lo most q := by
  obtain ⟨v, B1, e1, hB1, hv⟩ := drawN hB (n := 6) (by decide) (by decide)
  rw [show ((6 : Nat) : Int) = 6 from rfl] at e1
  by_cases q : v = 0
  · subst q
    obtain ⟨d, B2, e2, hB2, hd⟩ := pick hB1 (ds := [.int lo, .int 0, .int 1]) (by simp) (by simp)
    obtain ⟨x, hx, rfl⟩ : ∃ x : Int, (x = lo ∨ x = 0 ∨ x = 1) ∧ d = .int x := by
      simp only [List.mem_cons, List.not_mem_nil, or_false] at hd
      rcases hd with rfl | rfl | rfl
      · exact ⟨lo, .inl rfl, rfl⟩
      · exact ⟨0, .inr (.inl rfl), rfl⟩
      · exact ⟨1, .inr (.inr rfl), rfl⟩
    refine ⟨(x, 1), B2, ?_, hB2, low_int x, by show x.natAbs ≤ 1; omega, h1, fun h => by show 0 ≤ x; omega⟩
    simp [fnOf, fSeq, fNil, fSet, fRet, fDrop, fIf, fFgt, fgtO, fgt, fFor, fIfE, fT, fTru, truD, fAnd, fOr, fNot, fAndV, fOrV, fNotV, fOp2, fVar, fC, fB, fACons, fANil, fTup, fLst, fNeg, gRel, gInt2, gInt2C, gAdd, gMulX_int, gIx, gLen, gAbs, gInt, gEq, gIs, gIsNot, dv_dat, dv_lst, dv_al, dvs, own_dat, own_lst, own_bag, own_dcK, own_scr, flat_dat, flat_lst, Res.fin, frzs_nil, frzs_cons, frz_dat, intT_int, outs, als, argsOf, putArgs, fCall, eqv_int, shp_int, shp_none, shp_bool, noOwn, ownAt, sizeLine_eq, fIter, itemsOf, fRange1, fRange2, eqX_int, eqX_str, fEnumA, fFrz, fNever, permOk, perm, fCallK, fCallP, gMax2, gMin2, gMax3, gMin3, fPar2, fMulti, putM, fAsgG, fLc, F__law_own_item, hB.own, hB1.own, hB2.own, e1, e2, frD]
  · have q' : ¬ (v : Int) = 0 := by omega
    obtain ⟨u, B2, e2, hB2, hu⟩ := drawN hB1 (n := most) (by omega) (by omega)
    have hw : (1 - lo) * (1 + (u : Int)) + 1 ≤ 2 * (1 + u) + 1 := by rcases hlo with rfl | rfl <;> omega
    have hw0 : 0 < (1 - lo) * (1 + (u : Int)) + 1 := by rcases hlo with rfl | rfl <;> omega
    obtain ⟨w, B3, e3, hB3, w0, w1⟩ := draw hB2 (n := (1 - lo) * (1 + (u : Int)) + 1) hw0 (by omega)
    have ab : (lo * (1 + (u : Int)) + w).natAbs ≤ 1 + u := by rcases hlo with rfl | rfl <;> omega
    have lb : Bd 2 lo := by rcases hlo with rfl | rfl <;> (unfold Bd; decide)
    have lb2 : Bd 2 (1 - lo) := by rcases hlo with rfl | rfl <;> (unfold Bd; decide)
    have ub : Bd 11 ((1 + u : Nat) : Int) := nat_bd (show 1 + u ≤ 2 ^ 10 by omega)
    have eu : ((1 + u : Nat) : Int) = 1 + (u : Int) := by omega
    have l := lowest_bd (n := 11) (a := lo * (1 + (u : Int)) + w) (b := 1 + u) (by omega) ub (by omega)
    rw [eu] at l ub
    have k1 := mulOk_bd lb ub
    have k2 := mulOk_bd lb2 ub
    refine ⟨low (lo * (1 + (u : Int)) + w) (1 + u), B3, ?_, hB3, Ms.low_Low _ (by omega), low_abs ab, Nat.le_trans low_den (by omega), fun h => low_nn (by subst h; omega)⟩
    generalize frD (low (lo * (1 + (u : Int)) + w) (1 + u)) = r at *
    simp [fnOf, fSeq, fNil, fSet, fRet, fDrop, fIf, fFgt, fgtO, fgt, fFor, fIfE, fT, fTru, truD, fAnd, fOr, fNot, fAndV, fOrV, fNotV, fOp2, fVar, fC, fB, fACons, fANil, fTup, fLst, fNeg, gRel, gInt2, gInt2C, gAdd, gMulX_int, gIx, gLen, gAbs, gInt, gEq, gIs, gIsNot, dv_dat, dv_lst, dv_al, dvs, own_dat, own_lst, own_bag, own_dcK, own_scr, flat_dat, flat_lst, Res.fin, frzs_nil, frzs_cons, frz_dat, intT_int, outs, als, argsOf, putArgs, fCall, eqv_int, shp_int, shp_none, shp_bool, noOwn, ownAt, sizeLine_eq, fIter, itemsOf, fRange1, fRange2, eqX_int, eqX_str, fEnumA, fFrz, fNever, permOk, perm, fCallK, fCallP, gMax2, gMin2, gMax3, gMin3, fPar2, fMulti, putM, fAsgG, fLc, F__law_own_item, hB.own, hB1.own, hB2.own, hB3.own, e1, e2, e3, q, q', k1, k2, l]
/-- weights made of numbers -/
structure Wt (m : Nat) (W : List Fr) : Prop where
  ex : ∃ ns : List Nat, ns.length = m ∧ (∀ n ∈ ns, 0 < n ∧ n ≤ 12) ∧ W = ns.map fun (n : Nat) => low n ns.sum
theorem nsum_pos {ns : List Nat} (h0 : ns ≠ []) (h : ∀ n ∈ ns, 0 < n) : 0 < ns.sum := by
  cases ns with
  | nil => exact absurd rfl h0
  | cons n ns => have := h n List.mem_cons_self; rw [List.sum_cons]; omega
theorem nsum_le {ns : List Nat} {k : Nat} (h : ∀ n ∈ ns, n ≤ k) : ns.sum ≤ ns.length * k := by
  induction ns with
  | nil => simp
  | cons n ns ih =>
    have := h n List.mem_cons_self
    have := ih fun x hx => h x (List.mem_cons_of_mem _ hx)
    rw [List.sum_cons, List.length_cons, Nat.succ_mul]; omega
theorem nle_sum {ns : List Nat} {n : Nat} (h : n ∈ ns) : n ≤ ns.sum := by
  induction ns with
  | nil => cases h
  | cons a ns ih =>
    rw [List.sum_cons]
    rcases List.mem_cons.mp h with rfl | h
    · omega
    · have := ih h; omega
theorem cast_sum (ns : List Nat) : ((ns.sum : Nat) : Int) = (ns.map fun (n : Nat) => (n : Int)).sum := by
  induction ns with
  | nil => rfl
  | cons n ns ih => rw [List.sum_cons, List.map_cons, List.sum_cons, ← ih]; simp
theorem Wt.facts {m : Nat} {W : List Fr} (h : Wt m W) (h1 : 1 ≤ m) (h8 : m ≤ 8) : W.length = m ∧ Dn 7 W ∧ Un W ∧ (∀ x ∈ wN W, 0 < x) ∧ (wN W).sum = byW W := by
  obtain ⟨ns, hl, hn, rfl⟩ := h.ex
  have hp : 0 < ns.sum := nsum_pos (by rintro rfl; simp at hl; omega) fun n hn' => (hn n hn').1
  have hle : ns.sum ≤ 96 := by
    have := nsum_le (k := 12) fun n hn' => (hn n hn').2
    rw [hl] at this
    omega
  have dn : Dn 7 (ns.map fun (n : Nat) => low n ns.sum) := fun q hq => by
    obtain ⟨n, hn', rfl⟩ := List.mem_map.mp hq
    exact ⟨(Ms.low_Low _ hp).pos, Nat.le_trans low_den (by omega)⟩
  have key : ∀ n ∈ ns, num (byW (ns.map fun (n : Nat) => low n ns.sum)) (low n ns.sum) * (ns.sum : Nat) = n * byW (ns.map fun (n : Nat) => low n ns.sum) := fun n hn' => by
    have hd : (low (n : Int) ns.sum).2 ∣ byW (ns.map fun (n : Nat) => low n ns.sum) := Ms.dvd_lcmL (List.mem_map.mpr ⟨_, List.mem_map.mpr ⟨n, hn', rfl⟩, rfl⟩)
    have v1 := Ms.num_val hd
    have v2 := Ms.low_val (n : Int) hp
    have q0 := (Ms.low_Low (n : Int) hp).pos
    generalize low (n : Int) ns.sum = q at *
    generalize byW (ns.map fun (n : Nat) => low n ns.sum) = c at *
    refine Int.eq_of_mul_eq_mul_right (show (q.2 : Int) ≠ 0 by omega) ?_
    have : num c q * (ns.sum : Nat) * q.2 = (num c q * q.2) * (ns.sum : Nat) := by grind
    rw [this, v1]
    have : q.1 * (c : Int) * (ns.sum : Nat) = (q.1 * (ns.sum : Nat)) * c := by grind
    rw [this, v2]; grind
  have bp : 0 < byW (ns.map fun (n : Nat) => low n ns.sum) := dn.pos
  refine ⟨by simp [hl], dn, fun q hq => ?_, fun x hx => ?_, ?_⟩
  · obtain ⟨n, hn', rfl⟩ := List.mem_map.mp hq
    exact low_abs (by simpa using nle_sum hn')
  · obtain ⟨q, hq, rfl⟩ := List.mem_map.mp hx
    obtain ⟨n, hn', rfl⟩ := List.mem_map.mp hq
    have k := key n hn'
    have n0 := (hn n hn').1
    generalize byW (ns.map fun (n : Nat) => low n ns.sum) = c at *
    have : (0 : Int) < num c (low n ns.sum) * (ns.sum : Nat) := by
      rw [k]; exact Int.mul_pos (by omega) (by omega)
    exact Int.pos_of_mul_pos_left this (by omega) |> fun z => z
  · have : (wN (ns.map fun (n : Nat) => low n ns.sum)).sum * (ns.sum : Nat) = byW (ns.map fun (n : Nat) => low n ns.sum) * (ns.sum : Nat) := by
      have e1 : wN (ns.map fun (n : Nat) => low n ns.sum) = ns.map fun (n : Nat) => num (byW (ns.map fun (n : Nat) => low n ns.sum)) (low n ns.sum) := by rw [wN, List.map_map]; rfl
      rw [e1]
      generalize hc : byW (ns.map fun (n : Nat) => low n ns.sum) = c at *
      have e2 : (ns.map fun (n : Nat) => num c (low n ns.sum)).sum * (ns.sum : Nat) = S ns fun n => num c (low n ns.sum) * (ns.sum : Nat) := by rw [Ms.S_mulr]; rfl
      rw [e2, Ms.S_congr (g := fun (n : Nat) => (n : Int) * c) key, Ms.S_mulr, cast_sum, Int.mul_comm]
      rfl
    exact Int.eq_of_mul_eq_mul_right (by omega) this
theorem weights_ok {m most : Nat} (h1 : 1 ≤ m) (h8 : m ≤ 8) (hm1 : 1 ≤ most) (hm : most ≤ 12) {B : MD} (hB : BagOk B) : ∃ (W : List Fr) (B' : MD), F__law_own_weights [B, .dat (.int (m : Nat)), .dat (.int (most : Nat))] = some (.dat (frsD W), [some B', none, none]) ∧ BagOk B' ∧ Wt m W := by
  obtain ⟨acc, Γ, e1, ⟨ns, B1, hacc, hΓ, hB1, hn, hl⟩, _⟩ := loopL_ok (tg := gN 5) (tt := tYesF) (fe := e1__law_own_weights) (own := [5]) (P := fun k acc Γ => ∃ (ns : List Nat) (B' : MD), acc = ns.map (fun (n : Nat) => PyData.int n) ∧ Γ = [some B', some (.dat (.int (m : Nat))), some (.dat (.int (most : Nat))), none, none, none, none] ∧ BagOk B' ∧ (∀ n ∈ ns, 0 < n ∧ n ≤ 12) ∧ ns.length = k)
    (items := (List.range m).map fun (x : Nat) => PyData.int x) (acc := []) (Γ := [some B, some (.dat (.int (m : Nat))), some (.dat (.int (most : Nat))), none, none, none, none]) 0 ⟨[], B, rfl, rfl, hB, by simp, rfl⟩ (by simp [sizeLine_eq]; omega) fun i d acc Γ hd ⟨ns, B1, hacc, hΓ, hB1, hn, hl⟩ => by
      subst hacc hΓ
      obtain ⟨v, B2, e2, hB2, hv⟩ := drawN hB1 (n := most) (by omega) (by omega)
      refine ⟨some (.int ((1 + v : Nat) : Int)), _, ?_, ns ++ [1 + v], B2, by simp, rfl, hB2, fun n hn' => ?_, by simp [hl]⟩
      · have ev : ((1 + v : Nat) : Int) = 1 + (v : Int) := by omega
        rw [ev]
        simp [fnOf, fSeq, fNil, fSet, fRet, fDrop, fIf, fFgt, fgtO, fgt, fFor, fIfE, fT, fTru, truD, fAnd, fOr, fNot, fAndV, fOrV, fNotV, fOp2, fVar, fC, fB, fACons, fANil, fTup, fLst, fNeg, gRel, gInt2, gInt2C, gAdd, gMulX_int, gIx, gLen, gAbs, gInt, gEq, gIs, gIsNot, dv_dat, dv_lst, dv_al, dvs, own_dat, own_lst, own_bag, own_dcK, own_scr, flat_dat, flat_lst, Res.fin, frzs_nil, frzs_cons, frz_dat, intT_int, outs, als, argsOf, putArgs, fCall, eqv_int, shp_int, shp_none, shp_bool, noOwn, ownAt, sizeLine_eq, fIter, itemsOf, fRange1, fRange2, eqX_int, eqX_str, fEnumA, fFrz, fNever, permOk, perm, fCallK, fCallP, gMax2, gMin2, gMax3, gMin3, fPar2, fMulti, putM, fAsgG, fLc, lcStep, lsStep, tYesF, gN, gT, gsCons, gsNil, e1__law_own_weights, hB1.own, hB2.own, e2]
      · rcases List.mem_append.mp hn' with h | h
        · exact hn n h
        · rw [List.mem_singleton] at h; omega
  subst hacc hΓ
  rw [List.length_map, List.length_range, Nat.zero_add] at hl
  have hp : 0 < ns.sum := nsum_pos (by rintro rfl; simp at hl; omega) fun n hn' => (hn n hn').1
  have hle : ns.sum ≤ 96 := by
    have := nsum_le (k := 12) fun n hn' => (hn n hn').2
    rw [hl] at this
    omega
  have r1 := rg1_nat (p := m) (by omega)
  have s1 := gSumA_list (ns.map fun (n : Nat) => (n : Int))
  rw [← cast_sum, List.map_map] at s1
  have e2 : ∀ (a b : Option MD), loopL (gN 6) tYesF e2__law_own_weights [6] (ns.map fun (n : Nat) => PyData.int n) [] [some B1, a, b, some (.dat (.list (ns.map fun (n : Nat) => PyData.int n))), some (.dat (.int (ns.sum : Nat))), none, none] = some ((ns.map fun (n : Nat) => low n ns.sum).map frD, [some B1, a, b, some (.dat (.list (ns.map fun (n : Nat) => PyData.int n))), some (.dat (.int (ns.sum : Nat))), none, none]) := fun a b => by
    have := loopL_map (acc := []) (g := fun (n : Nat) => PyData.int n) (f := fun (n : Nat) => frD (low n ns.sum)) (l := ns) (tg := gN 6) (tt := tYesF) (fe := e2__law_own_weights) (own := [6]) (Γ := [some B1, a, b, some (.dat (.list (ns.map fun (n : Nat) => PyData.int n))), some (.dat (.int (ns.sum : Nat))), none, none]) (by rw [sizeLine_eq, hl]; simp; omega) fun n hn' => by
      have l := lowest_bd (n := 8) (a := (n : Int)) hp (nat_bd (show ns.sum ≤ 2 ^ 7 by omega)) (by omega)
      generalize frD (low (n : Int) ns.sum) = r at *
      generalize ((ns.sum : Nat) : Int) = t at *
      generalize (ns.map fun (n : Nat) => PyData.int n) = nd at *
      simp [fnOf, fSeq, fNil, fSet, fRet, fDrop, fIf, fFgt, fgtO, fgt, fFor, fIfE, fT, fTru, truD, fAnd, fOr, fNot, fAndV, fOrV, fNotV, fOp2, fVar, fC, fB, fACons, fANil, fTup, fLst, fNeg, gRel, gInt2, gInt2C, gAdd, gMulX_int, gIx, gLen, gAbs, gInt, gEq, gIs, gIsNot, dv_dat, dv_lst, dv_al, dvs, own_dat, own_lst, own_bag, own_dcK, own_scr, flat_dat, flat_lst, Res.fin, frzs_nil, frzs_cons, frz_dat, intT_int, outs, als, argsOf, putArgs, fCall, eqv_int, shp_int, shp_none, shp_bool, noOwn, ownAt, sizeLine_eq, fIter, itemsOf, fRange1, fRange2, eqX_int, eqX_str, fEnumA, fFrz, fNever, permOk, perm, fCallK, fCallP, gMax2, gMin2, gMax3, gMin3, fPar2, fMulti, putM, fAsgG, fLc, lcStep, lsStep, tYesF, gN, gT, gsCons, gsNil, e2__law_own_weights, hB1.own, l]
    rw [this]
    simp
  refine ⟨ns.map fun (n : Nat) => low n ns.sum, B1, ?_, hB1, ⟨ns, hl, hn, rfl⟩⟩
  simp only [frsD]
  have s1' : gSumA [.list (ns.map fun (n : Nat) => PyData.int n)] = some (.val (.int (ns.sum : Nat))) := s1
  clear s1
  generalize (ns.map fun (n : Nat) => low n ns.sum).map frD = wd at *
  generalize ((ns.sum : Nat) : Int) = t at *
  generalize (ns.map fun (n : Nat) => PyData.int n) = nd at *
  generalize (List.range m).map (fun (x : Nat) => PyData.int x) = rr at *
  simp [fnOf, fSeq, fNil, fSet, fRet, fDrop, fIf, fFgt, fgtO, fgt, fFor, fIfE, fT, fTru, truD, fAnd, fOr, fNot, fAndV, fOrV, fNotV, fOp2, fVar, fC, fB, fACons, fANil, fTup, fLst, fNeg, gRel, gInt2, gInt2C, gAdd, gMulX_int, gIx, gLen, gAbs, gInt, gEq, gIs, gIsNot, dv_dat, dv_lst, dv_al, dvs, own_dat, own_lst, own_bag, own_dcK, own_scr, flat_dat, flat_lst, Res.fin, frzs_nil, frzs_cons, frz_dat, intT_int, outs, als, argsOf, putArgs, fCall, eqv_int, shp_int, shp_none, shp_bool, noOwn, ownAt, sizeLine_eq, fIter, itemsOf, fRange1, fRange2, eqX_int, eqX_str, fEnumA, fFrz, fNever, permOk, perm, fCallK, fCallP, gMax2, gMin2, gMax3, gMin3, fPar2, fMulti, putM, fAsgG, fLc, F__law_own_weights, hB.own, hB1.own, r1, e1, s1', e2, gToT]
end Lw

end

/-! K14j: a drawn table -/
noncomputable section
namespace Lw
open PySem PySem.Spec PyProof.Rows L2 Fx
open Ms (Bd Fr low num lcmL Low S)

def set1 (T : List (List Fr)) (i j : Nat) (q : Fr) : List (List Fr) := T.set i ((T.getD i []).set j q)
def at2F (T : List (List Fr)) (i j : Nat) : Fr := (T.getD i []).getD j (0, 1)
structure Tm (m : Nat) (P : Fr → Prop) (T : List (List Fr)) : Prop where
  lt : T.length = m
  lr : ∀ r ∈ T, r.length = m
  it : ∀ r ∈ T, ∀ q ∈ r, P q
section
variable {m : Nat} {P : Fr → Prop} {T : List (List Fr)}
theorem Tm.row (h : Tm m P T) {i : Nat} (hi : i < m) : T.getD i [] ∈ T := by
  have hl : i < T.length := by rw [h.lt]; exact hi
  rw [List.getD_eq_getElem?_getD, List.getElem?_eq_getElem hl]; exact List.getElem_mem hl
theorem Tm.set1 (h : Tm m P T) {i j : Nat} (hi : i < m) {q : Fr} (hq : P q) : Tm m P (set1 T i j q) where
  lt := by rw [Lw.set1, List.length_set]; exact h.lt
  lr := fun r hr => by
    rcases List.mem_or_eq_of_mem_set hr with hr | rfl
    · exact h.lr r hr
    · rw [List.length_set]; exact h.lr _ (h.row hi)
  it := fun r hr x hx => by
    rcases List.mem_or_eq_of_mem_set hr with hr | rfl
    · exact h.it r hr x hx
    · rcases List.mem_or_eq_of_mem_set hx with hx | rfl
      · exact h.it _ (h.row hi) x hx
      · exact hq
theorem getD_set {α : Type} (l : List α) (i k : Nat) (a d : α) (h : i < l.length) : (l.set i a).getD k d = if i = k then a else l.getD k d := by
  rw [List.getD_eq_getElem?_getD, List.getElem?_set]
  by_cases e : i = k
  · subst e; simp [h]
  · rw [if_neg e, if_neg e, List.getD_eq_getElem?_getD]
theorem at_set1 (h : Tm m P T) {i j a b : Nat} (hi : i < m) (hj : j < m) (q : Fr) : at2F (set1 T i j q) a b = if i = a ∧ j = b then q else at2F T a b := by
  unfold at2F Lw.set1
  rw [getD_set _ _ _ _ _ (by rw [h.lt]; exact hi)]
  by_cases e : i = a
  · subst e
    rw [if_pos rfl, getD_set _ _ _ _ _ (by rw [h.lr _ (h.row hi)]; exact hj)]
    by_cases e2 : j = b
    · subst e2; simp
    · simp [e2]
  · simp [e]
/-- both places -/
def set2 (T : List (List Fr)) (i j : Nat) (q : Fr) : List (List Fr) := set1 (set1 T i j q) j i q
theorem Tm.set2 (h : Tm m P T) {i j : Nat} (hi : i < m) (hj : j < m) {q : Fr} (hq : P q) : Tm m P (set2 T i j q) := (h.set1 hi hq).set1 hj hq
theorem Sy.set2 (h : Tm m P T) (s : Sy m T) {i j : Nat} (hi : i < m) (hj : j < m) {q : Fr} (hq : P q) : Sy m (set2 T i j q) := ⟨fun a b ha hb => by
  show at2F (Lw.set2 T i j q) a b = at2F (Lw.set2 T i j q) b a
  have e : at2F T a b = at2F T b a := s.sy a b ha hb
  unfold Lw.set2
  rw [at_set1 (h.set1 hi hq) hj hi, at_set1 h hi hj, at_set1 (h.set1 hi hq) hj hi, at_set1 h hi hj, e]
  by_cases h1 : j = a <;> by_cases h2 : i = b <;> by_cases h3 : i = a <;> by_cases h4 : j = b <;> simp [h1, h2, h3, h4]⟩
end
def llF (T : List (List Fr)) : List (List PyData) := T.map fun r => r.map frD
theorem llF_len (T : List (List Fr)) : (llF T).length = T.length := List.length_map _
theorem ll_at {m : Nat} {P : Fr → Prop} {T : List (List Fr)} (h : Tm m P T) {i : Nat} (hi : i < m) : (llF T)[i]? = some ((T.getD i []).map frD) := by
  have hl : i < T.length := by rw [h.lt]; exact hi
  rw [llF, List.getElem?_map, List.getElem?_eq_getElem hl, List.getD_eq_getElem?_getD, List.getElem?_eq_getElem hl]; rfl
theorem ll_set {T : List (List Fr)} {i j : Nat} {q : Fr} : (llF T).set i (((T.getD i []).map frD).set j (frD q)) = llF (set1 T i j q) := by
  rw [llF, llF, Lw.set1, List.map_set, List.map_set]
abbrev Gt (B : MD) (m : Nat) (lo : Int) (most : Nat) (X : List (List PyData)) (i j it : Option MD) : Gm := [some B, some (.dat (.int m)), some (.dat (.int lo)), some (.dat (.int most)), some (.lls X), i, none, j, it, none, none, none]
theorem al_step {m most i j : Nat} {lo : Int} {T : List (List Fr)} (hlo : lo = 0 ∨ lo = -1) (h1 : 1 ≤ most) (hm : most ≤ 1000) (h : Tm m (It lo most) T) (hi : i < m) (hj : j < m) {B : MD} (hB : BagOk B) (d : Option MD) (hd : d = none ∨ ∃ x, d = some (.dat x)) :
    ∃ (q : Fr) (B' : MD), It lo most q ∧ BagOk B' ∧ alStep 4 5 7 8 9 i e2__law_own_table (Gt B m lo most (llF T) (some (.dat (.int i))) (some (.dat (.int j))) d) = some (Gt B' m lo most (llF (set2 T i j q)) (some (.dat (.int i))) (some (.dat (.int j))) (some (.dat (frD q)))) := by
  obtain ⟨q, B', e, hB', hq⟩ := item_ok hlo h1 hm hB
  refine ⟨q, B', hq, hB', ?_⟩
  have li : ixN (llF T).length (i : Int) = some i := ixN_nat (by rw [llF_len, h.lt]; exact hi)
  have lj : ixN (llF T).length (j : Int) = some j := ixN_nat (by rw [llF_len, h.lt]; exact hj)
  have a1 := ll_at h hi
  have l1 : ixN ((T.getD i []).map frD).length (j : Int) = some j := ixN_nat (by rw [List.length_map, h.lr _ (h.row hi)]; exact hj)
  have h2 := h.set1 (j := j) hi hq
  have a2 := ll_at h2 hj
  have l2 : ixN (((set1 T i j q).getD j []).map frD).length (i : Int) = some i := ixN_nat (by rw [List.length_map, h2.lr _ (h2.row hj)]; exact hi)
  have s1 : (llF T).set i (((T.getD i []).map frD).set j (frD q)) = llF (set1 T i j q) := ll_set
  have s2 : (llF (set1 T i j q)).set j ((((set1 T i j q).getD j []).map frD).set i (frD q)) = llF (set2 T i j q) := ll_set
  generalize llF (set2 T i j q) = X2 at *
  generalize llF (set1 T i j q) = X1 at *
  generalize llF T = X0 at *
  generalize (T.getD i []).map frD = r1 at *
  generalize ((set1 T i j q).getD j []).map frD = r2 at *
  generalize frD q = qq at *
  rcases hd with rfl | ⟨x, rfl⟩
  · simp [fnOf, fSeq, fNil, fSet, fRet, fDrop, fIf, fFgt, fgtO, fgt, fFor, fIfE, fT, fTru, truD, fAnd, fOr, fNot, fAndV, fOrV, fNotV, fOp2, fVar, fC, fB, fACons, fANil, fTup, fLst, fNeg, gRel, gInt2, gInt2C, gAdd, gMulX_int, gIx, gLen, gAbs, gInt, gEq, gIs, gIsNot, dv_dat, dv_lst, dv_al, dvs, own_dat, own_lst, own_bag, own_dcK, own_scr, flat_dat, flat_lst, Res.fin, frzs_nil, frzs_cons, frz_dat, intT_int, outs, als, argsOf, putArgs, fCall, eqv_int, shp_int, shp_none, shp_bool, noOwn, ownAt, sizeLine_eq, fIter, itemsOf, fRange1, fRange2, eqX_int, eqX_str, fEnumA, fFrz, fNever, permOk, perm, fCallK, fCallP, gMax2, gMin2, gMax3, gMin3, fPar2, fMulti, putM, fAsgG, fLc, alStep, llsS, e2__law_own_table, hB.own, hB'.own, e, isFree, pVar, li, lj, a1, l1, s1, a2, l2, s2, frz_dat]
  · simp [fnOf, fSeq, fNil, fSet, fRet, fDrop, fIf, fFgt, fgtO, fgt, fFor, fIfE, fT, fTru, truD, fAnd, fOr, fNot, fAndV, fOrV, fNotV, fOp2, fVar, fC, fB, fACons, fANil, fTup, fLst, fNeg, gRel, gInt2, gInt2C, gAdd, gMulX_int, gIx, gLen, gAbs, gInt, gEq, gIs, gIsNot, dv_dat, dv_lst, dv_al, dvs, own_dat, own_lst, own_bag, own_dcK, own_scr, flat_dat, flat_lst, Res.fin, frzs_nil, frzs_cons, frz_dat, intT_int, outs, als, argsOf, putArgs, fCall, eqv_int, shp_int, shp_none, shp_bool, noOwn, ownAt, sizeLine_eq, fIter, itemsOf, fRange1, fRange2, eqX_int, eqX_str, fEnumA, fFrz, fNever, permOk, perm, fCallK, fCallP, gMax2, gMin2, gMax3, gMin3, fPar2, fMulti, putM, fAsgG, fLc, alStep, llsS, e2__law_own_table, hB.own, hB'.own, e, isFree, pVar, li, lj, a1, l1, s1, a2, l2, s2, frz_dat]
theorem al_loop {m most i : Nat} {lo : Int} (hlo : lo = 0 ∨ lo = -1) (h1 : 1 ≤ most) (hm : most ≤ 1000) (hi : i < m) : ∀ (l : List Nat) (T : List (List Fr)) (B : MD) (j d : Option MD), (∀ x ∈ l, x < m) → Tm m (It lo most) T → Sy m T → BagOk B → (j = none ∨ ∃ x, j = some (.dat x)) → (d = none ∨ ∃ x, d = some (.dat x)) →
    ∃ (T' : List (List Fr)) (B' : MD) (j' d' : Option MD), Tm m (It lo most) T' ∧ Sy m T' ∧ BagOk B' ∧ (j' = none ∨ ∃ x, j' = some (.dat x)) ∧ (d' = none ∨ ∃ x, d' = some (.dat x)) ∧ alLoop 4 6 5 7 8 9 i e2__law_own_table (l.map fun (x : Nat) => PyData.int x) (Gt B m lo most (llF T) (some (.dat (.int i))) j d) = some (Gt B' m lo most (llF T') (some (.dat (.int i))) j' d')
  | [], T, B, j, d, _, hT, hs, hB, hj, hd => ⟨T, B, j, d, hT, hs, hB, hj, hd, rfl⟩
  | x :: l, T, B, j, d, hl, hT, hs, hB, hj, hd => by
    have hx := hl x List.mem_cons_self
    obtain ⟨q, B1, hq, hB1, e⟩ := al_step hlo h1 hm hT hi hx hB d hd
    obtain ⟨T', B', j', d', a1, a2, a3, a4, a5, e2⟩ := al_loop hlo h1 hm hi l (set2 T i x q) B1 (some (.dat (.int x))) (some (.dat (frD q))) (fun y hy => hl y (List.mem_cons_of_mem _ hy)) (hT.set2 hi hx hq) (hs.set2 hT hi hx hq) hB1 (.inr ⟨_, rfl⟩) (.inr ⟨_, rfl⟩)
    refine ⟨T', B', j', d', a1, a2, a3, a4, a5, ?_⟩
    rw [List.map_cons, alLoop]
    have g : gN 7 (.int x) (Gt B m lo most (llF T) (some (.dat (.int i))) j d) = some (Gt B m lo most (llF T) (some (.dat (.int i))) (some (.dat (.int x))) d) := by
      rcases hj with rfl | ⟨y, rfl⟩ <;> simp [fnOf, fSeq, fNil, fSet, fRet, fDrop, fIf, fFgt, fgtO, fgt, fFor, fIfE, fT, fTru, truD, fAnd, fOr, fNot, fAndV, fOrV, fNotV, fOp2, fVar, fC, fB, fACons, fANil, fTup, fLst, fNeg, gRel, gInt2, gInt2C, gAdd, gMulX_int, gIx, gLen, gAbs, gInt, gEq, gIs, gIsNot, dv_dat, dv_lst, dv_al, dvs, own_dat, own_lst, own_bag, own_dcK, own_scr, flat_dat, flat_lst, Res.fin, frzs_nil, frzs_cons, frz_dat, intT_int, outs, als, argsOf, putArgs, fCall, eqv_int, shp_int, shp_none, shp_bool, noOwn, ownAt, sizeLine_eq, fIter, itemsOf, fRange1, fRange2, eqX_int, eqX_str, fEnumA, fFrz, fNever, permOk, perm, fCallK, fCallP, gMax2, gMin2, gMax3, gMin3, fPar2, fMulti, putM, fAsgG, fLc, lcStep, lsStep, tYesF, gN, gT, gsCons, gsNil, gN]
    rw [g, Option.bind_some]
    have f : isFree (Gt B m lo most (llF T) (some (.dat (.int i))) (some (.dat (.int x))) d) 6 = some () := rfl
    rw [f, Option.bind_some, e, Option.bind_some, e2]
theorem range_cast (i m : Nat) : (List.range (m - i)).map (fun (x : Nat) => PyData.int ((i : Int) + x)) = ((List.range (m - i)).map fun x => i + x).map fun (x : Nat) => PyData.int x := by
  rw [List.map_map]
  exact List.map_congr_left fun x _ => by simp
theorem table_row {m most i : Nat} {lo : Int} (hlo : lo = 0 ∨ lo = -1) (h1 : 1 ≤ most) (hm : most ≤ 1000) (hi : i < m) (h8 : m ≤ 1000) {T : List (List Fr)} {B : MD} (hT : Tm m (It lo most) T) (hs : Sy m T) (hB : BagOk B) :
    ∃ (T' : List (List Fr)) (B' : MD), Tm m (It lo most) T' ∧ Sy m T' ∧ BagOk B' ∧ lsStep (gN 5) b3__law_own_table (.int i) (Gt B m lo most (llF T) none none none) = some (.nx (Gt B' m lo most (llF T') none none none)) := by
  obtain ⟨T', B', j', d', a1, a2, a3, a4, a5, e⟩ := al_loop hlo h1 hm hi ((List.range (m - i)).map fun x => i + x) T B none none (fun x hx => by
    obtain ⟨y, hy, rfl⟩ := List.mem_map.mp hx
    have := List.mem_range.mp hy; omega) hT hs hB (.inl rfl) (.inl rfl)
  refine ⟨T', B', a1, a2, a3, ?_⟩
  have r := rg2_nat (a := i) (b := m) (by omega) (by omega)
  rw [range_cast] at r
  have li : ixN (llF T).length (i : Int) = some i := ixN_nat (by rw [llF_len, hT.lt]; exact hi)
  have x1 := ll_at hT hi
  generalize llF T' = X1 at *
  generalize llF T = X0 at *
  generalize ((List.range (m - i)).map fun x => i + x).map (fun (x : Nat) => PyData.int x) = rr at *
  generalize (T.getD i []).map frD = r1 at *
  simp [fnOf, fSeq, fNil, fSet, fRet, fDrop, fIf, fFgt, fgtO, fgt, fFor, fIfE, fT, fTru, truD, fAnd, fOr, fNot, fAndV, fOrV, fNotV, fOp2, fVar, fC, fB, fACons, fANil, fTup, fLst, fNeg, gRel, gInt2, gInt2C, gAdd, gMulX_int, gIx, gLen, gAbs, gInt, gEq, gIs, gIsNot, dv_dat, dv_lst, dv_al, dvs, own_dat, own_lst, own_bag, own_dcK, own_scr, flat_dat, flat_lst, Res.fin, frzs_nil, frzs_cons, frz_dat, intT_int, outs, als, argsOf, putArgs, fCall, eqv_int, shp_int, shp_none, shp_bool, noOwn, ownAt, sizeLine_eq, fIter, itemsOf, fRange1, fRange2, eqX_int, eqX_str, fEnumA, fFrz, fNever, permOk, perm, fCallK, fCallP, gMax2, gMin2, gMax3, gMin3, fPar2, fMulti, putM, fAsgG, fLc, lcStep, lsStep, tYesF, gN, gT, gsCons, gsNil, b3__law_own_table, fAlias, pVar, rowP, llsS, li, x1, isFree, r, e, hB.own, a3.own]
theorem It.zero {lo : Int} {most : Nat} (h1 : 1 ≤ most) : It lo most (0, 1) := ⟨low_int 0, by decide, h1, fun _ => by show (0 : Int) ≤ 0; omega⟩
theorem rep_Tm {m : Nat} {P : Fr → Prop} {q : Fr} (h : P q) : Tm m P (List.replicate m (List.replicate m q)) where
  lt := List.length_replicate
  lr := fun r hr => by rw [List.eq_of_mem_replicate hr, List.length_replicate]
  it := fun r hr x hx => by rw [List.eq_of_mem_replicate hr] at hx; rw [List.eq_of_mem_replicate hx]; exact h
theorem rep_at {m i j : Nat} {q : Fr} (hi : i < m) (hj : j < m) : ((List.replicate m (List.replicate m q)).getD i []).getD j (0, 1) = q := by
  rw [List.getD_eq_getElem?_getD, List.getD_eq_getElem?_getD, List.getElem?_replicate, if_pos hi]
  show ((List.replicate m q)[j]?).getD (0, 1) = q
  rw [List.getElem?_replicate, if_pos hj]; rfl
theorem rep_Sy {m : Nat} {q : Fr} : Sy m (List.replicate m (List.replicate m q)) := ⟨fun i j hi hj => by rw [rep_at hi hj, rep_at hj hi]⟩
theorem table_ok {m most : Nat} {lo : Int} (hlo : lo = 0 ∨ lo = -1) (h1 : 1 ≤ most) (hm : most ≤ 1000) (h8 : m ≤ 1000) {B : MD} (hB : BagOk B) : ∃ (T : List (List Fr)) (B' : MD), F__law_own_table [B, .dat (.int (m : Nat)), .dat (.int lo), .dat (.int (most : Nat))] = some (.dat (tblD T), [some B', none, none, none]) ∧ BagOk B' ∧ Tm m (It lo most) T ∧ Sy m T := by
  have r1 := rg1_nat (p := m) (by omega)
  have z : frD (0, 1) = .tuple [.int 0, .int 1] := rfl
  have mk : gMulX (.list [frD (0, 1)]) (.int (m : Nat)) = some (.new (List.replicate m (frD (0, 1)))) := gMul_rep _ (by omega)
  have mkl : List.replicate m (frD (0, 1)) = (List.replicate m ((0, 1) : Fr)).map frD := by simp
  rw [mkl] at mk
  have e1 : ∀ (l : List Nat) (acc : List (List PyData)), acc.length + l.length ≤ 2000 → loopLL (gN 10) tYesF e1__law_own_table [10] (l.map fun (x : Nat) => PyData.int x) acc [some B, some (.dat (.int m)), some (.dat (.int lo)), some (.dat (.int most)), none, none, none, none, none, none, none, none] =
      some (acc ++ List.replicate l.length ((List.replicate m ((0, 1) : Fr)).map frD), [some B, some (.dat (.int m)), some (.dat (.int lo)), some (.dat (.int most)), none, none, none, none, none, none, none, none]) := by
    intro l
    induction l with
    | nil => intro acc _; simp [loopLL]
    | cons x l ih =>
      intro acc hl
      have ha : acc.length < 16777216 := by simp at hl; omega
      rw [List.map_cons]
      have : loopLL (gN 10) tYesF e1__law_own_table [10] (PyData.int x :: l.map fun (x : Nat) => PyData.int x) acc [some B, some (.dat (.int m)), some (.dat (.int lo)), some (.dat (.int most)), none, none, none, none, none, none, none, none] =
          loopLL (gN 10) tYesF e1__law_own_table [10] (l.map fun (x : Nat) => PyData.int x) (acc ++ [(List.replicate m ((0, 1) : Fr)).map frD]) [some B, some (.dat (.int m)), some (.dat (.int lo)), some (.dat (.int most)), none, none, none, none, none, none, none, none] := by
        rw [z] at mk
        generalize (List.replicate m ((0, 1) : Fr)).map frD = rw0 at *
        rw [loopLL]
        simp [fnOf, fSeq, fNil, fSet, fRet, fDrop, fIf, fFgt, fgtO, fgt, fFor, fIfE, fT, fTru, truD, fAnd, fOr, fNot, fAndV, fOrV, fNotV, fOp2, fVar, fC, fB, fACons, fANil, fTup, fLst, fNeg, gRel, gInt2, gInt2C, gAdd, gMulX_int, gIx, gLen, gAbs, gInt, gEq, gIs, gIsNot, dv_dat, dv_lst, dv_al, dvs, own_dat, own_lst, own_bag, own_dcK, own_scr, flat_dat, flat_lst, Res.fin, frzs_nil, frzs_cons, frz_dat, intT_int, outs, als, argsOf, putArgs, fCall, eqv_int, shp_int, shp_none, shp_bool, noOwn, ownAt, sizeLine_eq, fIter, itemsOf, fRange1, fRange2, eqX_int, eqX_str, fEnumA, fFrz, fNever, permOk, perm, fCallK, fCallP, gMax2, gMin2, gMax3, gMin3, fPar2, fMulti, putM, fAsgG, fLc, lcStep, lsStep, tYesF, gN, gT, gsCons, gsNil, e1__law_own_table, mk, lstT, ha, hB.own]
      rw [this, ih _ (by simp at hl ⊢; omega)]
      simp [List.replicate_succ]
  have e2 := e1 (List.range m) [] (by simp; omega)
  rw [List.nil_append, List.length_range] at e2
  have ell : List.replicate m ((List.replicate m ((0, 1) : Fr)).map frD) = llF (List.replicate m (List.replicate m (0, 1))) := by simp [llF]
  rw [ell] at e2
  obtain ⟨Γ, e3, T, B', hΓ, hT, hs, hB'⟩ := loopS_ok (tg := gN 5) (b := b3__law_own_table) (P := fun _ Γ => ∃ (T : List (List Fr)) (B' : MD), Γ = Gt B' m lo most (llF T) none none none ∧ Tm m (It lo most) T ∧ Sy m T ∧ BagOk B') (items := (List.range m).map fun (x : Nat) => PyData.int x)
    (Γ := Gt B m lo most (llF (List.replicate m (List.replicate m (0, 1)))) none none none) 0 ⟨_, B, rfl, rep_Tm (It.zero h1), rep_Sy, hB⟩ fun i d Γ hd ⟨T, B1, hΓ, hT, hs, hB1⟩ => by
      subst hΓ
      have hi : i < m := by
        have := (List.getElem?_eq_some_iff.mp hd).1
        simpa using this
      rw [List.getElem?_map, List.getElem?_range hi] at hd
      cases hd
      obtain ⟨T', B2, hT', hs', hB2, e⟩ := table_row hlo h1 hm hi h8 hT hs hB1
      exact ⟨_, .inl e, T', B2, rfl, hT', hs', hB2⟩
  subst hΓ
  refine ⟨T, B', ?_, hB', hT, hs⟩
  have e4 : ∀ a b c d : Option MD, loopL (gN 11) tYesF e4__law_own_table [11] ((llF T).map .list) [] [a, b, c, d, some (.dat (.list ((llF T).map .list))), none, none, none, none, none, none, none] = some (T.map frsD, [a, b, c, d, some (.dat (.list ((llF T).map .list))), none, none, none, none, none, none, none]) := fun a b c d => by
    have : (llF T).map PyData.list = T.map fun r => PyData.list (r.map frD) := by rw [llF, List.map_map]; rfl
    rw [this]
    have := loopL_map (acc := []) (g := fun r : List Fr => PyData.list (r.map frD)) (f := frsD) (l := T) (tg := gN 11) (tt := tYesF) (fe := e4__law_own_table) (own := [11]) (Γ := [a, b, c, d, some (.dat (.list (T.map fun r => PyData.list (r.map frD)))), none, none, none, none, none, none, none]) (by rw [sizeLine_eq, hT.lt]; simp; omega) fun r hr => by
      simp only [frsD]
      generalize r.map frD = rr at *
      simp [fnOf, fSeq, fNil, fSet, fRet, fDrop, fIf, fFgt, fgtO, fgt, fFor, fIfE, fT, fTru, truD, fAnd, fOr, fNot, fAndV, fOrV, fNotV, fOp2, fVar, fC, fB, fACons, fANil, fTup, fLst, fNeg, gRel, gInt2, gInt2C, gAdd, gMulX_int, gIx, gLen, gAbs, gInt, gEq, gIs, gIsNot, dv_dat, dv_lst, dv_al, dvs, own_dat, own_lst, own_bag, own_dcK, own_scr, flat_dat, flat_lst, Res.fin, frzs_nil, frzs_cons, frz_dat, intT_int, outs, als, argsOf, putArgs, fCall, eqv_int, shp_int, shp_none, shp_bool, noOwn, ownAt, sizeLine_eq, fIter, itemsOf, fRange1, fRange2, eqX_int, eqX_str, fEnumA, fFrz, fNever, permOk, perm, fCallK, fCallP, gMax2, gMin2, gMax3, gMin3, fPar2, fMulti, putM, fAsgG, fLc, lcStep, lsStep, tYesF, gN, gT, gsCons, gsNil, e4__law_own_table, gToT]
    rw [this, List.nil_append]
  have ef : (MD.lls (llF T)).flat = some (.list ((llF T).map .list)) := rfl
  have eo : (MD.lls (llF T)).own = true := rfl
  have eo2 : (MD.lls (llF (List.replicate m (List.replicate m (0, 1))))).own = true := rfl
  simp only [tblD]
  generalize (llF T).map PyData.list = X1 at *
  generalize T.map frsD = td at *
  generalize llF T = X2 at *
  generalize llF (List.replicate m (List.replicate m (0, 1))) = X0 at *
  generalize (List.range m).map (fun (x : Nat) => PyData.int x) = rr at *
  simp [fnOf, fSeq, fNil, fSet, fRet, fDrop, fIf, fFgt, fgtO, fgt, fFor, fIfE, fT, fTru, truD, fAnd, fOr, fNot, fAndV, fOrV, fNotV, fOp2, fVar, fC, fB, fACons, fANil, fTup, fLst, fNeg, gRel, gInt2, gInt2C, gAdd, gMulX_int, gIx, gLen, gAbs, gInt, gEq, gIs, gIsNot, dv_dat, dv_lst, dv_al, dvs, own_dat, own_lst, own_bag, own_dcK, own_scr, flat_dat, flat_lst, Res.fin, frzs_nil, frzs_cons, frz_dat, intT_int, outs, als, argsOf, putArgs, fCall, eqv_int, shp_int, shp_none, shp_bool, noOwn, ownAt, sizeLine_eq, fIter, itemsOf, fRange1, fRange2, eqX_int, eqX_str, fEnumA, fFrz, fNever, permOk, perm, fCallK, fCallP, gMax2, gMin2, gMax3, gMin3, fPar2, fMulti, putM, fAsgG, fLc, F__law_own_table, fLcL, r1, e2, e3, e4, ef, eo, eo2, hB.own, hB'.own, gToT]
end Lw

end

/-! K14k: a drawn sheet -/
noncomputable section
namespace Lw
open PySem PySem.Spec PyProof.Rows L2 Fx
open Ms (Bd Fr low num lcmL Low S)

theorem mkSheet0 {m most : Nat} (h1 : 1 ≤ m) (h8 : m ≤ 8) {lo : Int} {W : List Fr} {T : List (List Fr)} (hW : Wt m W) (hT : Tm m (It lo most) T) (hu : unT T ≤ 2 ^ 300) : Vd m W T := by
  obtain ⟨f1, f2, f3, f4, f5⟩ := hW.facts h1 h8
  exact { m1 := h1, m8 := h8, lw := f1, lt := hT.lt, lr := hT.lr, dw := f2, uw := f3
          dp := fun r hr q hq => (hT.it r hr q hq).lw.pos
          un_le := hu
          ut := fun r hr q hq => (hT.it r hr q hq).un, wp := f4, ws := f5 }
theorem mkSheet {m most : Nat} (h1 : 1 ≤ m) (h8 : m ≤ 8) {b : Nat} (hb : b * (m * m) ≤ 300) (hb2 : b ≤ 300) (hm : most ≤ 2 ^ b) {lo : Int} {W : List Fr} {T : List (List Fr)} (hW : Wt m W) (hT : Tm m (It lo most) T) : Vd m W T :=
  mkSheet0 h1 h8 hW hT (un_crude (b := b) (fun r hr q hq => ⟨(hT.it r hr q hq).lw.pos, Nat.le_trans (hT.it r hr q hq).dn hm⟩) (by rw [flat_len hT.lr, hT.lt]; exact hb))
theorem It.one {most : Nat} (h1 : 1 ≤ most) : It 0 most (1, 1) := ⟨low_int 1, by decide, h1, fun _ => by show (0 : Int) ≤ 1; omega⟩
/-- which items stay -/
def st (k at' i j : Nat) : Bool := decide (k > 4) || ((decide (k = 2) && (decide (i = j) && decide (j = at'))) || (decide (k = 3) && (decide (i = at') != decide (j = at')))) || (decide (k = 4) && (decide (i > at') != decide (j > at')))
def nt (k at' i j : Nat) (q : Fr) : Fr := if st k at' i j = true then (if k = 5 ∧ 0 < q.1 then (1, 1) else q) else (0, 1)
theorem st_sym (k at' i j : Nat) : st k at' i j = st k at' j i := by
  unfold st
  by_cases h1 : i = at' <;> by_cases h2 : j = at' <;> by_cases h3 : i > at' <;> by_cases h4 : j > at' <;> by_cases h5 : i = j <;> simp [h1, h2, h3, h4, h5] <;> omega
theorem nt_It {most k at' i j : Nat} {q : Fr} (h1 : 1 ≤ most) (h : It 0 most q) : It 0 most (nt k at' i j q) := by
  unfold nt
  split
  · split
    · exact It.one h1
    · exact h
  · exact It.zero h1
def chg (k at' : Nat) (T : List (List Fr)) : List (List Fr) := T.zipIdx.map fun p => p.1.zipIdx.map fun q => nt k at' p.2 q.2 q.1
theorem chg_at {m : Nat} {P : Fr → Prop} {T : List (List Fr)} (h : Tm m P T) (k at' : Nat) {i j : Nat} (hi : i < m) (hj : j < m) : at2F (chg k at' T) i j = nt k at' i j (at2F T i j) := by
  have hl : i < T.length := by rw [h.lt]; exact hi
  have hr : j < (T[i]).length := by rw [h.lr _ (List.getElem_mem hl)]; exact hj
  unfold at2F chg
  simp [List.getD_eq_getElem?_getD, List.getElem?_map, List.getElem?_zipIdx, List.getElem?_eq_getElem hl, List.getElem?_eq_getElem hr]
theorem chg_Tm {m most : Nat} {T : List (List Fr)} (h1 : 1 ≤ most) (h : Tm m (It 0 most) T) (k at' : Nat) : Tm m (It 0 most) (chg k at' T) where
  lt := by simp [chg, h.lt]
  lr := fun r hr => by
    obtain ⟨p, hp, rfl⟩ := List.mem_map.mp hr
    have : p.1 ∈ T := List.fst_mem_of_mem_zipIdx hp
    simpa using h.lr _ this
  it := fun r hr x hx => by
    obtain ⟨p, hp, rfl⟩ := List.mem_map.mp hr
    obtain ⟨q, hq, rfl⟩ := List.mem_map.mp hx
    exact nt_It h1 (h.it _ (List.fst_mem_of_mem_zipIdx hp) _ (List.fst_mem_of_mem_zipIdx hq))
theorem chg_Sy {m : Nat} {P : Fr → Prop} {T : List (List Fr)} (h : Tm m P T) (s : Sy m T) (k at' : Nat) : Sy m (chg k at' T) := ⟨fun i j hi hj => by
  show at2F (chg k at' T) i j = at2F (chg k at' T) j i
  have e : at2F T i j = at2F T j i := s.sy i j hi hj
  rw [chg_at h _ _ hi hj, chg_at h _ _ hj hi, e, nt, nt, st_sym]⟩
abbrev Gs (B : MD) (m most : Nat) (w : PyData) (k : Nat) (tb : PyData) (a : Nat) (rows : List PyData) (row : PyData) (i : Nat) (line : List PyData) : Gm := [some B, some (.dat (.int m)), some (.dat (.int most)), some (.dat w), some (.dat (.int k)), some (.dat tb), some (.dat (.int a)), some (.lst rows), some (.dat row), none, some (.dat (.int i)), some (.lst line), none, none, none, none]
theorem chg_step {m most k a i j : Nat} {w tb row : PyData} {rows line : List PyData} {B : MD} (hB : BagOk B) (hl : line.length < 1000) (q : Fr) :
    lsStep (gT 2 (gsCons (gN 12) (gsCons (gN 13) gsNil))) b4__law_own_sheet (.tuple [.int j, frD q]) (Gs B m most w k tb a rows row i line) = some (.nx (Gs B m most w k tb a rows row i (line ++ [frD (nt k a i j q)]))) := by
  have hl' : line.length < 16777216 := by omega
  have x0 : atI [PyData.int q.1, .int (q.2 : Nat)] 0 = some (.int q.1) := rfl
  have b1 : ∀ x y : Bool, gEqX true (.bool x) (.bool y) = some (.val (.bool (x != y))) := fun x y => by rw [eqX_bool]; cases x <;> cases y <;> rfl
  by_cases k4 : k > 4
  · have k4' : (4 : Int) < k := by omega
    have es : st k a i j = true := by simp [st, k4]
    by_cases k5 : k = 5
    · subst k5
      by_cases q0 : 0 < q.1
      · have en : nt 5 a i j q = (1, 1) := by rw [nt, if_pos es, if_pos ⟨rfl, q0⟩]
        have eo : frD (1, 1) = .tuple [.int 1, .int 1] := rfl
        rw [en, eo]
        simp [fnOf, fSeq, fNil, fSet, fRet, fDrop, fIf, fFgt, fgtO, fgt, fFor, fIfE, fT, fTru, truD, fAnd, fOr, fNot, fAndV, fOrV, fNotV, fOp2, fVar, fC, fB, fACons, fANil, fTup, fLst, fNeg, gRel, gInt2, gInt2C, gAdd, gMulX_int, gIx, gLen, gAbs, gInt, gEq, gIs, gIsNot, dv_dat, dv_lst, dv_al, dvs, own_dat, own_lst, own_bag, own_dcK, own_scr, flat_dat, flat_lst, Res.fin, frzs_nil, frzs_cons, frz_dat, intT_int, outs, als, argsOf, putArgs, fCall, eqv_int, shp_int, shp_none, shp_bool, noOwn, ownAt, sizeLine_eq, fIter, itemsOf, fRange1, fRange2, eqX_int, eqX_str, fEnumA, fFrz, fNever, permOk, perm, fCallK, fCallP, gMax2, gMin2, gMax3, gMin3, fPar2, fMulti, putM, fAsgG, fLc, lcStep, lsStep, tYesF, gN, gT, gsCons, gsNil, b4__law_own_sheet, frD, x0, fAppend, lstS, hl', hB.own, q0]
      · have en : nt 5 a i j q = q := by rw [nt, if_pos es, if_neg fun h => q0 h.2]
        rw [en]
        simp [fnOf, fSeq, fNil, fSet, fRet, fDrop, fIf, fFgt, fgtO, fgt, fFor, fIfE, fT, fTru, truD, fAnd, fOr, fNot, fAndV, fOrV, fNotV, fOp2, fVar, fC, fB, fACons, fANil, fTup, fLst, fNeg, gRel, gInt2, gInt2C, gAdd, gMulX_int, gIx, gLen, gAbs, gInt, gEq, gIs, gIsNot, dv_dat, dv_lst, dv_al, dvs, own_dat, own_lst, own_bag, own_dcK, own_scr, flat_dat, flat_lst, Res.fin, frzs_nil, frzs_cons, frz_dat, intT_int, outs, als, argsOf, putArgs, fCall, eqv_int, shp_int, shp_none, shp_bool, noOwn, ownAt, sizeLine_eq, fIter, itemsOf, fRange1, fRange2, eqX_int, eqX_str, fEnumA, fFrz, fNever, permOk, perm, fCallK, fCallP, gMax2, gMin2, gMax3, gMin3, fPar2, fMulti, putM, fAsgG, fLc, lcStep, lsStep, tYesF, gN, gT, gsCons, gsNil, b4__law_own_sheet, frD, x0, fAppend, lstS, hl', hB.own, q0]
    · have k5' : ¬ (k : Int) = 5 := by omega
      have en : nt k a i j q = q := by rw [nt, if_pos es, if_neg fun h => k5 h.1]
      rw [en]
      simp [fnOf, fSeq, fNil, fSet, fRet, fDrop, fIf, fFgt, fgtO, fgt, fFor, fIfE, fT, fTru, truD, fAnd, fOr, fNot, fAndV, fOrV, fNotV, fOp2, fVar, fC, fB, fACons, fANil, fTup, fLst, fNeg, gRel, gInt2, gInt2C, gAdd, gMulX_int, gIx, gLen, gAbs, gInt, gEq, gIs, gIsNot, dv_dat, dv_lst, dv_al, dvs, own_dat, own_lst, own_bag, own_dcK, own_scr, flat_dat, flat_lst, Res.fin, frzs_nil, frzs_cons, frz_dat, intT_int, outs, als, argsOf, putArgs, fCall, eqv_int, shp_int, shp_none, shp_bool, noOwn, ownAt, sizeLine_eq, fIter, itemsOf, fRange1, fRange2, eqX_int, eqX_str, fEnumA, fFrz, fNever, permOk, perm, fCallK, fCallP, gMax2, gMin2, gMax3, gMin3, fPar2, fMulti, putM, fAsgG, fLc, lcStep, lsStep, tYesF, gN, gT, gsCons, gsNil, b4__law_own_sheet, frD, x0, fAppend, lstS, hl', hB.own, k4, k4', k5, k5']
  · have k4' : ¬ (4 : Int) < k := by omega
    have k5 : ¬ k = 5 := by omega
    have k5' : ¬ (k : Int) = 5 := by omega
    have en : nt k a i j q = if st k a i j = true then q else (0, 1) := by
      rw [nt]; split
      · rw [if_neg fun h => k5 h.1]
      · rfl
    have ez : frD (0, 1) = .tuple [.int 0, .int 1] := rfl
    rcases (show k = 0 ∨ k = 1 ∨ k = 2 ∨ k = 3 ∨ k = 4 by omega) with rfl | rfl | rfl | rfl | rfl
    · have es : st 0 a i j = false := by simp [st]
      rw [en, if_neg (by rw [es]; simp), ez]
      simp [fnOf, fSeq, fNil, fSet, fRet, fDrop, fIf, fFgt, fgtO, fgt, fFor, fIfE, fT, fTru, truD, fAnd, fOr, fNot, fAndV, fOrV, fNotV, fOp2, fVar, fC, fB, fACons, fANil, fTup, fLst, fNeg, gRel, gInt2, gInt2C, gAdd, gMulX_int, gIx, gLen, gAbs, gInt, gEq, gIs, gIsNot, dv_dat, dv_lst, dv_al, dvs, own_dat, own_lst, own_bag, own_dcK, own_scr, flat_dat, flat_lst, Res.fin, frzs_nil, frzs_cons, frz_dat, intT_int, outs, als, argsOf, putArgs, fCall, eqv_int, shp_int, shp_none, shp_bool, noOwn, ownAt, sizeLine_eq, fIter, itemsOf, fRange1, fRange2, eqX_int, eqX_str, fEnumA, fFrz, fNever, permOk, perm, fCallK, fCallP, gMax2, gMin2, gMax3, gMin3, fPar2, fMulti, putM, fAsgG, fLc, lcStep, lsStep, tYesF, gN, gT, gsCons, gsNil, b4__law_own_sheet, frD, x0, fAppend, lstS, hl', hB.own]
    · have es : st 1 a i j = false := by simp [st]
      rw [en, if_neg (by rw [es]; simp), ez]
      simp [fnOf, fSeq, fNil, fSet, fRet, fDrop, fIf, fFgt, fgtO, fgt, fFor, fIfE, fT, fTru, truD, fAnd, fOr, fNot, fAndV, fOrV, fNotV, fOp2, fVar, fC, fB, fACons, fANil, fTup, fLst, fNeg, gRel, gInt2, gInt2C, gAdd, gMulX_int, gIx, gLen, gAbs, gInt, gEq, gIs, gIsNot, dv_dat, dv_lst, dv_al, dvs, own_dat, own_lst, own_bag, own_dcK, own_scr, flat_dat, flat_lst, Res.fin, frzs_nil, frzs_cons, frz_dat, intT_int, outs, als, argsOf, putArgs, fCall, eqv_int, shp_int, shp_none, shp_bool, noOwn, ownAt, sizeLine_eq, fIter, itemsOf, fRange1, fRange2, eqX_int, eqX_str, fEnumA, fFrz, fNever, permOk, perm, fCallK, fCallP, gMax2, gMin2, gMax3, gMin3, fPar2, fMulti, putM, fAsgG, fLc, lcStep, lsStep, tYesF, gN, gT, gsCons, gsNil, b4__law_own_sheet, frD, x0, fAppend, lstS, hl', hB.own]
    · have es : st 2 a i j = (decide (i = j) && decide (j = a)) := by simp [st]
      rw [en, es]
      by_cases h1 : i = j
      · subst h1
        by_cases h2 : i = a
        · subst h2
          rw [if_pos (by simp)]
          simp [fnOf, fSeq, fNil, fSet, fRet, fDrop, fIf, fFgt, fgtO, fgt, fFor, fIfE, fT, fTru, truD, fAnd, fOr, fNot, fAndV, fOrV, fNotV, fOp2, fVar, fC, fB, fACons, fANil, fTup, fLst, fNeg, gRel, gInt2, gInt2C, gAdd, gMulX_int, gIx, gLen, gAbs, gInt, gEq, gIs, gIsNot, dv_dat, dv_lst, dv_al, dvs, own_dat, own_lst, own_bag, own_dcK, own_scr, flat_dat, flat_lst, Res.fin, frzs_nil, frzs_cons, frz_dat, intT_int, outs, als, argsOf, putArgs, fCall, eqv_int, shp_int, shp_none, shp_bool, noOwn, ownAt, sizeLine_eq, fIter, itemsOf, fRange1, fRange2, eqX_int, eqX_str, fEnumA, fFrz, fNever, permOk, perm, fCallK, fCallP, gMax2, gMin2, gMax3, gMin3, fPar2, fMulti, putM, fAsgG, fLc, lcStep, lsStep, tYesF, gN, gT, gsCons, gsNil, b4__law_own_sheet, frD, x0, fAppend, lstS, hl', hB.own, fChain]
        · have h2' : ¬ (i : Int) = a := by omega
          rw [if_neg (by simp [h2]), ez]
          simp [fnOf, fSeq, fNil, fSet, fRet, fDrop, fIf, fFgt, fgtO, fgt, fFor, fIfE, fT, fTru, truD, fAnd, fOr, fNot, fAndV, fOrV, fNotV, fOp2, fVar, fC, fB, fACons, fANil, fTup, fLst, fNeg, gRel, gInt2, gInt2C, gAdd, gMulX_int, gIx, gLen, gAbs, gInt, gEq, gIs, gIsNot, dv_dat, dv_lst, dv_al, dvs, own_dat, own_lst, own_bag, own_dcK, own_scr, flat_dat, flat_lst, Res.fin, frzs_nil, frzs_cons, frz_dat, intT_int, outs, als, argsOf, putArgs, fCall, eqv_int, shp_int, shp_none, shp_bool, noOwn, ownAt, sizeLine_eq, fIter, itemsOf, fRange1, fRange2, eqX_int, eqX_str, fEnumA, fFrz, fNever, permOk, perm, fCallK, fCallP, gMax2, gMin2, gMax3, gMin3, fPar2, fMulti, putM, fAsgG, fLc, lcStep, lsStep, tYesF, gN, gT, gsCons, gsNil, b4__law_own_sheet, frD, x0, fAppend, lstS, hl', hB.own, fChain, h2, h2']
      · have h1' : ¬ (i : Int) = j := by omega
        rw [if_neg (by simp [h1]), ez]
        simp [fnOf, fSeq, fNil, fSet, fRet, fDrop, fIf, fFgt, fgtO, fgt, fFor, fIfE, fT, fTru, truD, fAnd, fOr, fNot, fAndV, fOrV, fNotV, fOp2, fVar, fC, fB, fACons, fANil, fTup, fLst, fNeg, gRel, gInt2, gInt2C, gAdd, gMulX_int, gIx, gLen, gAbs, gInt, gEq, gIs, gIsNot, dv_dat, dv_lst, dv_al, dvs, own_dat, own_lst, own_bag, own_dcK, own_scr, flat_dat, flat_lst, Res.fin, frzs_nil, frzs_cons, frz_dat, intT_int, outs, als, argsOf, putArgs, fCall, eqv_int, shp_int, shp_none, shp_bool, noOwn, ownAt, sizeLine_eq, fIter, itemsOf, fRange1, fRange2, eqX_int, eqX_str, fEnumA, fFrz, fNever, permOk, perm, fCallK, fCallP, gMax2, gMin2, gMax3, gMin3, fPar2, fMulti, putM, fAsgG, fLc, lcStep, lsStep, tYesF, gN, gT, gsCons, gsNil, b4__law_own_sheet, frD, x0, fAppend, lstS, hl', hB.own, fChain, h1, h1']
    · have es : st 3 a i j = (decide (i = a) != decide (j = a)) := by simp [st]
      rw [en, es]
      by_cases h1 : i = a <;> by_cases h2 : j = a
      · have h1' : (i : Int) = a := by omega
        have h2' : (j : Int) = a := by omega
        rw [if_neg (by simp [h1, h2]), ez]
        simp [fnOf, fSeq, fNil, fSet, fRet, fDrop, fIf, fFgt, fgtO, fgt, fFor, fIfE, fT, fTru, truD, fAnd, fOr, fNot, fAndV, fOrV, fNotV, fOp2, fVar, fC, fB, fACons, fANil, fTup, fLst, fNeg, gRel, gInt2, gInt2C, gAdd, gMulX_int, gIx, gLen, gAbs, gInt, gEq, gIs, gIsNot, dv_dat, dv_lst, dv_al, dvs, own_dat, own_lst, own_bag, own_dcK, own_scr, flat_dat, flat_lst, Res.fin, frzs_nil, frzs_cons, frz_dat, intT_int, outs, als, argsOf, putArgs, fCall, eqv_int, shp_int, shp_none, shp_bool, noOwn, ownAt, sizeLine_eq, fIter, itemsOf, fRange1, fRange2, eqX_int, eqX_str, fEnumA, fFrz, fNever, permOk, perm, fCallK, fCallP, gMax2, gMin2, gMax3, gMin3, fPar2, fMulti, putM, fAsgG, fLc, lcStep, lsStep, tYesF, gN, gT, gsCons, gsNil, b4__law_own_sheet, frD, x0, fAppend, lstS, hl', hB.own, h1', h2', b1]
      · have h1' : (i : Int) = a := by omega
        have h2' : ¬ (j : Int) = a := by omega
        rw [if_pos (by simp [h1, h2])]
        simp [fnOf, fSeq, fNil, fSet, fRet, fDrop, fIf, fFgt, fgtO, fgt, fFor, fIfE, fT, fTru, truD, fAnd, fOr, fNot, fAndV, fOrV, fNotV, fOp2, fVar, fC, fB, fACons, fANil, fTup, fLst, fNeg, gRel, gInt2, gInt2C, gAdd, gMulX_int, gIx, gLen, gAbs, gInt, gEq, gIs, gIsNot, dv_dat, dv_lst, dv_al, dvs, own_dat, own_lst, own_bag, own_dcK, own_scr, flat_dat, flat_lst, Res.fin, frzs_nil, frzs_cons, frz_dat, intT_int, outs, als, argsOf, putArgs, fCall, eqv_int, shp_int, shp_none, shp_bool, noOwn, ownAt, sizeLine_eq, fIter, itemsOf, fRange1, fRange2, eqX_int, eqX_str, fEnumA, fFrz, fNever, permOk, perm, fCallK, fCallP, gMax2, gMin2, gMax3, gMin3, fPar2, fMulti, putM, fAsgG, fLc, lcStep, lsStep, tYesF, gN, gT, gsCons, gsNil, b4__law_own_sheet, frD, x0, fAppend, lstS, hl', hB.own, h1', h2', h2, b1]
      · have h1' : ¬ (i : Int) = a := by omega
        have h2' : (j : Int) = a := by omega
        rw [if_pos (by simp [h1, h2])]
        simp [fnOf, fSeq, fNil, fSet, fRet, fDrop, fIf, fFgt, fgtO, fgt, fFor, fIfE, fT, fTru, truD, fAnd, fOr, fNot, fAndV, fOrV, fNotV, fOp2, fVar, fC, fB, fACons, fANil, fTup, fLst, fNeg, gRel, gInt2, gInt2C, gAdd, gMulX_int, gIx, gLen, gAbs, gInt, gEq, gIs, gIsNot, dv_dat, dv_lst, dv_al, dvs, own_dat, own_lst, own_bag, own_dcK, own_scr, flat_dat, flat_lst, Res.fin, frzs_nil, frzs_cons, frz_dat, intT_int, outs, als, argsOf, putArgs, fCall, eqv_int, shp_int, shp_none, shp_bool, noOwn, ownAt, sizeLine_eq, fIter, itemsOf, fRange1, fRange2, eqX_int, eqX_str, fEnumA, fFrz, fNever, permOk, perm, fCallK, fCallP, gMax2, gMin2, gMax3, gMin3, fPar2, fMulti, putM, fAsgG, fLc, lcStep, lsStep, tYesF, gN, gT, gsCons, gsNil, b4__law_own_sheet, frD, x0, fAppend, lstS, hl', hB.own, h1', h2', h1, b1]
      · have h1' : ¬ (i : Int) = a := by omega
        have h2' : ¬ (j : Int) = a := by omega
        rw [if_neg (by simp [h1, h2]), ez]
        simp [fnOf, fSeq, fNil, fSet, fRet, fDrop, fIf, fFgt, fgtO, fgt, fFor, fIfE, fT, fTru, truD, fAnd, fOr, fNot, fAndV, fOrV, fNotV, fOp2, fVar, fC, fB, fACons, fANil, fTup, fLst, fNeg, gRel, gInt2, gInt2C, gAdd, gMulX_int, gIx, gLen, gAbs, gInt, gEq, gIs, gIsNot, dv_dat, dv_lst, dv_al, dvs, own_dat, own_lst, own_bag, own_dcK, own_scr, flat_dat, flat_lst, Res.fin, frzs_nil, frzs_cons, frz_dat, intT_int, outs, als, argsOf, putArgs, fCall, eqv_int, shp_int, shp_none, shp_bool, noOwn, ownAt, sizeLine_eq, fIter, itemsOf, fRange1, fRange2, eqX_int, eqX_str, fEnumA, fFrz, fNever, permOk, perm, fCallK, fCallP, gMax2, gMin2, gMax3, gMin3, fPar2, fMulti, putM, fAsgG, fLc, lcStep, lsStep, tYesF, gN, gT, gsCons, gsNil, b4__law_own_sheet, frD, x0, fAppend, lstS, hl', hB.own, h1', h2', h1, h2, b1]
    · have es : st 4 a i j = (decide (i > a) != decide (j > a)) := by simp [st]
      rw [en, es]
      by_cases h1 : i > a <;> by_cases h2 : j > a
      · have h1' : (a : Int) < i := by omega
        have h2' : (a : Int) < j := by omega
        rw [if_neg (by simp [h1, h2]), ez]
        simp [fnOf, fSeq, fNil, fSet, fRet, fDrop, fIf, fFgt, fgtO, fgt, fFor, fIfE, fT, fTru, truD, fAnd, fOr, fNot, fAndV, fOrV, fNotV, fOp2, fVar, fC, fB, fACons, fANil, fTup, fLst, fNeg, gRel, gInt2, gInt2C, gAdd, gMulX_int, gIx, gLen, gAbs, gInt, gEq, gIs, gIsNot, dv_dat, dv_lst, dv_al, dvs, own_dat, own_lst, own_bag, own_dcK, own_scr, flat_dat, flat_lst, Res.fin, frzs_nil, frzs_cons, frz_dat, intT_int, outs, als, argsOf, putArgs, fCall, eqv_int, shp_int, shp_none, shp_bool, noOwn, ownAt, sizeLine_eq, fIter, itemsOf, fRange1, fRange2, eqX_int, eqX_str, fEnumA, fFrz, fNever, permOk, perm, fCallK, fCallP, gMax2, gMin2, gMax3, gMin3, fPar2, fMulti, putM, fAsgG, fLc, lcStep, lsStep, tYesF, gN, gT, gsCons, gsNil, b4__law_own_sheet, frD, x0, fAppend, lstS, hl', hB.own, h1', h2', h1, h2, b1]
      · have h1' : (a : Int) < i := by omega
        have h2' : ¬ (a : Int) < j := by omega
        rw [if_pos (by simp [h1, h2])]
        simp [fnOf, fSeq, fNil, fSet, fRet, fDrop, fIf, fFgt, fgtO, fgt, fFor, fIfE, fT, fTru, truD, fAnd, fOr, fNot, fAndV, fOrV, fNotV, fOp2, fVar, fC, fB, fACons, fANil, fTup, fLst, fNeg, gRel, gInt2, gInt2C, gAdd, gMulX_int, gIx, gLen, gAbs, gInt, gEq, gIs, gIsNot, dv_dat, dv_lst, dv_al, dvs, own_dat, own_lst, own_bag, own_dcK, own_scr, flat_dat, flat_lst, Res.fin, frzs_nil, frzs_cons, frz_dat, intT_int, outs, als, argsOf, putArgs, fCall, eqv_int, shp_int, shp_none, shp_bool, noOwn, ownAt, sizeLine_eq, fIter, itemsOf, fRange1, fRange2, eqX_int, eqX_str, fEnumA, fFrz, fNever, permOk, perm, fCallK, fCallP, gMax2, gMin2, gMax3, gMin3, fPar2, fMulti, putM, fAsgG, fLc, lcStep, lsStep, tYesF, gN, gT, gsCons, gsNil, b4__law_own_sheet, frD, x0, fAppend, lstS, hl', hB.own, h1', h2', h1, h2, b1]
      · have h1' : ¬ (a : Int) < i := by omega
        have h2' : (a : Int) < j := by omega
        rw [if_pos (by simp [h1, h2])]
        simp [fnOf, fSeq, fNil, fSet, fRet, fDrop, fIf, fFgt, fgtO, fgt, fFor, fIfE, fT, fTru, truD, fAnd, fOr, fNot, fAndV, fOrV, fNotV, fOp2, fVar, fC, fB, fACons, fANil, fTup, fLst, fNeg, gRel, gInt2, gInt2C, gAdd, gMulX_int, gIx, gLen, gAbs, gInt, gEq, gIs, gIsNot, dv_dat, dv_lst, dv_al, dvs, own_dat, own_lst, own_bag, own_dcK, own_scr, flat_dat, flat_lst, Res.fin, frzs_nil, frzs_cons, frz_dat, intT_int, outs, als, argsOf, putArgs, fCall, eqv_int, shp_int, shp_none, shp_bool, noOwn, ownAt, sizeLine_eq, fIter, itemsOf, fRange1, fRange2, eqX_int, eqX_str, fEnumA, fFrz, fNever, permOk, perm, fCallK, fCallP, gMax2, gMin2, gMax3, gMin3, fPar2, fMulti, putM, fAsgG, fLc, lcStep, lsStep, tYesF, gN, gT, gsCons, gsNil, b4__law_own_sheet, frD, x0, fAppend, lstS, hl', hB.own, h1', h2', h1, h2, b1]
      · have h1' : ¬ (a : Int) < i := by omega
        have h2' : ¬ (a : Int) < j := by omega
        rw [if_neg (by simp [h1, h2]), ez]
        simp [fnOf, fSeq, fNil, fSet, fRet, fDrop, fIf, fFgt, fgtO, fgt, fFor, fIfE, fT, fTru, truD, fAnd, fOr, fNot, fAndV, fOrV, fNotV, fOp2, fVar, fC, fB, fACons, fANil, fTup, fLst, fNeg, gRel, gInt2, gInt2C, gAdd, gMulX_int, gIx, gLen, gAbs, gInt, gEq, gIs, gIsNot, dv_dat, dv_lst, dv_al, dvs, own_dat, own_lst, own_bag, own_dcK, own_scr, flat_dat, flat_lst, Res.fin, frzs_nil, frzs_cons, frz_dat, intT_int, outs, als, argsOf, putArgs, fCall, eqv_int, shp_int, shp_none, shp_bool, noOwn, ownAt, sizeLine_eq, fIter, itemsOf, fRange1, fRange2, eqX_int, eqX_str, fEnumA, fFrz, fNever, permOk, perm, fCallK, fCallP, gMax2, gMin2, gMax3, gMin3, fPar2, fMulti, putM, fAsgG, fLc, lcStep, lsStep, tYesF, gN, gT, gsCons, gsNil, b4__law_own_sheet, frD, x0, fAppend, lstS, hl', hB.own, h1', h2', h1, h2, b1]
def Ws0 : FS := (fSet 2 2 (fIfE (fT (fOp2 gGt false (fVar 1) (fC (.int 4)))) (fCall F__law_pick (fACons (fVar 0) (fACons (fLst false (fACons (fC (.int 2)) (fACons (fC (.int 3)) (fACons (fC (.int 4)) fANil)))) fANil))) (fCall F__law_pick (fACons (fVar 0) (fACons (fLst false (fACons (fC (.int 3)) (fACons (fC (.int 12)) (fACons (fC (.int 12)) (fACons (fIfE (fT (fOp2 gLt false (fVar 1) (fC (.int 4)))) (fC (.int 1000)) (fC (.int 12))) fANil))))) fANil)))))
def Ws1 : FS := (fPar2 2 3 4 (fCall F__law_own_weights (fACons (fVar 0) (fACons (fVar 1) (fACons (fCall F__law_pick (fACons (fVar 0) (fACons (fLst false (fACons (fC (.int 1)) (fACons (fC (.int 4)) (fACons (fIfE (fT (fOp2 gLt false (fVar 1) (fC (.int 5)))) (fC (.int 12)) (fC (.int 3))) fANil)))) fANil))) fANil)))) (fCall F__law_draw (fACons (fVar 0) (fACons (fC (.int 9)) fANil))))
def Ws2 : FS := (fMulti 2 [5, 6, 7] (fACons (fCall F__law_own_table (fACons (fVar 0) (fACons (fVar 1) (fACons (fC (.int 0)) (fACons (fVar 2) fANil))))) (fACons (fCall F__law_draw (fACons (fVar 0) (fACons (fVar 1) fANil))) (fACons (fLst true fANil) fANil))))
def Ws3 : FS := (fIf (fT (fOp2 (gEqX false) false (fVar 4) (fC (.int 0)))) (fRet 2 true (fTup (fACons (fVar 3) (fACons (fOp2 gMulX false (fTup (fACons (fOp2 gMulX false (fTup (fACons (fOp2 gIx false (fOp2 gIx false (fVar 5) (fC (.int 0))) (fC (.int 0))) fANil)) (fVar 1)) fANil)) (fVar 1)) fANil)))) fNil)
def Ws4 : FS := (fIf (fT (fOp2 (gEqX false) false (fVar 4) (fC (.int 1)))) (fSeq (fSet 2 8 (fIfE (fT (fOp2 gGt false (fVar 1) (fC (.int 1)))) (fLc false (fRange1 (fVar 1)) (gN 15) tYesF e1__law_own_sheet [15]) (fLst false (fACons (fOp2 gIx false (fOp2 gIx false (fVar 5) (fC (.int 0))) (fC (.int 0))) fANil)))) (fSeq (fSet 2 9 (fLc false (fRange1 (fVar 1)) (gN 10) tYesF e3__law_own_sheet [10])) (fRet 2 true (fTup (fACons (fOp2 gMulX false (fTup (fACons (fTup (fACons (fC (.int 1)) (fACons (fVar 1) fANil))) fANil)) (fVar 1)) (fACons (fB gToT false (fACons (fVar 9) fANil)) fANil)))))) fNil)
def Ws5 : FS := (fFor (fEnumA (fVar 5)) (gT 2 (gsCons (gN 10) (gsCons (gN 8) gsNil))) b5__law_own_sheet)
def Ws6 : FS := (fFrz 7 (fRet 2 true (fTup (fACons (fVar 3) (fACons (fB gToT false (fACons (fVar 7) fANil)) fANil)))))
theorem Ws_is : F__law_own_sheet = fnOf 2 16 (fSeq Ws0 (fSeq Ws1 (fSeq Ws2 (fSeq Ws3 (fSeq Ws4 (fSeq Ws5 Ws6)))))) := rfl
theorem chg_row {m most k a i : Nat} {w tb : PyData} {rows : List PyData} {B : MD} (hB : BagOk B) {r : List Fr} (hr : r.length ≤ 100) (hrows : rows.length < 1000) :
    lsStep (gT 2 (gsCons (gN 10) (gsCons (gN 8) gsNil))) b5__law_own_sheet (.tuple [.int i, frsD r]) [some B, some (.dat (.int m)), some (.dat (.int most)), some (.dat w), some (.dat (.int k)), some (.dat tb), some (.dat (.int a)), some (.lst rows), none, none, none, none, none, none, none, none] =
      some (.nx [some B, some (.dat (.int m)), some (.dat (.int most)), some (.dat w), some (.dat (.int k)), some (.dat tb), some (.dat (.int a)), some (.lst (rows ++ [frsD (r.zipIdx.map fun q => nt k a i q.2 q.1)])), none, none, none, none, none, none, none, none]) := by
  obtain ⟨Γ, e, hΓ⟩ := loopS_ok (tg := gT 2 (gsCons (gN 12) (gsCons (gN 13) gsNil))) (b := b4__law_own_sheet) (P := fun n Γ => Γ = Gs B m most w k tb a rows (frsD r) i (((r.zipIdx.take n).map fun q => nt k a i q.2 q.1).map frD)) (items := enumD (r.map frD)) (Γ := Gs B m most w k tb a rows (frsD r) i []) 0 (by simp) fun j d Γ hd hΓ => by
    subst hΓ
    rw [enumD_map, List.getElem?_map] at hd
    obtain ⟨p, hp, rfl⟩ := Option.map_eq_some_iff.mp hd
    have hp2 : p.2 = j := by
      rw [List.getElem?_zipIdx] at hp
      obtain ⟨x, _, rfl⟩ := Option.map_eq_some_iff.mp hp
      simp
    have hj : j < r.length := by
      have := (List.getElem?_eq_some_iff.mp hp).1
      simpa using this
    refine ⟨_, .inl (chg_step hB (by simp; omega) p.1), ?_⟩
    rw [Nat.zero_add, List.take_add_one, hp, Option.toList_some, List.map_append, List.map_append]
    rfl
  have hlen : (enumD (r.map frD)).length = r.zipIdx.length := by simp [enumD]
  rw [Nat.zero_add, hlen, List.take_length] at hΓ
  rw [hΓ] at e
  have hl : rows.length < 16777216 := by omega
  simp only [frsD] at *
  generalize (r.zipIdx.map fun q => nt k a i q.2 q.1).map frD = z at *
  generalize r.map frD = rr at *
  simp [fnOf, fSeq, fNil, fSet, fRet, fDrop, fIf, fFgt, fgtO, fgt, fFor, fIfE, fT, fTru, truD, fAnd, fOr, fNot, fAndV, fOrV, fNotV, fOp2, fVar, fC, fB, fACons, fANil, fTup, fLst, fNeg, gRel, gInt2, gInt2C, gAdd, gMulX_int, gIx, gLen, gAbs, gInt, gEq, gIs, gIsNot, dv_dat, dv_lst, dv_al, dvs, own_dat, own_lst, own_bag, own_dcK, own_scr, flat_dat, flat_lst, Res.fin, frzs_nil, frzs_cons, frz_dat, intT_int, outs, als, argsOf, putArgs, fCall, eqv_int, shp_int, shp_none, shp_bool, noOwn, ownAt, sizeLine_eq, fIter, itemsOf, fRange1, fRange2, eqX_int, eqX_str, fEnumA, fFrz, fNever, permOk, perm, fCallK, fCallP, gMax2, gMin2, gMax3, gMin3, fPar2, fMulti, putM, fAsgG, fLc, lcStep, lsStep, tYesF, gN, gT, gsCons, gsNil, b5__law_own_sheet, e, fAppend, lstS, hl, hB.own, gToT]
theorem chg_all {m most k a : Nat} {w : PyData} {B : MD} (hB : BagOk B) {T : List (List Fr)} (hT : ∀ r ∈ T, r.length ≤ 100) (hl : T.length ≤ 100) (tb : PyData) :
    loopS (gT 2 (gsCons (gN 10) (gsCons (gN 8) gsNil))) b5__law_own_sheet (enumD (T.map frsD)) [some B, some (.dat (.int m)), some (.dat (.int most)), some (.dat w), some (.dat (.int k)), some (.dat tb), some (.dat (.int a)), some (.lst []), none, none, none, none, none, none, none, none] =
      some (.nx [some B, some (.dat (.int m)), some (.dat (.int most)), some (.dat w), some (.dat (.int k)), some (.dat tb), some (.dat (.int a)), some (.lst ((chg k a T).map frsD)), none, none, none, none, none, none, none, none]) := by
  obtain ⟨Γ, e, hΓ⟩ := loopS_ok (tg := gT 2 (gsCons (gN 10) (gsCons (gN 8) gsNil))) (b := b5__law_own_sheet) (P := fun n Γ => Γ = [some B, some (.dat (.int m)), some (.dat (.int most)), some (.dat w), some (.dat (.int k)), some (.dat tb), some (.dat (.int a)), some (.lst (((T.zipIdx.take n).map fun p => p.1.zipIdx.map fun q => nt k a p.2 q.2 q.1).map frsD)), none, none, none, none, none, none, none, none])
    (items := enumD (T.map frsD)) (Γ := [some B, some (.dat (.int m)), some (.dat (.int most)), some (.dat w), some (.dat (.int k)), some (.dat tb), some (.dat (.int a)), some (.lst []), none, none, none, none, none, none, none, none]) 0 (by simp) fun j d Γ hd hΓ => by
    subst hΓ
    rw [enumD_map, List.getElem?_map] at hd
    obtain ⟨p, hp, rfl⟩ := Option.map_eq_some_iff.mp hd
    have hj : j < T.length := by
      have := (List.getElem?_eq_some_iff.mp hp).1
      simpa using this
    have hm : p.1 ∈ T := List.fst_mem_of_mem_zipIdx (List.mem_of_getElem? hp)
    refine ⟨_, .inl (chg_row hB (hT _ hm) (by simp; omega)), ?_⟩
    rw [Nat.zero_add, List.take_add_one, hp, Option.toList_some, List.map_append, List.map_append]
    rfl
  have hlen : (enumD (T.map frsD)).length = T.zipIdx.length := by simp [enumD]
  rw [Nat.zero_add, hlen, List.take_length] at hΓ
  rw [e, hΓ]
  rfl
end Lw

end

/-! K14l: a drawn sheet, whole -/
noncomputable section
namespace Lw
open PySem PySem.Spec PyProof.Rows L2 Fx
open Ms (Bd Fr low num lcmL Low S)

theorem flat_rep {α : Type} (n : Nat) (d : α) : (List.replicate n [d]).flatten = List.replicate n d := by
  induction n with
  | zero => rfl
  | succ n ih => simp [List.replicate_succ, ih]
theorem mul_tup (d : PyData) {k : Nat} (hk : k ≤ 1000) : gMulX (.tuple [d]) (.int k) = some (.val (.tuple (List.replicate k d))) := by
  have := gMulX_tup [d] (k := k) (by simp) hk
  rwa [flat_rep] at this
theorem tbl_at {m : Nat} {P : Fr → Prop} {T : List (List Fr)} (h : Tm m P T) {i j : Nat} (hi : i < m) (hj : j < m) : atI (T.map frsD) (i : Int) = some (.tuple ((T.getD i []).map frD)) ∧ atI ((T.getD i []).map frD) (j : Int) = some (frD (at2F T i j)) := by
  have hl : i < T.length := by rw [h.lt]; exact hi
  have hr : j < (T.getD i []).length := by rw [h.lr _ (h.row hi)]; exact hj
  constructor
  · refine atI_nat ?_
    rw [List.getElem?_map, List.getElem?_eq_getElem hl, List.getD_eq_getElem?_getD, List.getElem?_eq_getElem hl]; rfl
  · refine atI_nat ?_
    rw [List.getElem?_map, List.getElem?_eq_getElem hr, at2F, List.getD_eq_getElem?_getD (l := T.getD i []), List.getElem?_eq_getElem hr]; rfl
/-- rows in a round -/
def cyc (m : Nat) (T : List (List Fr)) (k : Nat) : Fr := if 1 < m then at2F T 0 (min k (m - k)) else at2F T 0 0
def rnd (m : Nat) (T : List (List Fr)) : List (List Fr) := (List.range m).map fun i => (List.range m).map fun j => cyc m T ((j + m - i) % m)
theorem getD_map_range {α : Type} {m i : Nat} (f : Nat → α) (d : α) (h : i < m) : ((List.range m).map f).getD i d = f i := by
  rw [List.getD_eq_getElem?_getD, List.getElem?_map, List.getElem?_range h]; rfl
theorem rnd_Tm {m most : Nat} {T : List (List Fr)} (hm : 1 ≤ m) (h : Tm m (It 0 most) T) : Tm m (It 0 most) (rnd m T) where
  lt := by simp [rnd]
  lr := fun r hr => by
    obtain ⟨i, _, rfl⟩ := List.mem_map.mp hr
    simp
  it := fun r hr q hq => by
    obtain ⟨i, _, rfl⟩ := List.mem_map.mp hr
    obtain ⟨j, _, rfl⟩ := List.mem_map.mp hq
    have key : ∀ k, k < m → It 0 most (at2F T 0 k) := fun k hk => by
      have hr := h.row (i := 0) (by omega)
      have hl : k < (T.getD 0 []).length := by rw [h.lr _ hr]; exact hk
      refine h.it _ hr _ ?_
      rw [at2F, List.getD_eq_getElem?_getD (l := T.getD 0 []), List.getElem?_eq_getElem hl]
      exact List.getElem_mem hl
    have := Nat.mod_lt (j + m - i) (show 0 < m by omega)
    unfold cyc
    split
    · exact key _ (by omega)
    · exact key 0 (by omega)
theorem rnd_Sy {m : Nat} {T : List (List Fr)} : Sy m (rnd m T) := ⟨fun i j hi hj => by
  unfold rnd
  rw [getD_map_range _ _ hi, getD_map_range _ _ hj, getD_map_range _ _ hj, getD_map_range _ _ hi]
  unfold cyc
  split
  · by_cases e : i = j
    · rw [e]
    · have h1 : (j + m - i) % m = if i ≤ j then j - i else j + m - i := by
        split
        · rw [show j + m - i = (j - i) + m by omega, Nat.add_mod_right, Nat.mod_eq_of_lt (by omega)]
        · exact Nat.mod_eq_of_lt (by omega)
      have h2 : (i + m - j) % m = if j ≤ i then i - j else i + m - j := by
        split
        · rw [show i + m - j = (i - j) + m by omega, Nat.add_mod_right, Nat.mod_eq_of_lt (by omega)]
        · exact Nat.mod_eq_of_lt (by omega)
      have h3 : min ((j + m - i) % m) (m - (j + m - i) % m) = min ((i + m - j) % m) (m - (i + m - j) % m) := by
        rw [h1, h2]
        split <;> split <;> omega
      rw [h3]
  · rfl⟩
theorem even_Wt {m : Nat} (h1 : 1 ≤ m) : Wt m (List.replicate m (1, m)) := by
  refine ⟨List.replicate m 1, List.length_replicate, fun n hn => by rw [List.eq_of_mem_replicate hn]; omega, ?_⟩
  have hs : (List.replicate m 1).sum = m := by simp
  rw [hs]
  have e : low ((1 : Nat) : Int) m = (1, m) := by
    unfold low
    simp
  rw [List.map_replicate, e]
structure Sx (m : Nat) (W : List Fr) (T : List (List Fr)) : Prop extends Vd m W T where
  sym : Sy m T
  low : ∀ r ∈ T, ∀ q ∈ r, Low q
theorem mkSx {m most : Nat} (h1 : 1 ≤ m) (h8 : m ≤ 8) {b : Nat} (hb : b * (m * m) ≤ 300) (hb2 : b ≤ 300) (hm : most ≤ 2 ^ b) {lo : Int} {W : List Fr} {T : List (List Fr)} (hW : Wt m W) (hT : Tm m (It lo most) T) (s : Sy m T) : Sx m W T :=
  { mkSheet h1 h8 hb hb2 hm hW hT with sym := s, low := fun r hr q hq => (hT.it r hr q hq).lw }
theorem row_loop {m most : Nat} (hm : 1 ≤ m) (h8 : m ≤ 1000) {T : List (List Fr)} (h : Tm m (It 0 most) T) (h1 : 1 < m) (a b c d e f g : Option MD) :
    loopL (gN 15) tYesF e1__law_own_sheet [15] ((List.range m).map fun (x : Nat) => PyData.int x) [] [a, some (.dat (.int m)), b, c, d, some (.dat (tblD T)), e, f, none, none, none, none, none, none, none, none] =
      some (((List.range m).map (cyc m T)).map frD, [a, some (.dat (.int m)), b, c, d, some (.dat (tblD T)), e, f, none, none, none, none, none, none, none, none]) := by
  have := loopL_map (acc := []) (g := fun (x : Nat) => PyData.int x) (f := fun k => frD (cyc m T k)) (l := List.range m) (tg := gN 15) (tt := tYesF) (fe := e1__law_own_sheet) (own := [15]) (Γ := [a, some (.dat (.int m)), b, c, d, some (.dat (tblD T)), e, f, none, none, none, none, none, none, none, none]) (by rw [sizeLine_eq]; simp; omega) fun k hk => by
    have hk := List.mem_range.mp hk
    have hj : min k (m - k) < m := by omega
    obtain ⟨x1, x2⟩ := tbl_at h (i := 0) (by omega) hj
    have mn : gMinL [.list [.int (k : Nat), .int ((m : Int) - k)]] = some (.val (.int (min k (m - k) : Nat))) := by
      have e : intsOf [PyData.int (k : Nat), .int ((m : Int) - k)] = some [(k : Int), (m : Int) - k] := rfl
      rw [gMinL, e]
      simp [minL]
      omega
    have ec : cyc m T k = at2F T 0 (min k (m - k)) := by rw [cyc, if_pos h1]
    rw [ec]
    rw [show ((0 : Nat) : Int) = 0 from rfl] at x1
    simp only [tblD]
    generalize frD (at2F T 0 (min k (m - k))) = q at *
    generalize ((min k (m - k) : Nat) : Int) = kk at *
    generalize T.map frsD = td at *
    generalize (T.getD 0 []).map frD = r0 at *
    simp [fnOf, fSeq, fNil, fSet, fRet, fDrop, fIf, fFgt, fgtO, fgt, fFor, fIfE, fT, fTru, truD, fAnd, fOr, fNot, fAndV, fOrV, fNotV, fOp2, fVar, fC, fB, fACons, fANil, fTup, fLst, fNeg, gRel, gInt2, gInt2C, gAdd, gMulX_int, gIx, gLen, gAbs, gInt, gEq, gIs, gIsNot, dv_dat, dv_lst, dv_al, dvs, own_dat, own_lst, own_bag, own_dcK, own_scr, flat_dat, flat_lst, Res.fin, frzs_nil, frzs_cons, frz_dat, intT_int, outs, als, argsOf, putArgs, fCall, eqv_int, shp_int, shp_none, shp_bool, noOwn, ownAt, sizeLine_eq, fIter, itemsOf, fRange1, fRange2, eqX_int, eqX_str, fEnumA, fFrz, fNever, permOk, perm, fCallK, fCallP, gMax2, gMin2, gMax3, gMin3, fPar2, fMulti, putM, fAsgG, fLc, lcStep, lsStep, tYesF, gN, gT, gsCons, gsNil, e1__law_own_sheet, x1, x2, mn]
  rw [this]
  simp
theorem rnd_loop {m : Nat} (hm : 1 ≤ m) (h8 : m ≤ 1000) {T : List (List Fr)} (a b c d e f g : Option MD) :
    loopL (gN 10) tYesF e3__law_own_sheet [10] ((List.range m).map fun (x : Nat) => PyData.int x) [] [a, some (.dat (.int m)), b, c, d, e, f, g, some (.dat (.list (((List.range m).map (cyc m T)).map frD))), none, none, none, none, none, none, none] =
      some ((rnd m T).map frsD, [a, some (.dat (.int m)), b, c, d, e, f, g, some (.dat (.list (((List.range m).map (cyc m T)).map frD))), none, none, none, none, none, none, none]) := by
  have := loopL_map (acc := []) (g := fun (x : Nat) => PyData.int x) (f := fun i => PyData.tuple ((List.range m).map fun j => frD (cyc m T ((j + m - i) % m)))) (l := List.range m) (tg := gN 10) (tt := tYesF) (fe := e3__law_own_sheet) (own := [10]) (Γ := [a, some (.dat (.int m)), b, c, d, e, f, g, some (.dat (.list (((List.range m).map (cyc m T)).map frD))), none, none, none, none, none, none, none]) (by rw [sizeLine_eq]; simp; omega) fun i hi => by
    have hi := List.mem_range.mp hi
    have e2 := loopL_map (acc := []) (g := fun (x : Nat) => PyData.int x) (f := fun j => frD (cyc m T ((j + m - i) % m))) (l := List.range m) (tg := gN 12) (tt := tYesF) (fe := e2__law_own_sheet) (own := [12]) (Γ := [a, some (.dat (.int m)), b, c, d, e, f, g, some (.dat (.list (((List.range m).map (cyc m T)).map frD))), none, some (.dat (.int i)), none, none, none, none, none]) (by rw [sizeLine_eq]; simp; omega) fun j hj => by
      have hj := List.mem_range.mp hj
      have hk := Nat.mod_lt (j + m - i) (show 0 < m by omega)
      have x : atI (((List.range m).map (cyc m T)).map frD) (((j + m - i) % m : Nat) : Int) = some (frD (cyc m T ((j + m - i) % m))) := by
        refine atI_nat ?_
        rw [List.getElem?_map, List.getElem?_map, List.getElem?_range hk]; rfl
      have em : ((j : Int) - i) % m = (((j + m - i) % m : Nat) : Int) := by
        rw [Int.natCast_emod, show ((j + m - i : Nat) : Int) = (j : Int) - i + m by omega, Int.add_emod_right]
      generalize frD (cyc m T ((j + m - i) % m)) = q at *
      rw [← em] at x
      generalize ((List.range m).map (cyc m T)).map frD = rr at *
      have m0 : 0 < m := by omega
      simp [fnOf, fSeq, fNil, fSet, fRet, fDrop, fIf, fFgt, fgtO, fgt, fFor, fIfE, fT, fTru, truD, fAnd, fOr, fNot, fAndV, fOrV, fNotV, fOp2, fVar, fC, fB, fACons, fANil, fTup, fLst, fNeg, gRel, gInt2, gInt2C, gAdd, gMulX_int, gIx, gLen, gAbs, gInt, gEq, gIs, gIsNot, dv_dat, dv_lst, dv_al, dvs, own_dat, own_lst, own_bag, own_dcK, own_scr, flat_dat, flat_lst, Res.fin, frzs_nil, frzs_cons, frz_dat, intT_int, outs, als, argsOf, putArgs, fCall, eqv_int, shp_int, shp_none, shp_bool, noOwn, ownAt, sizeLine_eq, fIter, itemsOf, fRange1, fRange2, eqX_int, eqX_str, fEnumA, fFrz, fNever, permOk, perm, fCallK, fCallP, gMax2, gMin2, gMax3, gMin3, fPar2, fMulti, putM, fAsgG, fLc, lcStep, lsStep, tYesF, gN, gT, gsCons, gsNil, e2__law_own_sheet, x, m0]
    have r1 := rg1_nat (p := m) (by omega)
    simp only [List.nil_append] at e2
    generalize (List.range m).map (fun j => frD (cyc m T ((j + m - i) % m))) = z at *
    generalize (List.range m).map (fun (x : Nat) => PyData.int x) = rg at *
    generalize ((List.range m).map (cyc m T)).map frD = rr at *
    simp [fnOf, fSeq, fNil, fSet, fRet, fDrop, fIf, fFgt, fgtO, fgt, fFor, fIfE, fT, fTru, truD, fAnd, fOr, fNot, fAndV, fOrV, fNotV, fOp2, fVar, fC, fB, fACons, fANil, fTup, fLst, fNeg, gRel, gInt2, gInt2C, gAdd, gMulX_int, gIx, gLen, gAbs, gInt, gEq, gIs, gIsNot, dv_dat, dv_lst, dv_al, dvs, own_dat, own_lst, own_bag, own_dcK, own_scr, flat_dat, flat_lst, Res.fin, frzs_nil, frzs_cons, frz_dat, intT_int, outs, als, argsOf, putArgs, fCall, eqv_int, shp_int, shp_none, shp_bool, noOwn, ownAt, sizeLine_eq, fIter, itemsOf, fRange1, fRange2, eqX_int, eqX_str, fEnumA, fFrz, fNever, permOk, perm, fCallK, fCallP, gMax2, gMin2, gMax3, gMin3, fPar2, fMulti, putM, fAsgG, fLc, lcStep, lsStep, tYesF, gN, gT, gsCons, gsNil, e3__law_own_sheet, r1, e2, gToT]
  rw [this]
  simp [rnd, frsD, Function.comp_def]
end Lw

end

/-! K14m: a drawn sheet is one -/
noncomputable section
namespace Lw
open PySem PySem.Spec PyProof.Rows L2 Fx
open Ms (Bd Fr low num lcmL Low S)

theorem pickN {B : MD} (hB : BagOk B) {ns : List Nat} (h0 : ns ≠ []) (hl : ns.length < 100) : ∃ (n : Nat) (B' : MD), F__law_pick [B, .dat (.list (ns.map fun (n : Nat) => .int n))] = some (.dat (.int n), [some B', none]) ∧ BagOk B' ∧ n ∈ ns := by
  obtain ⟨d, B', e, hB', hd⟩ := pick hB (ds := ns.map fun (n : Nat) => PyData.int n) (by simpa using h0) (by simpa using hl)
  obtain ⟨n, hn, rfl⟩ := List.mem_map.mp hd
  exact ⟨n, B', e, hB', hn⟩
theorem sheet_ok {m : Nat} (h1 : 1 ≤ m) (h8 : m ≤ 8) {B : MD} (hB : BagOk B) : ∃ (W : List Fr) (T : List (List Fr)) (B' : MD), F__law_own_sheet [B, .dat (.int (m : Nat))] = some (.dat (shtD W T), [some B', none]) ∧ BagOk B' ∧ Sx m W T := by
  -- the bound of parts
  obtain ⟨most, b, B1, m1, mk, mb, mb2, mb3, hB1, w0⟩ : ∃ (most b : Nat) (B1 : MD), 1 ≤ most ∧ most ≤ 1000 ∧ b * (m * m) ≤ 300 ∧ b ≤ 300 ∧ most ≤ 2 ^ b ∧ BagOk B1 ∧ Ws0 [some B, some (.dat (.int m)), none, none, none, none, none, none, none, none, none, none, none, none, none, none] =
      some (.nx [some B1, some (.dat (.int m)), some (.dat (.int most)), none, none, none, none, none, none, none, none, none, none, none, none, none]) := by
    by_cases q : m > 4
    · obtain ⟨n, B1, e, hB1, hn⟩ := pickN hB (ns := [2, 3, 4]) (by simp) (by simp)
      have q' : (4 : Int) < m := by omega
      simp only [List.mem_cons, List.not_mem_nil, or_false] at hn
      have mm : m * m ≤ 64 := Nat.mul_le_mul h8 h8
      have e' : F__law_pick [B, .dat (.list [.int 2, .int 3, .int 4])] = some (.dat (.int n), [some B1, none]) := e
      exact ⟨n, 2, B1, by omega, by omega, by omega, by omega, by rcases hn with rfl | rfl | rfl <;> decide, hB1, by simp [fnOf, fSeq, fNil, fSet, fRet, fDrop, fIf, fFgt, fgtO, fgt, fFor, fIfE, fT, fTru, truD, fAnd, fOr, fNot, fAndV, fOrV, fNotV, fOp2, fVar, fC, fB, fACons, fANil, fTup, fLst, fNeg, gRel, gInt2, gInt2C, gAdd, gMulX_int, gIx, gLen, gAbs, gInt, gEq, gIs, gIsNot, dv_dat, dv_lst, dv_al, dvs, own_dat, own_lst, own_bag, own_dcK, own_scr, flat_dat, flat_lst, Res.fin, frzs_nil, frzs_cons, frz_dat, intT_int, outs, als, argsOf, putArgs, fCall, eqv_int, shp_int, shp_none, shp_bool, noOwn, ownAt, sizeLine_eq, fIter, itemsOf, fRange1, fRange2, eqX_int, eqX_str, fEnumA, fFrz, fNever, permOk, perm, fCallK, fCallP, gMax2, gMin2, gMax3, gMin3, fPar2, fMulti, putM, fAsgG, fLc, Ws0, hB.own, hB1.own, q, q', e']⟩
    · have q' : ¬ (4 : Int) < m := by omega
      by_cases q3 : m < 4
      · obtain ⟨n, B1, e, hB1, hn⟩ := pickN hB (ns := [3, 12, 12, 1000]) (by simp) (by simp)
        have q3' : (m : Int) < 4 := by omega
        simp only [List.mem_cons, List.not_mem_nil, or_false] at hn
        have mm : m * m ≤ 9 := Nat.mul_le_mul (show m ≤ 3 by omega) (show m ≤ 3 by omega)
        have e' : F__law_pick [B, .dat (.list [.int 3, .int 12, .int 12, .int 1000])] = some (.dat (.int n), [some B1, none]) := e
        exact ⟨n, 10, B1, by omega, by omega, by omega, by omega, by rcases hn with rfl | rfl | rfl | rfl <;> decide, hB1, by simp [fnOf, fSeq, fNil, fSet, fRet, fDrop, fIf, fFgt, fgtO, fgt, fFor, fIfE, fT, fTru, truD, fAnd, fOr, fNot, fAndV, fOrV, fNotV, fOp2, fVar, fC, fB, fACons, fANil, fTup, fLst, fNeg, gRel, gInt2, gInt2C, gAdd, gMulX_int, gIx, gLen, gAbs, gInt, gEq, gIs, gIsNot, dv_dat, dv_lst, dv_al, dvs, own_dat, own_lst, own_bag, own_dcK, own_scr, flat_dat, flat_lst, Res.fin, frzs_nil, frzs_cons, frz_dat, intT_int, outs, als, argsOf, putArgs, fCall, eqv_int, shp_int, shp_none, shp_bool, noOwn, ownAt, sizeLine_eq, fIter, itemsOf, fRange1, fRange2, eqX_int, eqX_str, fEnumA, fFrz, fNever, permOk, perm, fCallK, fCallP, gMax2, gMin2, gMax3, gMin3, fPar2, fMulti, putM, fAsgG, fLc, Ws0, hB.own, hB1.own, q, q', q3, q3', e']⟩
      · obtain ⟨n, B1, e, hB1, hn⟩ := pickN hB (ns := [3, 12, 12, 12]) (by simp) (by simp)
        have q3' : ¬ (m : Int) < 4 := by omega
        simp only [List.mem_cons, List.not_mem_nil, or_false] at hn
        have mm : m * m ≤ 16 := Nat.mul_le_mul (show m ≤ 4 by omega) (show m ≤ 4 by omega)
        have e' : F__law_pick [B, .dat (.list [.int 3, .int 12, .int 12, .int 12])] = some (.dat (.int n), [some B1, none]) := e
        exact ⟨n, 4, B1, by omega, by omega, by omega, by omega, by rcases hn with rfl | rfl | rfl | rfl <;> decide, hB1, by simp [fnOf, fSeq, fNil, fSet, fRet, fDrop, fIf, fFgt, fgtO, fgt, fFor, fIfE, fT, fTru, truD, fAnd, fOr, fNot, fAndV, fOrV, fNotV, fOp2, fVar, fC, fB, fACons, fANil, fTup, fLst, fNeg, gRel, gInt2, gInt2C, gAdd, gMulX_int, gIx, gLen, gAbs, gInt, gEq, gIs, gIsNot, dv_dat, dv_lst, dv_al, dvs, own_dat, own_lst, own_bag, own_dcK, own_scr, flat_dat, flat_lst, Res.fin, frzs_nil, frzs_cons, frz_dat, intT_int, outs, als, argsOf, putArgs, fCall, eqv_int, shp_int, shp_none, shp_bool, noOwn, ownAt, sizeLine_eq, fIter, itemsOf, fRange1, fRange2, eqX_int, eqX_str, fEnumA, fFrz, fNever, permOk, perm, fCallK, fCallP, gMax2, gMin2, gMax3, gMin3, fPar2, fMulti, putM, fAsgG, fLc, Ws0, hB.own, hB1.own, q, q', q3, q3', e']⟩
  -- weights, kind
  obtain ⟨W, k, B2, hW, hk, hB2, w1⟩ : ∃ (W : List Fr) (k : Nat) (B2 : MD), Wt m W ∧ k < 9 ∧ BagOk B2 ∧ Ws1 [some B1, some (.dat (.int m)), some (.dat (.int most)), none, none, none, none, none, none, none, none, none, none, none, none, none] =
      some (.nx [some B2, some (.dat (.int m)), some (.dat (.int most)), some (.dat (frsD W)), some (.dat (.int k)), none, none, none, none, none, none, none, none, none, none, none]) := by
    obtain ⟨n, C1, e1, hC1, n1, n12⟩ : ∃ (n : Nat) (C1 : MD), F__law_pick [B1, .dat (.list [.int 1, .int 4, .int (if m < 5 then 12 else 3)])] = some (.dat (.int n), [some C1, none]) ∧ BagOk C1 ∧ 1 ≤ n ∧ n ≤ 12 := by
      by_cases q : m < 5
      · obtain ⟨n, C1, e, hC1, hn⟩ := pickN hB1 (ns := [1, 4, 12]) (by simp) (by simp)
        simp only [List.mem_cons, List.not_mem_nil, or_false] at hn
        exact ⟨n, C1, by rw [if_pos q]; exact e, hC1, by omega, by omega⟩
      · obtain ⟨n, C1, e, hC1, hn⟩ := pickN hB1 (ns := [1, 4, 3]) (by simp) (by simp)
        simp only [List.mem_cons, List.not_mem_nil, or_false] at hn
        exact ⟨n, C1, by rw [if_neg q]; exact e, hC1, by omega, by omega⟩
    obtain ⟨W, C2, e2, hC2, hW⟩ := weights_ok h1 h8 n1 n12 hC1
    obtain ⟨k, C3, e3, hC3, hk⟩ := drawN hC2 (n := 9) (by decide) (by decide)
    rw [show ((9 : Nat) : Int) = 9 from rfl] at e3
    refine ⟨W, k, C3, hW, hk, hC3, ?_⟩
    generalize frsD W = w at *
    by_cases q : m < 5
    · have q' : (m : Int) < 5 := by omega
      rw [if_pos q] at e1
      simp [fnOf, fSeq, fNil, fSet, fRet, fDrop, fIf, fFgt, fgtO, fgt, fFor, fIfE, fT, fTru, truD, fAnd, fOr, fNot, fAndV, fOrV, fNotV, fOp2, fVar, fC, fB, fACons, fANil, fTup, fLst, fNeg, gRel, gInt2, gInt2C, gAdd, gMulX_int, gIx, gLen, gAbs, gInt, gEq, gIs, gIsNot, dv_dat, dv_lst, dv_al, dvs, own_dat, own_lst, own_bag, own_dcK, own_scr, flat_dat, flat_lst, Res.fin, frzs_nil, frzs_cons, frz_dat, intT_int, outs, als, argsOf, putArgs, fCall, eqv_int, shp_int, shp_none, shp_bool, noOwn, ownAt, sizeLine_eq, fIter, itemsOf, fRange1, fRange2, eqX_int, eqX_str, fEnumA, fFrz, fNever, permOk, perm, fCallK, fCallP, gMax2, gMin2, gMax3, gMin3, fPar2, fMulti, putM, fAsgG, fLc, Ws1, hB1.own, hC1.own, hC2.own, hC3.own, q, q', e1, e2, e3]
    · have q' : ¬ (m : Int) < 5 := by omega
      rw [if_neg q] at e1
      simp [fnOf, fSeq, fNil, fSet, fRet, fDrop, fIf, fFgt, fgtO, fgt, fFor, fIfE, fT, fTru, truD, fAnd, fOr, fNot, fAndV, fOrV, fNotV, fOp2, fVar, fC, fB, fACons, fANil, fTup, fLst, fNeg, gRel, gInt2, gInt2C, gAdd, gMulX_int, gIx, gLen, gAbs, gInt, gEq, gIs, gIsNot, dv_dat, dv_lst, dv_al, dvs, own_dat, own_lst, own_bag, own_dcK, own_scr, flat_dat, flat_lst, Res.fin, frzs_nil, frzs_cons, frz_dat, intT_int, outs, als, argsOf, putArgs, fCall, eqv_int, shp_int, shp_none, shp_bool, noOwn, ownAt, sizeLine_eq, fIter, itemsOf, fRange1, fRange2, eqX_int, eqX_str, fEnumA, fFrz, fNever, permOk, perm, fCallK, fCallP, gMax2, gMin2, gMax3, gMin3, fPar2, fMulti, putM, fAsgG, fLc, Ws1, hB1.own, hC1.own, hC2.own, hC3.own, q, q', e1, e2, e3]
  -- table, place
  obtain ⟨T, B3, e3, hB3, hT, hs⟩ := table_ok (m := m) (most := most) (.inl rfl) m1 mk (by omega) hB2
  obtain ⟨a, B4, e4, hB4, ha⟩ := drawN hB3 (n := m) (by omega) (by omega)
  have w2 : Ws2 [some B2, some (.dat (.int m)), some (.dat (.int most)), some (.dat (frsD W)), some (.dat (.int k)), none, none, none, none, none, none, none, none, none, none, none] =
      some (.nx [some B4, some (.dat (.int m)), some (.dat (.int most)), some (.dat (frsD W)), some (.dat (.int k)), some (.dat (tblD T)), some (.dat (.int a)), some (.lst []), none, none, none, none, none, none, none, none]) := by
    generalize frsD W = w at *
    generalize tblD T = tb at *
    simp [fnOf, fSeq, fNil, fSet, fRet, fDrop, fIf, fFgt, fgtO, fgt, fFor, fIfE, fT, fTru, truD, fAnd, fOr, fNot, fAndV, fOrV, fNotV, fOp2, fVar, fC, fB, fACons, fANil, fTup, fLst, fNeg, gRel, gInt2, gInt2C, gAdd, gMulX_int, gIx, gLen, gAbs, gInt, gEq, gIs, gIsNot, dv_dat, dv_lst, dv_al, dvs, own_dat, own_lst, own_bag, own_dcK, own_scr, flat_dat, flat_lst, Res.fin, frzs_nil, frzs_cons, frz_dat, intT_int, outs, als, argsOf, putArgs, fCall, eqv_int, shp_int, shp_none, shp_bool, noOwn, ownAt, sizeLine_eq, fIter, itemsOf, fRange1, fRange2, eqX_int, eqX_str, fEnumA, fFrz, fNever, permOk, perm, fCallK, fCallP, gMax2, gMin2, gMax3, gMin3, fPar2, fMulti, putM, fAsgG, fLc, Ws2, hB2.own, hB3.own, hB4.own, e3, e4]
  have fin : ∀ (W' : List Fr) (T' : List (List Fr)) (Γ : Gm), Sx m W' T' → fSeq Ws3 (fSeq Ws4 (fSeq Ws5 Ws6)) [some B4, some (.dat (.int m)), some (.dat (.int most)), some (.dat (frsD W)), some (.dat (.int k)), some (.dat (tblD T)), some (.dat (.int a)), some (.lst []), none, none, none, none, none, none, none, none] = some (.rt (.dat (shtD W' T')) Γ) → outs 2 Γ = [some B4, none] →
      ∃ (W : List Fr) (T : List (List Fr)) (B' : MD), F__law_own_sheet [B, .dat (.int (m : Nat))] = some (.dat (shtD W T), [some B', none]) ∧ BagOk B' ∧ Sx m W T := fun W' T' Γ hs e ho => by
    refine ⟨W', T', B4, ?_, hB4, hs⟩
    rw [Ws_is]
    show (Option.bind (fSeq Ws0 _ [some B, some (.dat (.int m)), none, none, none, none, none, none, none, none, none, none, none, none, none, none]) _) = _
    rw [seq_nx w0, seq_nx w1, seq_nx w2, e]
    show some (_, outs 2 Γ) = _
    rw [ho]
  have mt := fun (d : PyData) => mul_tup d (k := m) (by omega)
  by_cases k0 : k = 0
  · subst k0
    obtain ⟨x1, x2⟩ := tbl_at hT (i := 0) (j := 0) (by omega) (by omega)
    rw [show ((0 : Nat) : Int) = 0 from rfl] at x1 x2
    have hq : It 0 most (at2F T 0 0) := by
      have hr := hT.row (i := 0) (by omega)
      have hl : 0 < (T.getD 0 []).length := by rw [hT.lr _ hr]; omega
      refine hT.it _ hr _ ?_
      rw [at2F, List.getD_eq_getElem?_getD (l := T.getD 0 []), List.getElem?_eq_getElem hl]
      exact List.getElem_mem hl
    have e : shtD W (List.replicate m (List.replicate m (at2F T 0 0))) = .tuple [frsD W, .tuple (List.replicate m (.tuple (List.replicate m (frD (at2F T 0 0)))))] := by simp [shtD, tblD, frsD]
    refine fin W (List.replicate m (List.replicate m (at2F T 0 0))) [some B4, some (.dat (.int m)), some (.dat (.int most)), some (.dat (frsD W)), some (.dat (.int (0 : Nat))), some (.dat (tblD T)), some (.dat (.int a)), some (.lst []), none, none, none, none, none, none, none, none] (mkSx h1 h8 mb mb2 mb3 hW (rep_Tm hq) rep_Sy) ?_ ?_
    · refine seq_rt ?_
      rw [e]
      have y1 := mt (frD (at2F T 0 0))
      have y2 := mt (.tuple (List.replicate m (frD (at2F T 0 0))))
      generalize List.replicate m (PyData.tuple (List.replicate m (frD (at2F T 0 0)))) = z2 at *
      generalize List.replicate m (frD (at2F T 0 0)) = z1 at *
      generalize frD (at2F T 0 0) = qq at *
      generalize frsD W = w at *
      simp only [tblD] at *
      generalize T.map frsD = td at *
      generalize (T.getD 0 []).map frD = r0 at *
      simp [fnOf, fSeq, fNil, fSet, fRet, fDrop, fIf, fFgt, fgtO, fgt, fFor, fIfE, fT, fTru, truD, fAnd, fOr, fNot, fAndV, fOrV, fNotV, fOp2, fVar, fC, fB, fACons, fANil, fTup, fLst, fNeg, gRel, gInt2, gInt2C, gAdd, gMulX_int, gIx, gLen, gAbs, gInt, gEq, gIs, gIsNot, dv_dat, dv_lst, dv_al, dvs, own_dat, own_lst, own_bag, own_dcK, own_scr, flat_dat, flat_lst, Res.fin, frzs_nil, frzs_cons, frz_dat, intT_int, outs, als, argsOf, putArgs, fCall, eqv_int, shp_int, shp_none, shp_bool, noOwn, ownAt, sizeLine_eq, fIter, itemsOf, fRange1, fRange2, eqX_int, eqX_str, fEnumA, fFrz, fNever, permOk, perm, fCallK, fCallP, gMax2, gMin2, gMax3, gMin3, fPar2, fMulti, putM, fAsgG, fLc, Ws3, x1, x2, y1, y2]
    · simp [outs, hB4.own, own_dat]
  · have k0' : ¬ (k : Int) = 0 := by omega
    have w3 : Ws3 [some B4, some (.dat (.int m)), some (.dat (.int most)), some (.dat (frsD W)), some (.dat (.int k)), some (.dat (tblD T)), some (.dat (.int a)), some (.lst []), none, none, none, none, none, none, none, none] =
        some (.nx [some B4, some (.dat (.int m)), some (.dat (.int most)), some (.dat (frsD W)), some (.dat (.int k)), some (.dat (tblD T)), some (.dat (.int a)), some (.lst []), none, none, none, none, none, none, none, none]) := by simp [fnOf, fSeq, fNil, fSet, fRet, fDrop, fIf, fFgt, fgtO, fgt, fFor, fIfE, fT, fTru, truD, fAnd, fOr, fNot, fAndV, fOrV, fNotV, fOp2, fVar, fC, fB, fACons, fANil, fTup, fLst, fNeg, gRel, gInt2, gInt2C, gAdd, gMulX_int, gIx, gLen, gAbs, gInt, gEq, gIs, gIsNot, dv_dat, dv_lst, dv_al, dvs, own_dat, own_lst, own_bag, own_dcK, own_scr, flat_dat, flat_lst, Res.fin, frzs_nil, frzs_cons, frz_dat, intT_int, outs, als, argsOf, putArgs, fCall, eqv_int, shp_int, shp_none, shp_bool, noOwn, ownAt, sizeLine_eq, fIter, itemsOf, fRange1, fRange2, eqX_int, eqX_str, fEnumA, fFrz, fNever, permOk, perm, fCallK, fCallP, gMax2, gMin2, gMax3, gMin3, fPar2, fMulti, putM, fAsgG, fLc, Ws3, k0, k0']
    by_cases k1 : k = 1
    · subst k1
      have e : shtD (List.replicate m (1, m)) (rnd m T) = .tuple [.tuple (List.replicate m (.tuple [.int 1, .int m])), .tuple ((rnd m T).map frsD)] := by simp [shtD, tblD, frsD, frD]
      refine fin (List.replicate m (1, m)) (rnd m T) [some B4, some (.dat (.int m)), some (.dat (.int most)), some (.dat (frsD W)), some (.dat (.int (1 : Nat))), some (.dat (tblD T)), some (.dat (.int a)), some (.lst []), some (.dat (.list (((List.range m).map (cyc m T)).map frD))), some (.dat (.list ((rnd m T).map frsD))), none, none, none, none, none, none] (mkSx h1 h8 mb mb2 mb3 (even_Wt h1) (rnd_Tm h1 hT) rnd_Sy) ?_ ?_
      · rw [seq_nx w3]
        refine seq_rt ?_
        rw [e]
        have y1 := mt (.tuple [.int 1, .int (m : Nat)])
        have r1 := rg1_nat (p := m) (by omega)
        have e2 := fun (a b c d e f g : Option MD) => rnd_loop h1 (by omega) (T := T) a b c d e f g
        generalize List.replicate m (PyData.tuple [.int 1, .int (m : Nat)]) = z1 at *
        generalize frsD W = w at *
        by_cases q : 1 < m
        · have q' : (1 : Int) < m := by omega
          have e1 := fun (a b c d e f : Option MD) => row_loop h1 (by omega) hT q a b c d e f none
          generalize ((List.range m).map (cyc m T)).map frD = rr at *
          generalize (rnd m T).map frsD = rd at *
          generalize (List.range m).map (fun (x : Nat) => PyData.int x) = rg at *
          generalize tblD T = tb at *
          simp [fnOf, fSeq, fNil, fSet, fRet, fDrop, fIf, fFgt, fgtO, fgt, fFor, fIfE, fT, fTru, truD, fAnd, fOr, fNot, fAndV, fOrV, fNotV, fOp2, fVar, fC, fB, fACons, fANil, fTup, fLst, fNeg, gRel, gInt2, gInt2C, gAdd, gMulX_int, gIx, gLen, gAbs, gInt, gEq, gIs, gIsNot, dv_dat, dv_lst, dv_al, dvs, own_dat, own_lst, own_bag, own_dcK, own_scr, flat_dat, flat_lst, Res.fin, frzs_nil, frzs_cons, frz_dat, intT_int, outs, als, argsOf, putArgs, fCall, eqv_int, shp_int, shp_none, shp_bool, noOwn, ownAt, sizeLine_eq, fIter, itemsOf, fRange1, fRange2, eqX_int, eqX_str, fEnumA, fFrz, fNever, permOk, perm, fCallK, fCallP, gMax2, gMin2, gMax3, gMin3, fPar2, fMulti, putM, fAsgG, fLc, Ws4, q, q', r1, e1, e2, y1, gToT]
        · have q' : ¬ (1 : Int) < m := by omega
          obtain ⟨x1, x2⟩ := tbl_at hT (i := 0) (j := 0) (by omega) (by omega)
          rw [show ((0 : Nat) : Int) = 0 from rfl] at x1 x2
          have hm1 : m = 1 := by omega
          have ec : ((List.range m).map (cyc m T)).map frD = [frD (at2F T 0 0)] := by
            subst hm1
            simp [cyc, List.range_succ]
          rw [ec] at e2 ⊢
          generalize (rnd m T).map frsD = rd at *
          generalize (List.range m).map (fun (x : Nat) => PyData.int x) = rg at *
          simp only [tblD] at *
          generalize frD (at2F T 0 0) = qq at *
          generalize T.map frsD = td at *
          generalize (T.getD 0 []).map frD = r0 at *
          simp [fnOf, fSeq, fNil, fSet, fRet, fDrop, fIf, fFgt, fgtO, fgt, fFor, fIfE, fT, fTru, truD, fAnd, fOr, fNot, fAndV, fOrV, fNotV, fOp2, fVar, fC, fB, fACons, fANil, fTup, fLst, fNeg, gRel, gInt2, gInt2C, gAdd, gMulX_int, gIx, gLen, gAbs, gInt, gEq, gIs, gIsNot, dv_dat, dv_lst, dv_al, dvs, own_dat, own_lst, own_bag, own_dcK, own_scr, flat_dat, flat_lst, Res.fin, frzs_nil, frzs_cons, frz_dat, intT_int, outs, als, argsOf, putArgs, fCall, eqv_int, shp_int, shp_none, shp_bool, noOwn, ownAt, sizeLine_eq, fIter, itemsOf, fRange1, fRange2, eqX_int, eqX_str, fEnumA, fFrz, fNever, permOk, perm, fCallK, fCallP, gMax2, gMin2, gMax3, gMin3, fPar2, fMulti, putM, fAsgG, fLc, Ws4, q, q', r1, e2, x1, x2, y1, gToT]
      · simp [outs, hB4.own, own_dat]
    · have k1' : ¬ (k : Int) = 1 := by omega
      have w4 : Ws4 [some B4, some (.dat (.int m)), some (.dat (.int most)), some (.dat (frsD W)), some (.dat (.int k)), some (.dat (tblD T)), some (.dat (.int a)), some (.lst []), none, none, none, none, none, none, none, none] =
          some (.nx [some B4, some (.dat (.int m)), some (.dat (.int most)), some (.dat (frsD W)), some (.dat (.int k)), some (.dat (tblD T)), some (.dat (.int a)), some (.lst []), none, none, none, none, none, none, none, none]) := by simp [fnOf, fSeq, fNil, fSet, fRet, fDrop, fIf, fFgt, fgtO, fgt, fFor, fIfE, fT, fTru, truD, fAnd, fOr, fNot, fAndV, fOrV, fNotV, fOp2, fVar, fC, fB, fACons, fANil, fTup, fLst, fNeg, gRel, gInt2, gInt2C, gAdd, gMulX_int, gIx, gLen, gAbs, gInt, gEq, gIs, gIsNot, dv_dat, dv_lst, dv_al, dvs, own_dat, own_lst, own_bag, own_dcK, own_scr, flat_dat, flat_lst, Res.fin, frzs_nil, frzs_cons, frz_dat, intT_int, outs, als, argsOf, putArgs, fCall, eqv_int, shp_int, shp_none, shp_bool, noOwn, ownAt, sizeLine_eq, fIter, itemsOf, fRange1, fRange2, eqX_int, eqX_str, fEnumA, fFrz, fNever, permOk, perm, fCallK, fCallP, gMax2, gMin2, gMax3, gMin3, fPar2, fMulti, putM, fAsgG, fLc, Ws4, k1, k1']
      have e5 := chg_all (m := m) (most := most) (k := k) (a := a) (w := frsD W) hB4 (T := T) (fun r hr => by rw [hT.lr r hr]; omega) (by rw [hT.lt]; omega) (tblD T)
      refine fin W (chg k a T) [some B4, some (.dat (.int m)), some (.dat (.int most)), some (.dat (frsD W)), some (.dat (.int k)), some (.dat (tblD T)), some (.dat (.int a)), some (.dat (.list ((chg k a T).map frsD))), none, none, none, none, none, none, none, none] (mkSx h1 h8 mb mb2 mb3 hW (chg_Tm m1 hT k a) (chg_Sy hT hs k a)) ?_ ?_
      · rw [seq_nx w3, seq_nx w4]
        simp only [shtD, tblD] at *
        generalize (chg k a T).map frsD = cd at *
        generalize T.map frsD = td at *
        generalize frsD W = w at *
        simp [fnOf, fSeq, fNil, fSet, fRet, fDrop, fIf, fFgt, fgtO, fgt, fFor, fIfE, fT, fTru, truD, fAnd, fOr, fNot, fAndV, fOrV, fNotV, fOp2, fVar, fC, fB, fACons, fANil, fTup, fLst, fNeg, gRel, gInt2, gInt2C, gAdd, gMulX_int, gIx, gLen, gAbs, gInt, gEq, gIs, gIsNot, dv_dat, dv_lst, dv_al, dvs, own_dat, own_lst, own_bag, own_dcK, own_scr, flat_dat, flat_lst, Res.fin, frzs_nil, frzs_cons, frz_dat, intT_int, outs, als, argsOf, putArgs, fCall, eqv_int, shp_int, shp_none, shp_bool, noOwn, ownAt, sizeLine_eq, fIter, itemsOf, fRange1, fRange2, eqX_int, eqX_str, fEnumA, fFrz, fNever, permOk, perm, fCallK, fCallP, gMax2, gMin2, gMax3, gMin3, fPar2, fMulti, putM, fAsgG, fLc, Ws5, Ws6, e5, gToT]
      · simp [outs, hB4.own, own_dat]
end Lw

end

/-! K14n: constant sheets -/
noncomputable section
namespace Lw
open PySem PySem.Spec PyProof.Rows L2 Fx
open Ms (Bd Fr low num lcmL Low S)

def cT (m : Nat) (p : Fr) : List (List Fr) := List.replicate m (List.replicate m p)
theorem cT_un {m : Nat} (h1 : 1 ≤ m) (p : Fr) : unT (cT m p) = p.2 := by
  have e : lcmL (den (cT m p).flatten) = lcmL [p.2] := Ms.lcmL_same (fun d hd => by
    obtain ⟨q, hq, rfl⟩ := List.mem_map.mp hd
    obtain ⟨r, hr, hq⟩ := List.mem_flatten.mp hq
    rw [List.eq_of_mem_replicate hr] at hq
    rw [List.eq_of_mem_replicate hq]; simp) fun d hd => by
    rw [List.mem_singleton] at hd
    subst hd
    refine List.mem_map.mpr ⟨p, List.mem_flatten.mpr ⟨List.replicate m p, ?_, ?_⟩, rfl⟩
    · exact List.mem_replicate.mpr ⟨by omega, rfl⟩
    · exact List.mem_replicate.mpr ⟨by omega, rfl⟩
  rw [unT, e, Ms.lcmL_cons]
  simp [lcmL]
theorem cT_tN {m : Nat} (h1 : 1 ≤ m) {p : Fr} (hp : 0 < p.2) : tN (cT m p) = List.replicate m (List.replicate m p.1) := by
  have e : num p.2 p = p.1 := by
    unfold num
    rw [Nat.div_self hp]; simp
  rw [tN, cT_un h1, cT, List.map_replicate, List.map_replicate, e]
theorem sum_rep (n : Nat) (x : Int) : (List.replicate n x).sum = n * x := by
  induction n with
  | zero => simp
  | succ n ih => rw [List.replicate_succ, List.sum_cons, ih]; push_cast; grind
theorem dot_rep {w : List Int} {m : Nat} (h : w.length = m) (x : Int) : dot w (List.replicate m x) = w.sum * x := dot_const (by rw [h, List.length_replicate]) fun b hb => List.eq_of_mem_replicate hb
theorem rep_dot {w : List Int} {m : Nat} (h : w.length = m) (x : Int) : dot (List.replicate m x) w = x * w.sum := by
  rw [dot_comm, dot_rep h, Int.mul_comm]
section
variable {m : Nat} {W : List Fr} {p : Fr}
theorem c_dgs (h : Vd m W (cT m p)) (hp : 0 < p.2) : dgs W (cT m p) = List.replicate m (byW W * p.1) := by
  rw [dgs, cT_tN h.m1 hp, List.map_replicate, dot_rep h.wlen, h.ws]
theorem c_mn (h : Vd m W (cT m p)) (hp : 0 < p.2) : mnN W (cT m p) = byW W * (byW W * p.1) := by
  rw [mnN, c_dgs h hp, dot_rep h.wlen, h.ws]
theorem c_sq (h : Vd m W (cT m p)) (hp : 0 < p.2) : sqN W (cT m p) = 0 := by
  refine sq_same (by rw [h.wlen, h.dlen]) h.ws fun x hx y hy => ?_
  rw [c_dgs h hp] at hx hy
  rw [List.eq_of_mem_replicate hx, List.eq_of_mem_replicate hy]
theorem c_mds (h : Vd m W (cT m p)) (hp : 0 < p.2) : ∀ k, Lw.mds W (cT m p) k = List.replicate m ((byW W * p.1) ^ k)
  | 0 => by simp [Lw.mds, mdN, h.lw]
  | k + 1 => by
    rw [mds_succ, c_mds h hp k, nxM, cT_tN h.m1 hp, List.map_replicate, rep_dot (by rw [List.length_zipWith, h.wlen, List.length_replicate]; omega)]
    have e : (List.zipWith (· * ·) (wN W) (List.replicate m (((byW W : Int) * p.1) ^ k))).sum = byW W * (byW W * p.1) ^ k := by
      have := dot_rep h.wlen (((byW W : Int) * p.1) ^ k)
      rw [h.ws] at this
      exact this
    rw [e, Int.pow_succ]
    congr 1
    grind
theorem c_pt (h : Vd m W (cT m p)) (hp : Low p) (k : Nat) : ptF W (cT m p) k = (p.1 ^ k, p.2 ^ k) := by
  have bp := h.by_pos
  have e1 : ptN W (cT m p) k = byW W * (byW W * p.1) ^ k := by rw [ptN, c_mds h hp.pos, dot_rep h.wlen, h.ws]
  have lk : Low (p.1 ^ k, p.2 ^ k) := ⟨Nat.pow_pos hp.pos, by
    show Nat.gcd (p.1 ^ k).natAbs (p.2 ^ k) = 1
    rw [Int.natAbs_pow]
    exact Nat.Coprime.pow k k hp.cop⟩
  rw [ptF, e1, ptU, cT_un h.m1, ← Ms.low_of lk]
  refine Ms.low_eq (Nat.mul_pos (Nat.pow_pos (Nat.mul_pos bp hp.pos)) bp) (Nat.pow_pos hp.pos) ?_
  push_cast
  rw [Int.mul_pow, Int.mul_pow]; grind
theorem c_due (h : Vd m W (cT m p)) (hp : Low p) : dueD W (cT m p) = .list [frD p, .tuple (List.replicate m (frD p)), frD (0, 1)] := by
  have bp := h.by_pos
  have u1 := Nat.mul_pos bp (Nat.mul_pos bp hp.pos)
  have hU : 0 < byW W * byW W * byW W * (byW W * p.2) * (byW W * p.2) := Nat.mul_pos (Nat.mul_pos (Nat.mul_pos (Nat.mul_pos bp bp) bp) (Nat.mul_pos bp hp.pos)) (Nat.mul_pos bp hp.pos)
  have e1 : low (mnN W (cT m p)) (byW W * (byW W * unT (cT m p))) = p := by
    rw [c_mn h hp.pos, cT_un h.m1]
    conv => rhs; rw [← Ms.low_of hp]
    refine Ms.low_eq u1 hp.pos ?_
    push_cast; grind
  have e2 : dgF W (cT m p) = List.replicate m p := by
    have : low ((byW W : Int) * p.1) (byW W * p.2) = p := by
      conv => rhs; rw [← Ms.low_of hp]
      refine Ms.low_eq (Nat.mul_pos bp hp.pos) hp.pos ?_
      push_cast; grind
    rw [dgF, c_dgs h hp.pos, cT_un h.m1, List.map_replicate, this]
  have e3 : low (sqN W (cT m p)) (byW W * byW W * byW W * (byW W * unT (cT m p)) * (byW W * unT (cT m p))) = (0, 1) := by
    rw [c_sq h hp.pos, cT_un h.m1]; exact Ms.low_zero hU
  rw [dueD, e1, e2, e3, frsD, List.map_replicate]
theorem c_sheet : shtD W (cT m p) = .tuple [frsD W, .tuple (List.replicate m (.tuple (List.replicate m (frD p))))] := by simp [shtD, tblD, frsD, cT]
end
theorem c_Vd {m : Nat} {W : List Fr} {p : Fr} (h1 : 1 ≤ m) (h8 : m ≤ 8) (hW : Wt m W) {lo : Int} (hp : It lo 40 p) : Vd m W (cT m p) :=
  mkSheet0 h1 h8 hW (rep_Tm hp) (by rw [cT_un h1]; exact Nat.le_trans hp.dn (Nat.le_trans (show 40 ≤ 2 ^ 6 by decide) (Nat.pow_le_pow_right (by decide) (by decide))))
def Wc0 : FS := (fSet 1 1 (fIfE (fT (fOp2 (gEqX false) false (fCall F__law_draw (fACons (fVar 0) (fACons (fC (.int 6)) fANil))) (fC (.int 0)))) (fC (.int 8)) (fOp2 gAdd false (fC (.int 1)) (fCall F__law_draw (fACons (fVar 0) (fACons (fC (.int 4)) fANil))))))
def Wc1 : FS := (fPar2 1 2 3 (fCall F__law_own_weights (fACons (fVar 0) (fACons (fVar 1) (fACons (fCall F__law_pick (fACons (fVar 0) (fACons (fLst false (fACons (fC (.int 1)) (fACons (fC (.int 5)) fANil))) fANil))) fANil)))) (fCall F__law_own_item (fACons (fVar 0) (fACons (fC (.int 0)) (fACons (fCall F__law_pick (fACons (fVar 0) (fACons (fLst false (fACons (fC (.int 3)) (fACons (fC (.int 12)) (fACons (fC (.int 40)) fANil)))) fANil))) fANil)))))
def Wc2 : FS := (fMulti 1 [4, 5, 6, 7] (fACons (fCall F_constant_sheet (fACons (fVar 2) (fACons (fVar 3) fANil))) (fACons (fOp2 gAdd false (fC (.int 1)) (fCall F__law_draw (fACons (fVar 0) (fACons (fIfE (fT (fOp2 gLt false (fVar 1) (fC (.int 5)))) (fC (.int 12)) (fC (.int 6))) fANil)))) (fACons (fC (.int 1)) (fACons (fC (.int 1)) fANil)))))
def Wc3 : FS := (fIf (fNot (fTru (fCall (F__law_same 8) (fACons (fVar 4) (fACons (fTup (fACons (fVar 2) (fACons (fOp2 gMulX false (fTup (fACons (fOp2 gMulX false (fTup (fACons (fVar 3) fANil)) (fVar 1)) fANil)) (fVar 1)) fANil))) fANil))))) (fRet 1 true (fC (.bool false))) fNil)
def Wc4 : FS := (fFor (fRange1 (fOp2 gSub false (fVar 5) (fC (.int 1)))) (gN 8) b1__law_is_constant_right)
def Wc5 : FS := (fIf (fNot (fTru (fCall (F__law_same 8) (fACons (fCall F_path_share (fACons (fVar 4) (fACons (fVar 5) fANil))) (fACons (fTup (fACons (fVar 6) (fACons (fVar 7) fANil))) fANil))))) (fRet 1 true (fC (.bool false))) fNil)
def Wc6 : FS := (fRet 1 true (fCall F__law_are_told (fACons (fVar 4) (fACons (fLst false (fACons (fVar 3) (fACons (fOp2 gMulX false (fTup (fACons (fVar 3) fANil)) (fVar 1)) (fACons (fTup (fACons (fC (.int 0)) (fACons (fC (.int 1)) fANil))) fANil)))) (fACons (fC (.bool false)) fANil)))))
theorem Wc_is : F__law_is_constant_right = fnOf 1 9 (fSeq Wc0 (fSeq Wc1 (fSeq Wc2 (fSeq Wc3 (fSeq Wc4 (fSeq Wc5 Wc6)))))) := rfl
theorem It.up {lo : Int} {a b : Nat} {q : Fr} (h : It lo a q) (k : a ≤ b) : It lo b q := ⟨h.lw, h.un, Nat.le_trans h.dn k, h.nn⟩
theorem c_loop {p : Fr} (hp : It 0 40 p) (a b c d e : Option MD) : ∀ (n k : Nat), n + k ≤ 20 → loopS (gN 8) b1__law_is_constant_right ((List.range n).map fun (x : Nat) => PyData.int x) [a, b, c, some (.dat (frD p)), d, e, some (.dat (.int (p.1 ^ k))), some (.dat (.int ((p.2 ^ k : Nat) : Int))), none] =
    some (.nx [a, b, c, some (.dat (frD p)), d, e, some (.dat (.int (p.1 ^ (k + n)))), some (.dat (.int ((p.2 ^ (k + n) : Nat) : Int))), none]) := by
  intro n k hk
  have b2 : Bd 7 ((p.2 : Nat) : Int) := nat_bd (Nat.le_trans hp.dn (by decide))
  have b1 : Bd 7 p.1 := b2.of_le (by simpa using hp.un)
  obtain ⟨Γ, e1, hΓ⟩ := loopS_ok (tg := gN 8) (b := b1__law_is_constant_right) (P := fun j Γ => j ≤ n ∧ Γ = [a, b, c, some (.dat (frD p)), d, e, some (.dat (.int (p.1 ^ (k + j)))), some (.dat (.int ((p.2 ^ (k + j) : Nat) : Int))), none]) (items := (List.range n).map fun (x : Nat) => PyData.int x) (Γ := [a, b, c, some (.dat (frD p)), d, e, some (.dat (.int (p.1 ^ k))), some (.dat (.int ((p.2 ^ k : Nat) : Int))), none]) 0 ⟨by omega, rfl⟩ fun j x Γ hx hΓ => by
    obtain ⟨_, hΓ⟩ := hΓ
    subst hΓ
    have hj : j < n := by
      have := (List.getElem?_eq_some_iff.mp hx).1
      simpa using this
    have m1 := mulOk_bd ((pow_bd b1 (by omega) (k + (0 + j))).mono (m := 141) (by omega)) b1
    have b3 : Bd 141 ((p.2 ^ (k + (0 + j)) : Nat) : Int) := by
      have := (pow_bd b2 (by omega) (k + (0 + j))).mono (m := 141) (by omega)
      simpa using this
    have m2 := mulOk_bd b3 b2
    have x0 : atI [PyData.int p.1, .int (p.2 : Nat)] 0 = some (.int p.1) := rfl
    have x1 : atI [PyData.int p.1, .int (p.2 : Nat)] 1 = some (.int (p.2 : Nat)) := rfl
    obtain ⟨y, rfl⟩ : ∃ y, x = .int y := by
      rw [List.getElem?_map] at hx
      obtain ⟨y, _, rfl⟩ := Option.map_eq_some_iff.mp hx
      exact ⟨_, rfl⟩
    refine ⟨_, .inl ?_, by omega, rfl⟩
    have e1 : p.1 ^ (k + (0 + j + 1)) = p.1 ^ (k + (0 + j)) * p.1 := by rw [← Int.pow_succ]; rfl
    have e2 : ((p.2 ^ (k + (0 + j + 1)) : Nat) : Int) = ((p.2 ^ (k + (0 + j)) : Nat) : Int) * (p.2 : Nat) := by rw [show k + (0 + j + 1) = (k + (0 + j)) + 1 by omega, Nat.pow_succ]; simp
    rw [e1, e2]
    generalize p.1 ^ (k + (0 + j)) = u at *
    generalize ((p.2 ^ (k + (0 + j)) : Nat) : Int) = v at *
    simp [fnOf, fSeq, fNil, fSet, fRet, fDrop, fIf, fFgt, fgtO, fgt, fFor, fIfE, fT, fTru, truD, fAnd, fOr, fNot, fAndV, fOrV, fNotV, fOp2, fVar, fC, fB, fACons, fANil, fTup, fLst, fNeg, gRel, gInt2, gInt2C, gAdd, gMulX_int, gIx, gLen, gAbs, gInt, gEq, gIs, gIsNot, dv_dat, dv_lst, dv_al, dvs, own_dat, own_lst, own_bag, own_dcK, own_scr, flat_dat, flat_lst, Res.fin, frzs_nil, frzs_cons, frz_dat, intT_int, outs, als, argsOf, putArgs, fCall, eqv_int, shp_int, shp_none, shp_bool, noOwn, ownAt, sizeLine_eq, fIter, itemsOf, fRange1, fRange2, eqX_int, eqX_str, fEnumA, fFrz, fNever, permOk, perm, fCallK, fCallP, gMax2, gMin2, gMax3, gMin3, fPar2, fMulti, putM, fAsgG, fLc, lcStep, lsStep, tYesF, gN, gT, gsCons, gsNil, b1__law_is_constant_right, frD, x0, x1, m1, m2]
  rw [e1, hΓ.2]
  simp
theorem constant_ok {B : MD} (hB : BagOk B) : ∃ B', F__law_is_constant_right [B] = some (.dat (.bool true), [some B']) ∧ BagOk B' := by
  obtain ⟨m, B1, h1, h8, hB1, w0⟩ : ∃ (m : Nat) (B1 : MD), 1 ≤ m ∧ m ≤ 8 ∧ BagOk B1 ∧ Wc0 [some B, none, none, none, none, none, none, none, none] = some (.nx [some B1, some (.dat (.int m)), none, none, none, none, none, none, none]) := by
    obtain ⟨v, C1, e1, hC1, hv⟩ := drawN hB (n := 6) (by decide) (by decide)
    rw [show ((6 : Nat) : Int) = 6 from rfl] at e1
    by_cases q : v = 0
    · subst q
      exact ⟨8, C1, by decide, by decide, hC1, by simp [fnOf, fSeq, fNil, fSet, fRet, fDrop, fIf, fFgt, fgtO, fgt, fFor, fIfE, fT, fTru, truD, fAnd, fOr, fNot, fAndV, fOrV, fNotV, fOp2, fVar, fC, fB, fACons, fANil, fTup, fLst, fNeg, gRel, gInt2, gInt2C, gAdd, gMulX_int, gIx, gLen, gAbs, gInt, gEq, gIs, gIsNot, dv_dat, dv_lst, dv_al, dvs, own_dat, own_lst, own_bag, own_dcK, own_scr, flat_dat, flat_lst, Res.fin, frzs_nil, frzs_cons, frz_dat, intT_int, outs, als, argsOf, putArgs, fCall, eqv_int, shp_int, shp_none, shp_bool, noOwn, ownAt, sizeLine_eq, fIter, itemsOf, fRange1, fRange2, eqX_int, eqX_str, fEnumA, fFrz, fNever, permOk, perm, fCallK, fCallP, gMax2, gMin2, gMax3, gMin3, fPar2, fMulti, putM, fAsgG, fLc, Wc0, hB.own, hC1.own, e1]⟩
    · obtain ⟨u, C2, e2, hC2, hu⟩ := drawN hC1 (n := 4) (by decide) (by decide)
      rw [show ((4 : Nat) : Int) = 4 from rfl] at e2
      have q' : ¬ (v : Int) = 0 := by omega
      exact ⟨1 + u, C2, by omega, by omega, hC2, by
        rw [show ((1 + u : Nat) : Int) = 1 + (u : Int) by omega]
        simp [fnOf, fSeq, fNil, fSet, fRet, fDrop, fIf, fFgt, fgtO, fgt, fFor, fIfE, fT, fTru, truD, fAnd, fOr, fNot, fAndV, fOrV, fNotV, fOp2, fVar, fC, fB, fACons, fANil, fTup, fLst, fNeg, gRel, gInt2, gInt2C, gAdd, gMulX_int, gIx, gLen, gAbs, gInt, gEq, gIs, gIsNot, dv_dat, dv_lst, dv_al, dvs, own_dat, own_lst, own_bag, own_dcK, own_scr, flat_dat, flat_lst, Res.fin, frzs_nil, frzs_cons, frz_dat, intT_int, outs, als, argsOf, putArgs, fCall, eqv_int, shp_int, shp_none, shp_bool, noOwn, ownAt, sizeLine_eq, fIter, itemsOf, fRange1, fRange2, eqX_int, eqX_str, fEnumA, fFrz, fNever, permOk, perm, fCallK, fCallP, gMax2, gMin2, gMax3, gMin3, fPar2, fMulti, putM, fAsgG, fLc, Wc0, hB.own, hC1.own, hC2.own, e1, e2, q, q']⟩
  obtain ⟨W, p, B2, hW, hp, hB2, w1⟩ : ∃ (W : List Fr) (p : Fr) (B2 : MD), Wt m W ∧ It 0 40 p ∧ BagOk B2 ∧ Wc1 [some B1, some (.dat (.int m)), none, none, none, none, none, none, none] = some (.nx [some B2, some (.dat (.int m)), some (.dat (frsD W)), some (.dat (frD p)), none, none, none, none, none]) := by
    obtain ⟨n, C1, e1, hC1, hn⟩ := pickN hB1 (ns := [1, 5]) (by simp) (by simp)
    simp only [List.mem_cons, List.not_mem_nil, or_false] at hn
    obtain ⟨W, C2, e2, hC2, hW⟩ := weights_ok (most := n) h1 h8 (by omega) (by omega) hC1
    obtain ⟨n2, C3, e3, hC3, hn2⟩ := pickN hC2 (ns := [3, 12, 40]) (by simp) (by simp)
    simp only [List.mem_cons, List.not_mem_nil, or_false] at hn2
    obtain ⟨p, C4, e4, hC4, hp⟩ := item_ok (.inl rfl) (most := n2) (by omega) (by omega) hC3
    have e1' : F__law_pick [B1, .dat (.list [.int 1, .int 5])] = some (.dat (.int n), [some C1, none]) := e1
    have e3' : F__law_pick [C2, .dat (.list [.int 3, .int 12, .int 40])] = some (.dat (.int n2), [some C3, none]) := e3
    refine ⟨W, p, C4, hW, hp.up (by omega), hC4, ?_⟩
    generalize frsD W = w at *
    generalize frD p = pp at *
    simp [fnOf, fSeq, fNil, fSet, fRet, fDrop, fIf, fFgt, fgtO, fgt, fFor, fIfE, fT, fTru, truD, fAnd, fOr, fNot, fAndV, fOrV, fNotV, fOp2, fVar, fC, fB, fACons, fANil, fTup, fLst, fNeg, gRel, gInt2, gInt2C, gAdd, gMulX_int, gIx, gLen, gAbs, gInt, gEq, gIs, gIsNot, dv_dat, dv_lst, dv_al, dvs, own_dat, own_lst, own_bag, own_dcK, own_scr, flat_dat, flat_lst, Res.fin, frzs_nil, frzs_cons, frz_dat, intT_int, outs, als, argsOf, putArgs, fCall, eqv_int, shp_int, shp_none, shp_bool, noOwn, ownAt, sizeLine_eq, fIter, itemsOf, fRange1, fRange2, eqX_int, eqX_str, fEnumA, fFrz, fNever, permOk, perm, fCallK, fCallP, gMax2, gMin2, gMax3, gMin3, fPar2, fMulti, putM, fAsgG, fLc, Wc1, hB1.own, hC1.own, hC2.own, hC3.own, hC4.own, e1', e2, e3', e4]
  have V := c_Vd h1 h8 hW hp
  have cs : F_constant_sheet [.dat (frsD W), .dat (frD p)] = some (.dat (shtD W (cT m p)), [none, none]) := by
    have y1 := mul_tup (frD p) (k := m) (by omega)
    have y2 := mul_tup (.tuple (List.replicate m (frD p))) (k := m) (by omega)
    have hl : (W.map frD).length = m := by rw [List.length_map, V.lw]
    rw [c_sheet]
    generalize List.replicate m (PyData.tuple (List.replicate m (frD p))) = z2 at *
    generalize List.replicate m (frD p) = z1 at *
    simp only [frsD]
    generalize W.map frD = wd at *
    generalize frD p = pp at *
    simp [fnOf, fSeq, fNil, fSet, fRet, fDrop, fIf, fFgt, fgtO, fgt, fFor, fIfE, fT, fTru, truD, fAnd, fOr, fNot, fAndV, fOrV, fNotV, fOp2, fVar, fC, fB, fACons, fANil, fTup, fLst, fNeg, gRel, gInt2, gInt2C, gAdd, gMulX_int, gIx, gLen, gAbs, gInt, gEq, gIs, gIsNot, dv_dat, dv_lst, dv_al, dvs, own_dat, own_lst, own_bag, own_dcK, own_scr, flat_dat, flat_lst, Res.fin, frzs_nil, frzs_cons, frz_dat, intT_int, outs, als, argsOf, putArgs, fCall, eqv_int, shp_int, shp_none, shp_bool, noOwn, ownAt, sizeLine_eq, fIter, itemsOf, fRange1, fRange2, eqX_int, eqX_str, fEnumA, fFrz, fNever, permOk, perm, fCallK, fCallP, gMax2, gMin2, gMax3, gMin3, fPar2, fMulti, putM, fAsgG, fLc, F_constant_sheet, hl, y1, y2]
  obtain ⟨n, B3, hn, hB3, w2⟩ : ∃ (n : Nat) (B3 : MD), n < 12 ∧ BagOk B3 ∧ Wc2 [some B2, some (.dat (.int m)), some (.dat (frsD W)), some (.dat (frD p)), none, none, none, none, none] = some (.nx [some B3, some (.dat (.int m)), some (.dat (frsD W)), some (.dat (frD p)), some (.dat (shtD W (cT m p))), some (.dat (.int ((n + 1 : Nat) : Int))), some (.dat (.int 1)), some (.dat (.int 1)), none]) := by
    generalize shtD W (cT m p) = sh at *
    by_cases q : m < 5
    · obtain ⟨u, C2, e2, hC2, hu⟩ := drawN hB2 (n := 12) (by decide) (by decide)
      rw [show ((12 : Nat) : Int) = 12 from rfl] at e2
      have q' : (m : Int) < 5 := by omega
      refine ⟨u, C2, hu, hC2, ?_⟩
      rw [show ((u + 1 : Nat) : Int) = 1 + (u : Int) by omega]
      generalize frsD W = w at *
      generalize frD p = pp at *
      simp [fnOf, fSeq, fNil, fSet, fRet, fDrop, fIf, fFgt, fgtO, fgt, fFor, fIfE, fT, fTru, truD, fAnd, fOr, fNot, fAndV, fOrV, fNotV, fOp2, fVar, fC, fB, fACons, fANil, fTup, fLst, fNeg, gRel, gInt2, gInt2C, gAdd, gMulX_int, gIx, gLen, gAbs, gInt, gEq, gIs, gIsNot, dv_dat, dv_lst, dv_al, dvs, own_dat, own_lst, own_bag, own_dcK, own_scr, flat_dat, flat_lst, Res.fin, frzs_nil, frzs_cons, frz_dat, intT_int, outs, als, argsOf, putArgs, fCall, eqv_int, shp_int, shp_none, shp_bool, noOwn, ownAt, sizeLine_eq, fIter, itemsOf, fRange1, fRange2, eqX_int, eqX_str, fEnumA, fFrz, fNever, permOk, perm, fCallK, fCallP, gMax2, gMin2, gMax3, gMin3, fPar2, fMulti, putM, fAsgG, fLc, Wc2, hB2.own, hC2.own, e2, cs, q, q']
    · obtain ⟨u, C2, e2, hC2, hu⟩ := drawN hB2 (n := 6) (by decide) (by decide)
      rw [show ((6 : Nat) : Int) = 6 from rfl] at e2
      have q' : ¬ (m : Int) < 5 := by omega
      refine ⟨u, C2, by omega, hC2, ?_⟩
      rw [show ((u + 1 : Nat) : Int) = 1 + (u : Int) by omega]
      generalize frsD W = w at *
      generalize frD p = pp at *
      simp [fnOf, fSeq, fNil, fSet, fRet, fDrop, fIf, fFgt, fgtO, fgt, fFor, fIfE, fT, fTru, truD, fAnd, fOr, fNot, fAndV, fOrV, fNotV, fOp2, fVar, fC, fB, fACons, fANil, fTup, fLst, fNeg, gRel, gInt2, gInt2C, gAdd, gMulX_int, gIx, gLen, gAbs, gInt, gEq, gIs, gIsNot, dv_dat, dv_lst, dv_al, dvs, own_dat, own_lst, own_bag, own_dcK, own_scr, flat_dat, flat_lst, Res.fin, frzs_nil, frzs_cons, frz_dat, intT_int, outs, als, argsOf, putArgs, fCall, eqv_int, shp_int, shp_none, shp_bool, noOwn, ownAt, sizeLine_eq, fIter, itemsOf, fRange1, fRange2, eqX_int, eqX_str, fEnumA, fFrz, fNever, permOk, perm, fCallK, fCallP, gMax2, gMin2, gMax3, gMin3, fPar2, fMulti, putM, fAsgG, fLc, Wc2, hB2.own, hC2.own, e2, cs, q, q']
  have sp : Plain 5 (shtD W (cT m p)) := .tup _ _ (by simp [sizeLine_eq]) fun d hd => by
    simp only [List.mem_cons, List.not_mem_nil, or_false] at hd
    rcases hd with rfl | rfl
    · exact plain_up (by decide) (frs_plain W (by rw [V.lw]; omega))
    · exact tbl_plain _ (by rw [V.lt]; omega) fun r hr => by rw [V.lr r hr]; omega
  have s1 := same8 sp (by decide)
  have y1 := mul_tup (frD p) (k := m) (by omega)
  have y2 := mul_tup (.tuple (List.replicate m (frD p))) (k := m) (by omega)
  have w3 : Wc3 [some B3, some (.dat (.int m)), some (.dat (frsD W)), some (.dat (frD p)), some (.dat (shtD W (cT m p))), some (.dat (.int ((n + 1 : Nat) : Int))), some (.dat (.int 1)), some (.dat (.int 1)), none] = some (.nx [some B3, some (.dat (.int m)), some (.dat (frsD W)), some (.dat (frD p)), some (.dat (shtD W (cT m p))), some (.dat (.int ((n + 1 : Nat) : Int))), some (.dat (.int 1)), some (.dat (.int 1)), none]) := by
    rw [c_sheet] at s1 ⊢
    generalize List.replicate m (PyData.tuple (List.replicate m (frD p))) = z2 at *
    generalize List.replicate m (frD p) = z1 at *
    generalize frsD W = w at *
    generalize frD p = pp at *
    simp [fnOf, fSeq, fNil, fSet, fRet, fDrop, fIf, fFgt, fgtO, fgt, fFor, fIfE, fT, fTru, truD, fAnd, fOr, fNot, fAndV, fOrV, fNotV, fOp2, fVar, fC, fB, fACons, fANil, fTup, fLst, fNeg, gRel, gInt2, gInt2C, gAdd, gMulX_int, gIx, gLen, gAbs, gInt, gEq, gIs, gIsNot, dv_dat, dv_lst, dv_al, dvs, own_dat, own_lst, own_bag, own_dcK, own_scr, flat_dat, flat_lst, Res.fin, frzs_nil, frzs_cons, frz_dat, intT_int, outs, als, argsOf, putArgs, fCall, eqv_int, shp_int, shp_none, shp_bool, noOwn, ownAt, sizeLine_eq, fIter, itemsOf, fRange1, fRange2, eqX_int, eqX_str, fEnumA, fFrz, fNever, permOk, perm, fCallK, fCallP, gMax2, gMin2, gMax3, gMin3, fPar2, fMulti, putM, fAsgG, fLc, Wc3, y1, y2, s1]
  have l1 := fun (a b c d e : Option MD) => c_loop hp a b c d e n 0 (by omega)
  simp only [Int.pow_zero, Nat.pow_zero, Nat.zero_add] at l1
  have r1 := rg1_nat (p := n) (by omega)
  have w4 : Wc4 [some B3, some (.dat (.int m)), some (.dat (frsD W)), some (.dat (frD p)), some (.dat (shtD W (cT m p))), some (.dat (.int ((n + 1 : Nat) : Int))), some (.dat (.int 1)), some (.dat (.int 1)), none] = some (.nx [some B3, some (.dat (.int m)), some (.dat (frsD W)), some (.dat (frD p)), some (.dat (shtD W (cT m p))), some (.dat (.int ((n + 1 : Nat) : Int))), some (.dat (.int (p.1 ^ n))), some (.dat (.int ((p.2 ^ n : Nat) : Int))), none]) := by
    have en : ((n + 1 : Nat) : Int) = (n : Int) + 1 := by omega
    rw [en]
    rw [show ((1 : Nat) : Int) = 1 from rfl] at l1
    generalize p.1 ^ n = u at *
    generalize ((p.2 ^ n : Nat) : Int) = v at *
    generalize shtD W (cT m p) = sh at *
    generalize frsD W = w at *
    generalize frD p = pp at *
    generalize (List.range n).map (fun (x : Nat) => PyData.int x) = rr at *
    simp [fnOf, fSeq, fNil, fSet, fRet, fDrop, fIf, fFgt, fgtO, fgt, fFor, fIfE, fT, fTru, truD, fAnd, fOr, fNot, fAndV, fOrV, fNotV, fOp2, fVar, fC, fB, fACons, fANil, fTup, fLst, fNeg, gRel, gInt2, gInt2C, gAdd, gMulX_int, gIx, gLen, gAbs, gInt, gEq, gIs, gIsNot, dv_dat, dv_lst, dv_al, dvs, own_dat, own_lst, own_bag, own_dcK, own_scr, flat_dat, flat_lst, Res.fin, frzs_nil, frzs_cons, frz_dat, intT_int, outs, als, argsOf, putArgs, fCall, eqv_int, shp_int, shp_none, shp_bool, noOwn, ownAt, sizeLine_eq, fIter, itemsOf, fRange1, fRange2, eqX_int, eqX_str, fEnumA, fFrz, fNever, permOk, perm, fCallK, fCallP, gMax2, gMin2, gMax3, gMin3, fPar2, fMulti, putM, fAsgG, fLc, Wc4, r1, l1]
  have pk := path_ok V.toSh (k := n) (by omega)
  have ep : low (ptN W (cT m p) n) (ptU W (cT m p) n * byW W) = (p.1 ^ n, p.2 ^ n) := c_pt V hp.lw n
  rw [ep] at pk
  have s2 := same8 (fr_plain (p.1 ^ n, p.2 ^ n)) (by decide)
  have ef : frD (p.1 ^ n, p.2 ^ n) = .tuple [.int (p.1 ^ n), .int ((p.2 ^ n : Nat) : Int)] := rfl
  rw [ef] at pk s2
  have td := told_ok V false
  rw [c_due V hp.lw] at td
  have e01 : frD (0, 1) = .tuple [.int 0, .int 1] := rfl
  rw [e01] at td
  refine ⟨B3, ?_, hB3⟩
  rw [Wc_is]
  show (Option.bind (fSeq Wc0 _ [some B, none, none, none, none, none, none, none, none]) _) = _
  rw [seq_nx w0, seq_nx w1, seq_nx w2, seq_nx w3, seq_nx w4]
  clear w0 w1 w2 w3 w4 l1 ep cs s1 sp ef
  generalize p.1 ^ n = u at *
  generalize ((p.2 ^ n : Nat) : Int) = v at *
  generalize shtD W (cT m p) = sh at *
  generalize List.replicate m (frD p) = z1 at *
  generalize frsD W = w at *
  generalize frD p = pp at *
  generalize ((n + 1 : Nat) : Int) = nn at *
  simp [fnOf, fSeq, fNil, fSet, fRet, fDrop, fIf, fFgt, fgtO, fgt, fFor, fIfE, fT, fTru, truD, fAnd, fOr, fNot, fAndV, fOrV, fNotV, fOp2, fVar, fC, fB, fACons, fANil, fTup, fLst, fNeg, gRel, gInt2, gInt2C, gAdd, gMulX_int, gIx, gLen, gAbs, gInt, gEq, gIs, gIsNot, dv_dat, dv_lst, dv_al, dvs, own_dat, own_lst, own_bag, own_dcK, own_scr, flat_dat, flat_lst, Res.fin, frzs_nil, frzs_cons, frz_dat, intT_int, outs, als, argsOf, putArgs, fCall, eqv_int, shp_int, shp_none, shp_bool, noOwn, ownAt, sizeLine_eq, fIter, itemsOf, fRange1, fRange2, eqX_int, eqX_str, fEnumA, fFrz, fNever, permOk, perm, fCallK, fCallP, gMax2, gMin2, gMax3, gMin3, fPar2, fMulti, putM, fAsgG, fLc, Wc5, Wc6, pk, s2, y1, td, hB3.own]
end Lw

end

/-! K14o: sheets led by an order -/
noncomputable section
namespace Lw
open PySem PySem.Spec PyProof.Rows L2 Fx
open Ms (Bd Fr low num lcmL Low S)

def ledW (W : List Fr) (o : List Nat) : List Fr := o.map fun i => W.getD i (0, 1)
def ledT (T : List (List Fr)) (o : List Nat) : List (List Fr) := o.map fun i => o.map fun j => at2F T i j
theorem dot_map (o : List Nat) (f g : Nat → Int) : dot (o.map f) (o.map g) = S o fun j => f j * g j := by
  induction o with
  | nil => rfl
  | cons a o ih => rw [List.map_cons, List.map_cons, dot_cons, ih, Ms.S_cons]
section
variable {m : Nat} {W : List Fr} {T : List (List Fr)} {o : List Nat}
theorem per_mem (ho : o.Perm (List.range m)) {i : Nat} : i ∈ o ↔ i < m := by rw [ho.mem_iff, List.mem_range]
theorem per_S (ho : o.Perm (List.range m)) (f : Nat → Int) : S o f = S (List.range m) f := Ms.S_perm ho f
theorem getD_in {α : Type} {l : List α} {i : Nat} (d : α) (h : i < l.length) : l.getD i d ∈ l := by
  rw [List.getD_eq_getElem?_getD, List.getElem?_eq_getElem h]; exact List.getElem_mem h
theorem in_getD {α : Type} {l : List α} {x d : α} (h : x ∈ l) : ∃ i, i < l.length ∧ l.getD i d = x := by
  obtain ⟨i, hi, e⟩ := List.getElem_of_mem h
  exact ⟨i, hi, by rw [List.getD_eq_getElem?_getD, List.getElem?_eq_getElem hi]; exact e⟩
theorem led_by (h : Sh m W T) (ho : o.Perm (List.range m)) : byW (ledW W o) = byW W := Ms.lcmL_same (fun d hd => by
    obtain ⟨q, hq, rfl⟩ := List.mem_map.mp hd
    obtain ⟨i, hi, rfl⟩ := List.mem_map.mp hq
    exact List.mem_map.mpr ⟨_, getD_in _ (by rw [h.lw]; exact (per_mem ho).mp hi), rfl⟩) fun d hd => by
  obtain ⟨q, hq, rfl⟩ := List.mem_map.mp hd
  obtain ⟨i, hi, rfl⟩ := in_getD (d := (0, 1)) hq
  exact List.mem_map.mpr ⟨_, List.mem_map.mpr ⟨i, (per_mem ho).mpr (by rw [← h.lw]; exact hi), rfl⟩, rfl⟩
theorem Sh.cell (h : Sh m W T) {i j : Nat} (hi : i < m) (hj : j < m) : T.getD i [] ∈ T ∧ at2F T i j ∈ T.getD i [] := by
  have h1 := (h.rowAt hi).1
  exact ⟨h1, getD_in _ (by rw [h.lr _ h1]; exact hj)⟩
theorem led_un (h : Sh m W T) (ho : o.Perm (List.range m)) : unT (ledT T o) = unT T := Ms.lcmL_same (fun d hd => by
    obtain ⟨q, hq, rfl⟩ := List.mem_map.mp hd
    obtain ⟨r, hr, hq⟩ := List.mem_flatten.mp hq
    obtain ⟨i, hi, rfl⟩ := List.mem_map.mp hr
    obtain ⟨j, hj, rfl⟩ := List.mem_map.mp hq
    obtain ⟨a, b⟩ := h.cell ((per_mem ho).mp hi) ((per_mem ho).mp hj)
    exact List.mem_map.mpr ⟨_, List.mem_flatten.mpr ⟨_, a, b⟩, rfl⟩) fun d hd => by
  obtain ⟨q, hq, rfl⟩ := List.mem_map.mp hd
  obtain ⟨r, hr, hq⟩ := List.mem_flatten.mp hq
  obtain ⟨i, hi, rfl⟩ := in_getD (d := []) hr
  rw [h.lt] at hi
  obtain ⟨j, hj, e⟩ := in_getD (d := (0, 1)) hq
  rw [h.lr _ (h.rowAt hi).1] at hj
  refine List.mem_map.mpr ⟨at2F T i j, List.mem_flatten.mpr ⟨_, List.mem_map.mpr ⟨i, (per_mem ho).mpr hi, rfl⟩, List.mem_map.mpr ⟨j, (per_mem ho).mpr hj, rfl⟩⟩, ?_⟩
  rw [at2F, e]
theorem led_wN (h : Sh m W T) (ho : o.Perm (List.range m)) : wN (ledW W o) = o.map (wA W) := by
  rw [wN, led_by h ho, ledW, List.map_map]
  refine List.map_congr_left fun i hi => ?_
  have hi := (per_mem ho).mp hi
  rw [wA, wN, map_getD' _ _ (0, 1) (by rw [h.lw]; exact hi)]; rfl
theorem led_tN (h : Sh m W T) (ho : o.Perm (List.range m)) : tN (ledT T o) = o.map fun i => o.map fun j => tA T i j := by
  rw [tN, led_un h ho, ledT, List.map_map]
  refine List.map_congr_left fun i hi => ?_
  show List.map _ (List.map _ o) = _
  rw [List.map_map]
  refine List.map_congr_left fun j hj => ?_
  rw [h.tAt ((per_mem ho).mp hi) ((per_mem ho).mp hj)]; rfl
theorem led_len (ho : o.Perm (List.range m)) : o.length = m := by simpa using ho.length_eq
theorem led_dgs (h : Sh m W T) (ho : o.Perm (List.range m)) : dgs (ledW W o) (ledT T o) = o.map (dA W T) := by
  rw [dgs, led_tN h ho, led_wN h ho, List.map_map]
  refine List.map_congr_left fun i hi => ?_
  show dot (o.map (wA W)) (o.map fun j => tA T i j) = _
  rw [dot_map, per_S ho, dA, h.lw]
theorem led_mn (h : Sh m W T) (ho : o.Perm (List.range m)) : mnN (ledW W o) (ledT T o) = mnN W T := by
  rw [mnN, led_wN h ho, led_dgs h ho, dot_map, per_S ho, h.mnS]
theorem led_sq (h : Sh m W T) (ho : o.Perm (List.range m)) : sqN (ledW W o) (ledT T o) = sqN W T := by
  rw [sqN, led_wN h ho, led_dgs h ho, led_by h ho, led_mn h ho, h.sqS]
  have : ∀ (o : List Nat), (List.zipWith (fun w d => w * (d * (byW W : Int) - mnN W T) * (d * byW W - mnN W T)) (o.map (wA W)) (o.map (dA W T))).sum = S o fun i => wA W i * ((dA W T i * byW W - mnN W T) * (dA W T i * byW W - mnN W T)) := by
    intro o
    induction o with
    | nil => rfl
    | cons a o ih => rw [List.map_cons, List.map_cons, List.zipWith_cons_cons, List.sum_cons, ih, Ms.S_cons, Int.mul_assoc]
  rw [this, per_S ho]
theorem led_mds (h : Sh m W T) (ho : o.Perm (List.range m)) : ∀ k, Lw.mds (ledW W o) (ledT T o) k = o.map fun i => (Lw.mds W T k).getD i 0
  | 0 => by
    rw [Lw.mds, mdN]
    have e : (ledW W o).length = o.length := by simp [ledW]
    rw [e]
    have : (o.map fun i => (Lw.mds W T 0).getD i 0) = o.map fun _ => (1 : Int) := List.map_congr_left fun i hi => by
      rw [Lw.mds, mdN, List.getD_eq_getElem?_getD, List.getElem?_replicate, if_pos (by rw [h.lw]; exact (per_mem ho).mp hi)]; rfl
    rw [this, List.map_const']
  | k + 1 => by
    rw [mds_succ, led_mds h ho k, nxM, led_tN h ho, led_wN h ho, List.map_map]
    refine List.map_congr_left fun i hi => ?_
    have z : List.zipWith (· * ·) (o.map (wA W)) (o.map fun i => (Lw.mds W T k).getD i 0) = o.map fun j => wA W j * (Lw.mds W T k).getD j 0 := by
      clear ho hi
      induction o with
      | nil => rfl
      | cons a o ih => simp [ih]
    show dot (o.map fun j => tA T i j) (List.zipWith _ _ _) = _
    rw [z, dot_map, per_S ho, h.md1 ((per_mem ho).mp hi)]
theorem led_pt (h : Sh m W T) (ho : o.Perm (List.range m)) (k : Nat) : ptF (ledW W o) (ledT T o) k = ptF W T k := by
  have e : ptN (ledW W o) (ledT T o) k = ptN W T k := by
    rw [ptN, led_wN h ho, led_mds h ho, dot_map, per_S ho, ptN, dot_range h.wlen (h.mlen k)]; rfl
  rw [ptF, ptF, e, ptU, ptU, led_by h ho, led_un h ho]
theorem led_dgF (h : Sh m W T) (ho : o.Perm (List.range m)) : dgF (ledW W o) (ledT T o) = o.map fun i => (dgF W T).getD i (0, 1) := by
  rw [dgF, led_dgs h ho, led_by h ho, led_un h ho, List.map_map]
  refine List.map_congr_left fun i hi => ?_
  have hi := (per_mem ho).mp hi
  show low (dA W T i) _ = _
  rw [← h.dAt hi]
  rw [dgF, List.getD_eq_getElem?_getD, List.getD_eq_getElem?_getD, List.getElem?_map, List.getElem?_eq_getElem (by rw [h.dlen]; exact hi)]; rfl
theorem led_Vd (h : Vd m W T) (ho : o.Perm (List.range m)) : Vd m (ledW W o) (ledT T o) := by
  have hl := led_len ho
  exact { m1 := h.m1, m8 := h.m8
          lw := by rw [ledW, List.length_map]; exact hl
          lt := by rw [ledT, List.length_map]; exact hl
          lr := fun r hr => by
            obtain ⟨i, _, rfl⟩ := List.mem_map.mp hr
            rw [List.length_map]; exact hl
          dw := fun q hq => by
            obtain ⟨i, hi, rfl⟩ := List.mem_map.mp hq
            exact h.dw _ (getD_in _ (by rw [h.lw]; exact (per_mem ho).mp hi))
          uw := fun q hq => by
            obtain ⟨i, hi, rfl⟩ := List.mem_map.mp hq
            exact h.uw _ (getD_in _ (by rw [h.lw]; exact (per_mem ho).mp hi))
          dp := fun r hr q hq => by
            obtain ⟨i, hi, rfl⟩ := List.mem_map.mp hr
            obtain ⟨j, hj, rfl⟩ := List.mem_map.mp hq
            obtain ⟨a, b⟩ := h.cell ((per_mem ho).mp hi) ((per_mem ho).mp hj)
            exact h.dp _ a _ b
          un_le := by rw [led_un h.toSh ho]; exact h.un_le
          ut := fun r hr q hq => by
            obtain ⟨i, hi, rfl⟩ := List.mem_map.mp hr
            obtain ⟨j, hj, rfl⟩ := List.mem_map.mp hq
            obtain ⟨a, b⟩ := h.cell ((per_mem ho).mp hi) ((per_mem ho).mp hj)
            exact h.ut _ a _ b
          wp := fun x hx => by
            rw [led_wN h.toSh ho] at hx
            obtain ⟨i, hi, rfl⟩ := List.mem_map.mp hx
            exact h.wp _ (getD_in _ (by rw [h.wlen]; exact (per_mem ho).mp hi))
          ws := by
            rw [led_wN h.toSh ho, led_by h.toSh ho, ← h.ws, h.sumS]
            exact per_S ho _ }
theorem led_due (h : Sh m W T) (ho : o.Perm (List.range m)) : dueD (ledW W o) (ledT T o) = .list [frD (low (mnN W T) (byW W * (byW W * unT T))), .tuple (o.map fun i => frD ((dgF W T).getD i (0, 1))), frD (low (sqN W T) (byW W * byW W * byW W * (byW W * unT T) * (byW W * unT T)))] := by
  rw [dueD, led_mn h ho, led_sq h ho, led_by h ho, led_un h ho, led_dgF h ho, frsD, List.map_map]; rfl
theorem due_Rp (h : Sh m W T) : Rp 3 100 (dueD W T) := by
  have h8 := h.m8
  have hU1 : Bd 415 ((byW W * (byW W * unT T) : Nat) : Int) := by have := h.byB.mul h.buB; simpa using this
  have hU2 : Bd 887 ((byW W * byW W * byW W * (byW W * unT T) * (byW W * unT T) : Nat) : Int) := by have := ((((h.byB.mul h.byB).mul h.byB).mul h.buB).mul h.buB); simpa using this
  obtain ⟨c1, c2⟩ := low_bd h.mbd hU1
  obtain ⟨c3, c4⟩ := low_bd h.sqB hU2
  refine (Rp.list (k := 3) (c := 25) (n := 2) (fun d hd => ?_) (by simp)).mono (by omega) (by omega)
  simp only [List.mem_cons, List.not_mem_nil, or_false] at hd
  rcases hd with rfl | rfl | rfl
  · exact (Rp.frB (c1.mono (by omega)) (c2.mono (by omega))).mono (by omega) (by omega)
  · refine (Rp.frs (k := 8) (fun q hq => ?_) (by rw [h.dFlen]; omega)).mono (by omega) (by omega)
    obtain ⟨d, hd, rfl⟩ := List.mem_map.mp hq
    obtain ⟨a, b⟩ := low_bd (h.dbd d hd) h.buB
    exact ⟨a.mono (by omega), b.mono (by omega)⟩
  · exact (Rp.frB (c3.mono (by omega)) (c4.mono (by omega))).mono (by omega) (by omega)
end
/-! ### the order -/
theorem eqX_natsL (neg : Bool) (l : List Nat) : gEqX neg (.list (l.map fun (x : Nat) => PyData.int x)) (.list []) = some (.val (.bool (if neg then !decide (l = []) else decide (l = [])))) := by
  have := eqX_intsL neg (l.map fun (x : Nat) => (x : Int)) []
  rw [List.map_map] at this
  have e : decide (l.map (fun (x : Nat) => (x : Int)) = []) = decide (l = []) := by simp
  rw [e] at this
  exact this
theorem ixPop_nat {n k : Nat} (h : k < n) (hn : n < 1000) : ixPop n (k : Int) = some k := by
  have e := (ixN_seq (ixN_nat h)).1
  have h1 : -(2 ^ 63) ≤ (k : Int) ∧ (k : Int) < 2 ^ 63 := ⟨by omega, by omega⟩
  unfold ixPop
  rw [if_pos h1]
  exact e
theorem map_erase {α β : Type} (f : α → β) : ∀ (l : List α) (k : Nat), (l.map f).eraseIdx k = (l.eraseIdx k).map f
  | [], _ => rfl
  | _ :: _, 0 => rfl
  | a :: l, k + 1 => by rw [List.map_cons, List.eraseIdx_cons_succ, List.eraseIdx_cons_succ, List.map_cons, map_erase f l k]
abbrev Go (B : MD) (a b c d e : Option MD) (l r : List Nat) : Gm := [some B, a, b, c, d, e, some (.lst (l.map fun (x : Nat) => .int x)), some (.lst (r.map fun (x : Nat) => .int x)), none, none, none, none, none]
theorem ord_c {B : MD} (o : B.own = true) {ll rr : List PyData} (x : Bool) (q : gEqX true (.list ll) (.list []) = some (.val (.bool x))) (a b c d e : Option MD) : c1__law_is_led_right [some B, a, b, c, d, e, some (.lst ll), some (.lst rr), none, none, none, none, none] = some (x, [some B, a, b, c, d, e, some (.lst ll), some (.lst rr), none, none, none, none, none]) := by
  simp [fnOf, fSeq, fNil, fSet, fRet, fDrop, fIf, fFgt, fgtO, fgt, fFor, fIfE, fT, fTru, truD, fAnd, fOr, fNot, fAndV, fOrV, fNotV, fOp2, fVar, fC, fB, fACons, fANil, fTup, fLst, fNeg, gRel, gInt2, gInt2C, gAdd, gMulX_int, gIx, gLen, gAbs, gInt, gEq, gIs, gIsNot, dv_dat, dv_lst, dv_al, dvs, own_dat, own_lst, own_bag, own_dcK, own_scr, flat_dat, flat_lst, Res.fin, frzs_nil, frzs_cons, frz_dat, intT_int, outs, als, argsOf, putArgs, fCall, eqv_int, shp_int, shp_none, shp_bool, noOwn, ownAt, sizeLine_eq, fIter, itemsOf, fRange1, fRange2, eqX_int, eqX_str, fEnumA, fFrz, fNever, permOk, perm, fCallK, fCallP, gMax2, gMin2, gMax3, gMin3, fPar2, fMulti, putM, fAsgG, fLc, c1__law_is_led_right, q, o]
theorem ord_p {B B1 : MD} (o : B.own = true) (o1 : B1.own = true) {ll rr : List PyData} {n k : Nat} {x : PyData} (hl : ll.length = n) (e1 : F__law_draw [B, .dat (.int n)] = some (.dat (.int k), [some B1, none])) (ip : ixPop n k = some k) (xk : ll[k]? = some x) (a b c d e : Option MD) :
    fPopAt 6 (fCall F__law_draw (fACons (fVar 0) (fACons (fB gLen false (fACons (fVar 6) fANil)) fANil))) [some B, a, b, c, d, e, some (.lst ll), some (.lst rr), none, none, none, none, none] = some (.md (.dat x), [some B1, a, b, c, d, e, some (.lst (ll.eraseIdx k)), some (.lst rr), none, none, none, none, none]) := by
  subst hl
  have h0 : (fCall F__law_draw (fACons (fVar 0) (fACons (fB gLen false (fACons (fVar 6) fANil)) fANil))) [some B, a, b, c, d, e, some (.lst ll), some (.lst rr), none, none, none, none, none] = some (.md (.dat (.int k)), [some B1, a, b, c, d, e, some (.lst ll), some (.lst rr), none, none, none, none, none]) := by
    simp [fnOf, fSeq, fNil, fSet, fRet, fDrop, fIf, fFgt, fgtO, fgt, fFor, fIfE, fT, fTru, truD, fAnd, fOr, fNot, fAndV, fOrV, fNotV, fOp2, fVar, fC, fB, fACons, fANil, fTup, fLst, fNeg, gRel, gInt2, gInt2C, gAdd, gMulX_int, gIx, gLen, gAbs, gInt, gEq, gIs, gIsNot, dv_dat, dv_lst, dv_al, dvs, own_dat, own_lst, own_bag, own_dcK, own_scr, flat_dat, flat_lst, Res.fin, frzs_nil, frzs_cons, frz_dat, intT_int, outs, als, argsOf, putArgs, fCall, eqv_int, shp_int, shp_none, shp_bool, noOwn, ownAt, sizeLine_eq, fIter, itemsOf, fRange1, fRange2, eqX_int, eqX_str, fEnumA, fFrz, fNever, permOk, perm, fCallK, fCallP, gMax2, gMin2, gMax3, gMin3, fPar2, fMulti, putM, fAsgG, fLc, o, o1, e1]
  have s1 : lstS [some B, a, b, c, d, e, some (.lst ll), some (.lst rr), none, none, none, none, none] 6 = some ll := rfl
  have s2 : lstS [some B1, a, b, c, d, e, some (.lst ll), some (.lst rr), none, none, none, none, none] 6 = some ll := rfl
  unfold fPopAt
  generalize hip : ixPop ll.length (k : Int) = z at *
  subst ip
  rw [s1, Option.bind_some, h0, Option.bind_some, intT_int, Option.bind_some]
  dsimp only
  rw [s2, Option.bind_some, hip, Option.bind_some, xk, Option.map_some]
  rfl
theorem ord_b {B B1 : MD} (o : B.own = true) (o1 : B1.own = true) {ll rr : List PyData} {n k : Nat} {x : PyData} (hl : ll.length = n) (e1 : F__law_draw [B, .dat (.int n)] = some (.dat (.int k), [some B1, none])) (ip : ixPop n k = some k) (xk : ll[k]? = some x) (hr : rr.length < 16777216) (a b c d e : Option MD) :
    b2__law_is_led_right [some B, a, b, c, d, e, some (.lst ll), some (.lst rr), none, none, none, none, none] = some (.nx [some B1, a, b, c, d, e, some (.lst (ll.eraseIdx k)), some (.lst (rr ++ [x])), none, none, none, none, none]) := by
  have h := ord_p (rr := rr) o o1 hl e1 ip xk a b c d e
  unfold b2__law_is_led_right
  generalize fPopAt 6 (fCall F__law_draw (fACons (fVar 0) (fACons (fB gLen false (fACons (fVar 6) fANil)) fANil))) = f at h ⊢
  simp [fnOf, fSeq, fNil, fSet, fRet, fDrop, fIf, fFgt, fgtO, fgt, fFor, fIfE, fT, fTru, truD, fAnd, fOr, fNot, fAndV, fOrV, fNotV, fOp2, fVar, fC, fB, fACons, fANil, fTup, fLst, fNeg, gRel, gInt2, gInt2C, gAdd, gMulX_int, gIx, gLen, gAbs, gInt, gEq, gIs, gIsNot, dv_dat, dv_lst, dv_al, dvs, own_dat, own_lst, own_bag, own_dcK, own_scr, flat_dat, flat_lst, Res.fin, frzs_nil, frzs_cons, frz_dat, intT_int, outs, als, argsOf, putArgs, fCall, eqv_int, shp_int, shp_none, shp_bool, noOwn, ownAt, sizeLine_eq, fIter, itemsOf, fRange1, fRange2, eqX_int, eqX_str, fEnumA, fFrz, fNever, permOk, perm, fCallK, fCallP, gMax2, gMin2, gMax3, gMin3, fPar2, fMulti, putM, fAsgG, fLc, fAppend, lstS, h, hr]
theorem ord_step {B : MD} (hB : BagOk B) {l r : List Nat} (hl : l ≠ []) (hn : l.length < 1000) (hr : r.length < 1000) (a b c d e : Option MD) : ∃ (k : Nat) (B' : MD), ∃ hk : k < l.length, BagOk B' ∧ c1__law_is_led_right (Go B a b c d e l r) = some (true, Go B a b c d e l r) ∧ b2__law_is_led_right (Go B a b c d e l r) = some (.nx (Go B' a b c d e (l.eraseIdx k) (r ++ [l[k]]))) := by
  have hp : 0 < l.length := List.length_pos_iff.mpr hl
  obtain ⟨k, B1, e1, hB1, hk⟩ := drawN hB (n := l.length) hp (by omega)
  have q := eqX_natsL true l
  rw [decide_eq_false hl] at q
  have xk : (l.map fun (x : Nat) => PyData.int x)[k]? = some (.int (l[k] : Nat)) := by rw [List.getElem?_map, List.getElem?_eq_getElem hk]; rfl
  have hb := ord_b (rr := r.map fun (x : Nat) => PyData.int x) hB.own hB1.own (List.length_map _) e1 (ixPop_nat hk hn) xk (by rw [List.length_map]; omega) a b c d e
  rw [map_erase] at hb
  refine ⟨k, B1, hk, hB1, ord_c hB.own true q a b c d e, hb.trans ?_⟩
  rw [Go, List.map_append]
  rfl
theorem ord_loop (a b c d e : Option MD) : ∀ (n : Nat) (l r : List Nat) (B : MD) (fuel : Nat), l.length = n → l.length + r.length < 900 → n < fuel → BagOk B → ∃ (o : List Nat) (B' : MD), BagOk B' ∧ o.Perm (r ++ l) ∧ fWhile c1__law_is_led_right b2__law_is_led_right fuel (Go B a b c d e l r) = some (.nx (Go B' a b c d e [] o)) := by
  intro n
  induction n with
  | zero =>
    intro l r B fuel hn hs hf hB
    obtain ⟨fuel, rfl⟩ : ∃ k, fuel = k + 1 := ⟨fuel - 1, by omega⟩
    have : l = [] := List.length_eq_zero_iff.mp hn
    subst this
    refine ⟨r, B, hB, by simp, ?_⟩
    have q := eqX_natsL true []
    exact fWhile_stop (ord_c hB.own false q a b c d e)
  | succ n ih =>
    intro l r B fuel hn hs hf hB
    obtain ⟨fuel, rfl⟩ : ∃ k, fuel = k + 1 := ⟨fuel - 1, by omega⟩
    have hl : l ≠ [] := by rintro rfl; simp at hn
    obtain ⟨k, B1, hk, hB1, h1, h2⟩ := ord_step hB hl (by omega) (by omega) a b c d e (r := r)
    have hlen : (l.eraseIdx k).length = n := by rw [List.length_eraseIdx, if_pos hk]; omega
    obtain ⟨o, B2, hB2, ho, e2⟩ := ih (l.eraseIdx k) (r ++ [l[k]]) B1 fuel hlen (by simp; omega) (by omega) hB1
    refine ⟨o, B2, hB2, ho.trans ?_, by rw [fWhile_step h1 h2, e2]⟩
    rw [List.append_assoc]
    refine List.Perm.append_left r ?_
    have e : l.eraseIdx k = l.take k ++ l.drop (k + 1) := List.eraseIdx_eq_take_drop_succ l k
    have e' : l = l.take k ++ l[k] :: l.drop (k + 1) := by
      conv => lhs; rw [← List.take_append_drop k l, List.drop_eq_getElem_cons hk]
    rw [e]
    show (l[k] :: (l.take k ++ l.drop (k + 1))).Perm l
    conv => rhs; rw [e']
    exact List.perm_middle.symm
end Lw

end

/-! K14p: led sheets told, great sheets, the whole law -/
noncomputable section
namespace Lw
open PySem PySem.Spec PyProof.Rows L2 Fx
open Ms (Bd Fr low num lcmL Low S)

def Wl0 : FS := (fAsgG (fVar 1) (gTA 2 (gsCons (gN 4) (gsCons (gN 5) gsNil))))
def Wl1 : FS := (fMulti 4 [6, 7] (fACons (fListR1 true (fB gLen false (fACons (fVar 4) fANil))) (fACons (fLst true fANil) fANil)))
def Wl2 : FS := (fWhile c1__law_is_led_right b2__law_is_led_right FUEL)
def Wl3 : FS := (fFrz 7 (fSeq (fSet 4 8 (fTup (fACons (fB gToT false (fACons (fLc false (fIter (fVar 7)) (gN 11) tYesF e5__law_is_led_right [11]) fANil)) (fACons (fB gToT false (fACons (fLc false (fIter (fVar 7)) (gN 11) tYesF e4__law_is_led_right [11]) fANil)) fANil)))) (fSeq (fPar2 4 9 10 (fCall F__law_due (fACons (fCall F__law_plain (fACons (fVar 8) fANil)) fANil)) (fCall F__law_paths (fACons (fCall F__law_plain (fACons (fVar 1) fANil)) (fACons (fVar 3) fANil)))) (fSeq (fIf (fT (fOp2 (gEqX true) false (fVar 9) (fLst false (fACons (fOp2 gIx false (fVar 2) (fC (.int 0))) (fACons (fB gToT false (fACons (fLc false (fIter (fVar 7)) (gN 11) tYesF e6__law_is_led_right [11]) fANil)) (fACons (fOp2 gIx false (fVar 2) (fC (.int 2))) fANil)))))) (fRet 4 true (fC (.bool false))) fNil) (fRet 4 true (fAndV (fCall F__law_are_told (fACons (fVar 8) (fACons (fVar 9) (fACons (fC (.bool true)) fANil)))) (fCall F__law_are_paths_told (fACons (fVar 8) (fACons (fVar 10) (fACons (fLst false (fACons (fVar 3) fANil)) (fACons (fC (.bool false)) fANil)))))))))))
theorem Wl_is : F__law_is_led_right = fnOf 4 13 (fSeq Wl0 (fSeq Wl1 (fSeq Wl2 Wl3))) := rfl

def Wm0 : FS := (fSet 4 8 (fTup (fACons (fB gToT false (fACons (fLc false (fIter (fVar 7)) (gN 11) tYesF e5__law_is_led_right [11]) fANil)) (fACons (fB gToT false (fACons (fLc false (fIter (fVar 7)) (gN 11) tYesF e4__law_is_led_right [11]) fANil)) fANil))))
def Wm1 : FS := (fPar2 4 9 10 (fCall F__law_due (fACons (fCall F__law_plain (fACons (fVar 8) fANil)) fANil)) (fCall F__law_paths (fACons (fCall F__law_plain (fACons (fVar 1) fANil)) (fACons (fVar 3) fANil))))
def Wm2 : FS := (fIf (fT (fOp2 (gEqX true) false (fVar 9) (fLst false (fACons (fOp2 gIx false (fVar 2) (fC (.int 0))) (fACons (fB gToT false (fACons (fLc false (fIter (fVar 7)) (gN 11) tYesF e6__law_is_led_right [11]) fANil)) (fACons (fOp2 gIx false (fVar 2) (fC (.int 2))) fANil)))))) (fRet 4 true (fC (.bool false))) fNil)
def Wm3 : FS := (fRet 4 true (fAndV (fCall F__law_are_told (fACons (fVar 8) (fACons (fVar 9) (fACons (fC (.bool true)) fANil)))) (fCall F__law_are_paths_told (fACons (fVar 8) (fACons (fVar 10) (fACons (fLst false (fACons (fVar 3) fANil)) (fACons (fC (.bool false)) fANil)))))))
theorem Wm_is : Wl3 = fFrz 7 (fSeq Wm0 (fSeq Wm1 (fSeq Wm2 Wm3))) := rfl
theorem led_loops {m : Nat} {W : List Fr} {T : List (List Fr)} (h : Sh m W T) {o : List Nat} (ho : o.Perm (List.range m)) (B l8 l9 l10 : Option MD) (s u v : PyData) (l6 : Option MD) :
    loopL (gN 11) tYesF e5__law_is_led_right [11] (o.map fun (x : Nat) => PyData.int x) [] [B, some (.dat s), some (.dat u), some (.dat v), some (.dat (frsD W)), some (.dat (tblD T)), l6, some (.dat (.list (o.map fun (x : Nat) => .int x))), l8, l9, l10, none, none] =
      some ((ledW W o).map frD, [B, some (.dat s), some (.dat u), some (.dat v), some (.dat (frsD W)), some (.dat (tblD T)), l6, some (.dat (.list (o.map fun (x : Nat) => .int x))), l8, l9, l10, none, none]) ∧
    loopL (gN 11) tYesF e4__law_is_led_right [11] (o.map fun (x : Nat) => PyData.int x) [] [B, some (.dat s), some (.dat u), some (.dat v), some (.dat (frsD W)), some (.dat (tblD T)), l6, some (.dat (.list (o.map fun (x : Nat) => .int x))), l8, l9, l10, none, none] =
      some ((ledT T o).map frsD, [B, some (.dat s), some (.dat u), some (.dat v), some (.dat (frsD W)), some (.dat (tblD T)), l6, some (.dat (.list (o.map fun (x : Nat) => .int x))), l8, l9, l10, none, none]) := by
  have h8 := h.m8
  have hl := led_len ho
  constructor
  · have := loopL_map (acc := []) (g := fun (x : Nat) => PyData.int x) (f := fun i => frD (W.getD i (0, 1))) (l := o) (tg := gN 11) (tt := tYesF) (fe := e5__law_is_led_right) (own := [11]) (Γ := [B, some (.dat s), some (.dat u), some (.dat v), some (.dat (frsD W)), some (.dat (tblD T)), l6, some (.dat (.list (o.map fun (x : Nat) => .int x))), l8, l9, l10, none, none]) (by rw [sizeLine_eq, hl]; simp; omega) fun i hi => by
      have hi := (per_mem ho).mp hi
      have hiw : i < W.length := by rw [h.lw]; exact hi
      have x : atI (W.map frD) (i : Int) = some (frD (W.getD i (0, 1))) := by
        refine atI_nat ?_
        rw [List.getElem?_map, List.getElem?_eq_getElem hiw, List.getD_eq_getElem?_getD, List.getElem?_eq_getElem hiw]; rfl
      simp only [frsD]
      generalize W.map frD = wd at *
      generalize frD (W.getD i (0, 1)) = q at *
      generalize tblD T = tb at *
      generalize (o.map fun (x : Nat) => PyData.int x) = od at *
      simp [fnOf, fSeq, fNil, fSet, fRet, fDrop, fIf, fFgt, fgtO, fgt, fFor, fIfE, fT, fTru, truD, fAnd, fOr, fNot, fAndV, fOrV, fNotV, fOp2, fVar, fC, fB, fACons, fANil, fTup, fLst, fNeg, gRel, gInt2, gInt2C, gAdd, gMulX_int, gIx, gLen, gAbs, gInt, gEq, gIs, gIsNot, dv_dat, dv_lst, dv_al, dvs, own_dat, own_lst, own_bag, own_dcK, own_scr, flat_dat, flat_lst, Res.fin, frzs_nil, frzs_cons, frz_dat, intT_int, outs, als, argsOf, putArgs, fCall, eqv_int, shp_int, shp_none, shp_bool, noOwn, ownAt, sizeLine_eq, fIter, itemsOf, fRange1, fRange2, eqX_int, eqX_str, fEnumA, fFrz, fNever, permOk, perm, fCallK, fCallP, gMax2, gMin2, gMax3, gMin3, fPar2, fMulti, putM, fAsgG, fLc, lcStep, lsStep, tYesF, gN, gT, gsCons, gsNil, e5__law_is_led_right, x]
    rw [this, ledW, List.map_map]
    rfl
  · have := loopL_map (acc := []) (g := fun (x : Nat) => PyData.int x) (f := fun i => PyData.tuple (o.map fun j => frD (at2F T i j))) (l := o) (tg := gN 11) (tt := tYesF) (fe := e4__law_is_led_right) (own := [11]) (Γ := [B, some (.dat s), some (.dat u), some (.dat v), some (.dat (frsD W)), some (.dat (tblD T)), l6, some (.dat (.list (o.map fun (x : Nat) => .int x))), l8, l9, l10, none, none]) (by rw [sizeLine_eq, hl]; simp; omega) fun i hi => by
      have hi := (per_mem ho).mp hi
      have e2 := loopL_map (acc := []) (g := fun (x : Nat) => PyData.int x) (f := fun j => frD (at2F T i j)) (l := o) (tg := gN 12) (tt := tYesF) (fe := e3__law_is_led_right) (own := [12]) (Γ := [B, some (.dat s), some (.dat u), some (.dat v), some (.dat (frsD W)), some (.dat (tblD T)), l6, some (.dat (.list (o.map fun (x : Nat) => .int x))), l8, l9, l10, some (.dat (.int i)), none]) (by rw [sizeLine_eq, hl]; simp; omega) fun j hj => by
        have hj := (per_mem ho).mp hj
        obtain ⟨x1, x2⟩ := tbl_at (P := fun _ => True) ⟨h.lt, h.lr, fun _ _ _ _ => trivial⟩ hi hj
        simp only [tblD]
        generalize T.map frsD = td at *
        generalize frsD W = wd at *
        generalize frD (at2F T i j) = q at *
        generalize (T.getD i []).map frD = rr at *
        generalize (o.map fun (x : Nat) => PyData.int x) = od at *
        simp [fnOf, fSeq, fNil, fSet, fRet, fDrop, fIf, fFgt, fgtO, fgt, fFor, fIfE, fT, fTru, truD, fAnd, fOr, fNot, fAndV, fOrV, fNotV, fOp2, fVar, fC, fB, fACons, fANil, fTup, fLst, fNeg, gRel, gInt2, gInt2C, gAdd, gMulX_int, gIx, gLen, gAbs, gInt, gEq, gIs, gIsNot, dv_dat, dv_lst, dv_al, dvs, own_dat, own_lst, own_bag, own_dcK, own_scr, flat_dat, flat_lst, Res.fin, frzs_nil, frzs_cons, frz_dat, intT_int, outs, als, argsOf, putArgs, fCall, eqv_int, shp_int, shp_none, shp_bool, noOwn, ownAt, sizeLine_eq, fIter, itemsOf, fRange1, fRange2, eqX_int, eqX_str, fEnumA, fFrz, fNever, permOk, perm, fCallK, fCallP, gMax2, gMin2, gMax3, gMin3, fPar2, fMulti, putM, fAsgG, fLc, lcStep, lsStep, tYesF, gN, gT, gsCons, gsNil, e3__law_is_led_right, x1, x2]
      simp only [List.nil_append] at e2
      generalize (o.map fun j => frD (at2F T i j)) = z at *
      generalize tblD T = tb at *
      generalize frsD W = wd at *
      generalize (o.map fun (x : Nat) => PyData.int x) = od at *
      simp [fnOf, fSeq, fNil, fSet, fRet, fDrop, fIf, fFgt, fgtO, fgt, fFor, fIfE, fT, fTru, truD, fAnd, fOr, fNot, fAndV, fOrV, fNotV, fOp2, fVar, fC, fB, fACons, fANil, fTup, fLst, fNeg, gRel, gInt2, gInt2C, gAdd, gMulX_int, gIx, gLen, gAbs, gInt, gEq, gIs, gIsNot, dv_dat, dv_lst, dv_al, dvs, own_dat, own_lst, own_bag, own_dcK, own_scr, flat_dat, flat_lst, Res.fin, frzs_nil, frzs_cons, frz_dat, intT_int, outs, als, argsOf, putArgs, fCall, eqv_int, shp_int, shp_none, shp_bool, noOwn, ownAt, sizeLine_eq, fIter, itemsOf, fRange1, fRange2, eqX_int, eqX_str, fEnumA, fFrz, fNever, permOk, perm, fCallK, fCallP, gMax2, gMin2, gMax3, gMin3, fPar2, fMulti, putM, fAsgG, fLc, lcStep, lsStep, tYesF, gN, gT, gsCons, gsNil, e4__law_is_led_right, e2, gToT]
    rw [this]
    simp [ledT, frsD, Function.comp_def]
theorem led_ok {m : Nat} {W : List Fr} {T : List (List Fr)} (h : Vd m W T) {n : Nat} (n1 : 1 ≤ n) (hn : n ≤ 12) {B : MD} (hB : BagOk B) : ∃ B', F__law_is_led_right [B, .dat (shtD W T), .dat (dueD W T), .dat (.int (n : Nat))] = some (.dat (.bool true), [some B', none, none, none]) ∧ BagOk B' := by
  have h8 := h.m8
  obtain ⟨o, B1, hB1, ho, e1⟩ := ord_loop (some (.dat (shtD W T))) (some (.dat (dueD W T))) (some (.dat (.int n))) (some (.dat (frsD W))) (some (.dat (tblD T))) m (List.range m) [] B FUEL (by simp) (by simp; omega) (by unfold FUEL; omega) hB
  rw [List.nil_append] at ho
  have V := led_Vd h ho
  have hl := led_len ho
  have p1 := plain_ok V.toSh
  have d1 := due_ok V.toSh
  have p2 := plain_ok h.toSh
  have q2 := paths_ok h.toSh (n := n) (by omega)
  have td := told_ok V true
  have pt := paths_told V.toSh (W' := W) (T' := T) (n := n) (fun k _ => (led_pt h.toSh ho k).symm) (by omega) [n] (fun i hi => by rw [List.mem_singleton] at hi; omega) false
  have eq := eqX_self true (due_Rp V.toSh) (by decide)
  have ed := led_due h.toSh ho
  have dg : ∀ (B : Option MD) (s v : PyData) (a b c : Option MD) (l6 l8 l9 l10 : Option MD), loopL (gN 11) tYesF e6__law_is_led_right [11] (o.map fun (x : Nat) => PyData.int x) [] [B, some (.dat s), some (.dat (dueD W T)), some (.dat v), a, b, l6, c, l8, l9, l10, none, none] =
      some (o.map (fun i => frD ((dgF W T).getD i (0, 1))), [B, some (.dat s), some (.dat (dueD W T)), some (.dat v), a, b, l6, c, l8, l9, l10, none, none]) := fun B s v a b c l6 l8 l9 l10 => by
    have := loopL_map (acc := []) (g := fun (x : Nat) => PyData.int x) (f := fun i => frD ((dgF W T).getD i (0, 1))) (l := o) (tg := gN 11) (tt := tYesF) (fe := e6__law_is_led_right) (own := [11]) (Γ := [B, some (.dat s), some (.dat (dueD W T)), some (.dat v), a, b, l6, c, l8, l9, l10, none, none]) (by rw [sizeLine_eq, hl]; simp; omega) fun i hi => by
      have hi := (per_mem ho).mp hi
      have hiw : i < (dgF W T).length := by rw [h.toSh.dFlen]; exact hi
      have x : atI ((dgF W T).map frD) (i : Int) = some (frD ((dgF W T).getD i (0, 1))) := by
        refine atI_nat ?_
        rw [List.getElem?_map, List.getElem?_eq_getElem hiw, List.getD_eq_getElem?_getD, List.getElem?_eq_getElem hiw]; rfl
      simp only [dueD, frsD]
      have y1 : ∀ x y z : PyData, atI [x, y, z] 1 = some y := fun _ _ _ => rfl
      generalize (dgF W T).map frD = ff at *
      generalize frD ((dgF W T).getD i (0, 1)) = q at *
      generalize frD (low (mnN W T) (byW W * (byW W * unT T))) = r1 at *
      generalize frD (low (sqN W T) (byW W * byW W * byW W * (byW W * unT T) * (byW W * unT T))) = r2 at *
      simp [fnOf, fSeq, fNil, fSet, fRet, fDrop, fIf, fFgt, fgtO, fgt, fFor, fIfE, fT, fTru, truD, fAnd, fOr, fNot, fAndV, fOrV, fNotV, fOp2, fVar, fC, fB, fACons, fANil, fTup, fLst, fNeg, gRel, gInt2, gInt2C, gAdd, gMulX_int, gIx, gLen, gAbs, gInt, gEq, gIs, gIsNot, dv_dat, dv_lst, dv_al, dvs, own_dat, own_lst, own_bag, own_dcK, own_scr, flat_dat, flat_lst, Res.fin, frzs_nil, frzs_cons, frz_dat, intT_int, outs, als, argsOf, putArgs, fCall, eqv_int, shp_int, shp_none, shp_bool, noOwn, ownAt, sizeLine_eq, fIter, itemsOf, fRange1, fRange2, eqX_int, eqX_str, fEnumA, fFrz, fNever, permOk, perm, fCallK, fCallP, gMax2, gMin2, gMax3, gMin3, fPar2, fMulti, putM, fAsgG, fLc, lcStep, lsStep, tYesF, gN, gT, gsCons, gsNil, e6__law_is_led_right, y1, x]
    rw [this]; rfl
  have ll := fun B s u v l6 l8 l9 l10 => led_loops h.toSh ho B l8 l9 l10 s u v l6
  have l5 := fun B s u v l6 l8 l9 l10 => (ll B s u v l6 l8 l9 l10).1
  have l4 := fun B s u v l6 l8 l9 l10 => (ll B s u v l6 l8 l9 l10).2
  clear ll
  refine ⟨B1, ?_, hB1⟩
  rw [Wl_is, Wm_is]
  have w0 : Wl0 [some B, some (.dat (shtD W T)), some (.dat (dueD W T)), some (.dat (.int n)), none, none, none, none, none, none, none, none, none] = some (.nx [some B, some (.dat (shtD W T)), some (.dat (dueD W T)), some (.dat (.int n)), some (.dat (frsD W)), some (.dat (tblD T)), none, none, none, none, none, none, none]) := by
    simp only [shtD]
    generalize dueD W T = du at *
    generalize tblD T = tb at *
    generalize frsD W = wd at *
    simp [fnOf, fSeq, fNil, fSet, fRet, fDrop, fIf, fFgt, fgtO, fgt, fFor, fIfE, fT, fTru, truD, fAnd, fOr, fNot, fAndV, fOrV, fNotV, fOp2, fVar, fC, fB, fACons, fANil, fTup, fLst, fNeg, gRel, gInt2, gInt2C, gAdd, gMulX_int, gIx, gLen, gAbs, gInt, gEq, gIs, gIsNot, dv_dat, dv_lst, dv_al, dvs, own_dat, own_lst, own_bag, own_dcK, own_scr, flat_dat, flat_lst, Res.fin, frzs_nil, frzs_cons, frz_dat, intT_int, outs, als, argsOf, putArgs, fCall, eqv_int, shp_int, shp_none, shp_bool, noOwn, ownAt, sizeLine_eq, fIter, itemsOf, fRange1, fRange2, eqX_int, eqX_str, fEnumA, fFrz, fNever, permOk, perm, fCallK, fCallP, gMax2, gMin2, gMax3, gMin3, fPar2, fMulti, putM, fAsgG, fLc, Wl0, gTA, gsCons, gsNil, gN]
  have w1 : Wl1 [some B, some (.dat (shtD W T)), some (.dat (dueD W T)), some (.dat (.int n)), some (.dat (frsD W)), some (.dat (tblD T)), none, none, none, none, none, none, none] = some (.nx (Go B (some (.dat (shtD W T))) (some (.dat (dueD W T))) (some (.dat (.int n))) (some (.dat (frsD W))) (some (.dat (tblD T))) (List.range m) [])) := by
    have r1 := rgA_nat (p := m) (by omega)
    have hw : (W.map frD).length = m := by rw [List.length_map, h.lw]
    simp only [Go, List.map_nil, frsD]
    generalize (List.range m).map (fun (x : Nat) => PyData.int x) = rr at *
    generalize W.map frD = wd at *
    generalize shtD W T = sh at *
    generalize dueD W T = du at *
    generalize tblD T = tb at *
    simp [fnOf, fSeq, fNil, fSet, fRet, fDrop, fIf, fFgt, fgtO, fgt, fFor, fIfE, fT, fTru, truD, fAnd, fOr, fNot, fAndV, fOrV, fNotV, fOp2, fVar, fC, fB, fACons, fANil, fTup, fLst, fNeg, gRel, gInt2, gInt2C, gAdd, gMulX_int, gIx, gLen, gAbs, gInt, gEq, gIs, gIsNot, dv_dat, dv_lst, dv_al, dvs, own_dat, own_lst, own_bag, own_dcK, own_scr, flat_dat, flat_lst, Res.fin, frzs_nil, frzs_cons, frz_dat, intT_int, outs, als, argsOf, putArgs, fCall, eqv_int, shp_int, shp_none, shp_bool, noOwn, ownAt, sizeLine_eq, fIter, itemsOf, fRange1, fRange2, eqX_int, eqX_str, fEnumA, fFrz, fNever, permOk, perm, fCallK, fCallP, gMax2, gMin2, gMax3, gMin3, fPar2, fMulti, putM, fAsgG, fLc, Wl1, fListR1, r1, hw, hB.own]
  have w2 : Wl2 (Go B (some (.dat (shtD W T))) (some (.dat (dueD W T))) (some (.dat (.int n))) (some (.dat (frsD W))) (some (.dat (tblD T))) (List.range m) []) = _ := e1
  show (Option.bind (fSeq Wl0 _ [some B, some (.dat (shtD W T)), some (.dat (dueD W T)), some (.dat (.int n)), none, none, none, none, none, none, none, none, none]) _) = _
  rw [seq_nx w0, seq_nx w1, seq_nx w2]
  have v0 : Wm0 [some B1, some (.dat (shtD W T)), some (.dat (dueD W T)), some (.dat (.int n)), some (.dat (frsD W)), some (.dat (tblD T)), some (.lst []), some (.dat (.list (o.map fun (x : Nat) => .int x))), none, none, none, none, none] = some (.nx [some B1, some (.dat (shtD W T)), some (.dat (dueD W T)), some (.dat (.int n)), some (.dat (frsD W)), some (.dat (tblD T)), some (.lst []), some (.dat (.list (o.map fun (x : Nat) => .int x))), some (.dat (shtD (ledW W o) (ledT T o))), none, none, none, none]) := by
    have ee : shtD (ledW W o) (ledT T o) = .tuple [.tuple ((ledW W o).map frD), .tuple ((ledT T o).map frsD)] := rfl
    rw [ee]
    generalize (ledW W o).map frD = lw at *
    generalize (ledT T o).map frsD = lt at *
    generalize shtD W T = sh at *
    generalize dueD W T = du at *
    generalize tblD T = tb at *
    generalize frsD W = wd at *
    generalize (o.map fun (x : Nat) => PyData.int x) = od at *
    simp [fnOf, fSeq, fNil, fSet, fRet, fDrop, fIf, fFgt, fgtO, fgt, fFor, fIfE, fT, fTru, truD, fAnd, fOr, fNot, fAndV, fOrV, fNotV, fOp2, fVar, fC, fB, fACons, fANil, fTup, fLst, fNeg, gRel, gInt2, gInt2C, gAdd, gMulX_int, gIx, gLen, gAbs, gInt, gEq, gIs, gIsNot, dv_dat, dv_lst, dv_al, dvs, own_dat, own_lst, own_bag, own_dcK, own_scr, flat_dat, flat_lst, Res.fin, frzs_nil, frzs_cons, frz_dat, intT_int, outs, als, argsOf, putArgs, fCall, eqv_int, shp_int, shp_none, shp_bool, noOwn, ownAt, sizeLine_eq, fIter, itemsOf, fRange1, fRange2, eqX_int, eqX_str, fEnumA, fFrz, fNever, permOk, perm, fCallK, fCallP, gMax2, gMin2, gMax3, gMin3, fPar2, fMulti, putM, fAsgG, fLc, Wm0, l5, l4, gToT, hB1.own]
  have v1 : Wm1 [some B1, some (.dat (shtD W T)), some (.dat (dueD W T)), some (.dat (.int n)), some (.dat (frsD W)), some (.dat (tblD T)), some (.lst []), some (.dat (.list (o.map fun (x : Nat) => .int x))), some (.dat (shtD (ledW W o) (ledT T o))), none, none, none, none] = some (.nx [some B1, some (.dat (shtD W T)), some (.dat (dueD W T)), some (.dat (.int n)), some (.dat (frsD W)), some (.dat (tblD T)), some (.lst []), some (.dat (.list (o.map fun (x : Nat) => .int x))), some (.dat (shtD (ledW W o) (ledT T o))), some (.dat (dueD (ledW W o) (ledT T o))), some (.dat (psD W T n)), none, none]) := by
    generalize shtD (ledW W o) (ledT T o) = sl at *
    generalize dueD (ledW W o) (ledT T o) = dl at *
    generalize plD (ledW W o) (ledT T o) = pl at *
    generalize psD W T n = ps at *
    generalize plD W T = pp at *
    generalize shtD W T = sh at *
    generalize dueD W T = du at *
    generalize tblD T = tb at *
    generalize frsD W = wd at *
    generalize (o.map fun (x : Nat) => PyData.int x) = od at *
    simp [fnOf, fSeq, fNil, fSet, fRet, fDrop, fIf, fFgt, fgtO, fgt, fFor, fIfE, fT, fTru, truD, fAnd, fOr, fNot, fAndV, fOrV, fNotV, fOp2, fVar, fC, fB, fACons, fANil, fTup, fLst, fNeg, gRel, gInt2, gInt2C, gAdd, gMulX_int, gIx, gLen, gAbs, gInt, gEq, gIs, gIsNot, dv_dat, dv_lst, dv_al, dvs, own_dat, own_lst, own_bag, own_dcK, own_scr, flat_dat, flat_lst, Res.fin, frzs_nil, frzs_cons, frz_dat, intT_int, outs, als, argsOf, putArgs, fCall, eqv_int, shp_int, shp_none, shp_bool, noOwn, ownAt, sizeLine_eq, fIter, itemsOf, fRange1, fRange2, eqX_int, eqX_str, fEnumA, fFrz, fNever, permOk, perm, fCallK, fCallP, gMax2, gMin2, gMax3, gMin3, fPar2, fMulti, putM, fAsgG, fLc, Wm1, p1, d1, p2, q2, hB1.own]
  have v2 : Wm2 [some B1, some (.dat (shtD W T)), some (.dat (dueD W T)), some (.dat (.int n)), some (.dat (frsD W)), some (.dat (tblD T)), some (.lst []), some (.dat (.list (o.map fun (x : Nat) => .int x))), some (.dat (shtD (ledW W o) (ledT T o))), some (.dat (dueD (ledW W o) (ledT T o))), some (.dat (psD W T n)), none, none] = some (.nx [some B1, some (.dat (shtD W T)), some (.dat (dueD W T)), some (.dat (.int n)), some (.dat (frsD W)), some (.dat (tblD T)), some (.lst []), some (.dat (.list (o.map fun (x : Nat) => .int x))), some (.dat (shtD (ledW W o) (ledT T o))), some (.dat (dueD (ledW W o) (ledT T o))), some (.dat (psD W T n)), none, none]) := by
    have y0 : ∀ x y z : PyData, atI [x, y, z] 0 = some x := fun _ _ _ => rfl
    have y2 : ∀ x y z : PyData, atI [x, y, z] 2 = some z := fun _ _ _ => rfl
    have dg' := fun B s v a b c l6 l8 l9 l10 => dg B s v a b c l6 l8 l9 l10
    rw [ed] at eq ⊢
    simp only [dueD] at dg' ⊢
    clear dg l5 l4 td pt d1 ed
    generalize (o.map fun i => frD ((dgF W T).getD i (0, 1))) = lo at *
    generalize frsD (dgF W T) = ff at *
    generalize frD (low (mnN W T) (byW W * (byW W * unT T))) = r1 at *
    generalize frD (low (sqN W T) (byW W * byW W * byW W * (byW W * unT T) * (byW W * unT T))) = r2 at *
    generalize shtD (ledW W o) (ledT T o) = sl at *
    generalize psD W T n = ps at *
    generalize shtD W T = sh at *
    generalize tblD T = tb at *
    generalize frsD W = wd at *
    generalize (o.map fun (x : Nat) => PyData.int x) = od at *
    simp [fnOf, fSeq, fNil, fSet, fRet, fDrop, fIf, fFgt, fgtO, fgt, fFor, fIfE, fT, fTru, truD, fAnd, fOr, fNot, fAndV, fOrV, fNotV, fOp2, fVar, fC, fB, fACons, fANil, fTup, fLst, fNeg, gRel, gInt2, gInt2C, gAdd, gMulX_int, gIx, gLen, gAbs, gInt, gEq, gIs, gIsNot, dv_dat, dv_lst, dv_al, dvs, own_dat, own_lst, own_bag, own_dcK, own_scr, flat_dat, flat_lst, Res.fin, frzs_nil, frzs_cons, frz_dat, intT_int, outs, als, argsOf, putArgs, fCall, eqv_int, shp_int, shp_none, shp_bool, noOwn, ownAt, sizeLine_eq, fIter, itemsOf, fRange1, fRange2, eqX_int, eqX_str, fEnumA, fFrz, fNever, permOk, perm, fCallK, fCallP, gMax2, gMin2, gMax3, gMin3, fPar2, fMulti, putM, fAsgG, fLc, Wm2, y0, y2, dg', eq, hB1.own, gToT]
  show (Option.bind (fFrz 7 _ [some B1, some (.dat (shtD W T)), some (.dat (dueD W T)), some (.dat (.int n)), some (.dat (frsD W)), some (.dat (tblD T)), some (.lst []), some (.lst (o.map fun (x : Nat) => .int x)), none, none, none, none, none]) _) = _
  have fz : ∀ (f : FS), fFrz 7 f [some B1, some (.dat (shtD W T)), some (.dat (dueD W T)), some (.dat (.int n)), some (.dat (frsD W)), some (.dat (tblD T)), some (.lst []), some (.lst (o.map fun (x : Nat) => .int x)), none, none, none, none, none] = f [some B1, some (.dat (shtD W T)), some (.dat (dueD W T)), some (.dat (.int n)), some (.dat (frsD W)), some (.dat (tblD T)), some (.lst []), some (.dat (.list (o.map fun (x : Nat) => .int x))), none, none, none, none, none] := fun f => by
    generalize shtD W T = sh at *
    generalize dueD W T = du at *
    generalize tblD T = tb at *
    generalize frsD W = wd at *
    generalize (o.map fun (x : Nat) => PyData.int x) = od at *
    simp [fnOf, fSeq, fNil, fSet, fRet, fDrop, fIf, fFgt, fgtO, fgt, fFor, fIfE, fT, fTru, truD, fAnd, fOr, fNot, fAndV, fOrV, fNotV, fOp2, fVar, fC, fB, fACons, fANil, fTup, fLst, fNeg, gRel, gInt2, gInt2C, gAdd, gMulX_int, gIx, gLen, gAbs, gInt, gEq, gIs, gIsNot, dv_dat, dv_lst, dv_al, dvs, own_dat, own_lst, own_bag, own_dcK, own_scr, flat_dat, flat_lst, Res.fin, frzs_nil, frzs_cons, frz_dat, intT_int, outs, als, argsOf, putArgs, fCall, eqv_int, shp_int, shp_none, shp_bool, noOwn, ownAt, sizeLine_eq, fIter, itemsOf, fRange1, fRange2, eqX_int, eqX_str, fEnumA, fFrz, fNever, permOk, perm, fCallK, fCallP, gMax2, gMin2, gMax3, gMin3, fPar2, fMulti, putM, fAsgG, fLc, hB1.own]
  rw [fz, seq_nx v0, seq_nx v1, seq_nx v2]
  clear v0 v1 v2 w0 w1 w2 e1 fz l4 l5 dg eq ed p1 d1 p2 q2
  simp only [List.map_cons, List.map_nil] at pt
  generalize shtD (ledW W o) (ledT T o) = sl at *
  generalize dueD (ledW W o) (ledT T o) = dl at *
  generalize psD W T n = ps at *
  generalize shtD W T = sh at *
  generalize dueD W T = du at *
  generalize tblD T = tb at *
  generalize frsD W = wd at *
  generalize (o.map fun (x : Nat) => PyData.int x) = od at *
  simp [fnOf, fSeq, fNil, fSet, fRet, fDrop, fIf, fFgt, fgtO, fgt, fFor, fIfE, fT, fTru, truD, fAnd, fOr, fNot, fAndV, fOrV, fNotV, fOp2, fVar, fC, fB, fACons, fANil, fTup, fLst, fNeg, gRel, gInt2, gInt2C, gAdd, gMulX_int, gIx, gLen, gAbs, gInt, gEq, gIs, gIsNot, dv_dat, dv_lst, dv_al, dvs, own_dat, own_lst, own_bag, own_dcK, own_scr, flat_dat, flat_lst, Res.fin, frzs_nil, frzs_cons, frz_dat, intT_int, outs, als, argsOf, putArgs, fCall, eqv_int, shp_int, shp_none, shp_bool, noOwn, ownAt, sizeLine_eq, fIter, itemsOf, fRange1, fRange2, eqX_int, eqX_str, fEnumA, fFrz, fNever, permOk, perm, fCallK, fCallP, gMax2, gMin2, gMax3, gMin3, fPar2, fMulti, putM, fAsgG, fLc, Wm3, td, pt, hB1.own]
end Lw

end

/-! K14q: the whole law -/
noncomputable section
namespace Lw
open PySem PySem.Spec PyProof.Rows L2 Fx
open Ms (Bd Fr low num lcmL Low S)

def Wg0 : FS := (fSet 1 1 (fCall F__law_own_sheet (fACons (fVar 0) (fACons (fCall F__law_pick (fACons (fVar 0) (fACons (fLst false (fACons (fC (.int 8)) (fACons (fC (.int 8)) (fACons (fC (.int 8)) (fACons (fC (.int 7)) (fACons (fC (.int 6)) (fACons (fC (.int 5)) fANil))))))) fANil))) fANil))))
def Wg1 : FS := (fPar2 1 2 3 (fCall F__law_plain (fACons (fVar 1) fANil)) (fCall F__law_pick (fACons (fVar 0) (fACons (fLst false (fACons (fC (.int 12)) (fACons (fC (.int 12)) (fACons (fC (.int 12)) (fACons (fOp2 gAdd false (fC (.int 4)) (fCall F__law_draw (fACons (fVar 0) (fACons (fC (.int 9)) fANil)))) fANil))))) fANil))))
def Wg2 : FS := (fIf (fNot (fTru (fCall F__law_are_told (fACons (fVar 1) (fACons (fCall F__law_due (fACons (fVar 2) fANil)) (fACons (fC (.bool false)) fANil)))))) (fRet 1 true (fC (.bool false))) fNil)
def Wg3 : FS := (fRet 1 true (fCall F__law_are_paths_told (fACons (fVar 1) (fACons (fCall F__law_paths (fACons (fVar 2) (fACons (fC (.int 12)) fANil))) (fACons (fLst false (fACons (fC (.int 2)) (fACons (fC (.int 3)) (fACons (fVar 3) fANil)))) (fACons (fC (.bool true)) fANil))))))
theorem Wg_is : F__law_is_great_right = fnOf 1 4 (fSeq Wg0 (fSeq Wg1 (fSeq Wg2 Wg3))) := rfl
def Wz0 : FS := (fSet 1 1 (fCall F__law_own_bag (fACons (fVar 0) fANil)))
def Wz1 : FS := (fIf (fT (fOp2 (gEqX false) false (fCall F__law_draw (fACons (fVar 1) (fACons (fC (.int 4)) fANil))) (fC (.int 0)))) (fRet 1 true (fAndV (fCall F__law_is_great_right (fACons (fVar 1) fANil)) (fCall F__law_is_constant_right (fACons (fVar 1) fANil)))) fNil)
def Wz2 : FS := (fPar2 1 2 3 (fCall F__law_own_sheet (fACons (fVar 1) (fACons (fCall F__law_pick (fACons (fVar 1) (fACons (fLst false (fACons (fC (.int 1)) (fACons (fC (.int 2)) (fACons (fC (.int 2)) (fACons (fC (.int 3)) (fACons (fC (.int 3)) (fACons (fC (.int 3)) (fACons (fC (.int 4)) (fACons (fC (.int 4)) fANil))))))))) fANil))) fANil))) (fOp2 gAdd false (fC (.int 4)) (fCall F__law_draw (fACons (fVar 1) (fACons (fC (.int 9)) fANil)))))
def Wz3 : FS := (fSet 1 4 (fCall F__law_plain (fACons (fVar 2) fANil)))
def Wz4 : FS := (fPar2 1 5 6 (fCall F__law_due (fACons (fVar 4) fANil)) (fCall F__law_paths (fACons (fVar 4) (fACons (fC (.int 12)) fANil))))
def Wz5 : FS := (fIf (fOr (fNot (fTru (fCall F__law_are_told (fACons (fVar 2) (fACons (fVar 5) (fACons (fC (.bool false)) fANil)))))) (fNot (fTru (fCall F__law_are_told (fACons (fVar 2) (fACons (fVar 5) (fACons (fC (.bool true)) fANil))))))) (fRet 1 true (fC (.bool false))) fNil)
def Wz6 : FS := (fIf (fNot (fTru (fCall F__law_are_paths_told (fACons (fVar 2) (fACons (fVar 6) (fACons (fLst false (fACons (fC (.int 1)) (fACons (fC (.int 2)) (fACons (fC (.int 3)) (fACons (fVar 3) fANil))))) (fACons (fC (.bool true)) fANil))))))) (fRet 1 true (fC (.bool false))) fNil)
def Wz7 : FS := (fIf (fNot (fTru (fCall F__law_are_paths_told (fACons (fVar 2) (fACons (fVar 6) (fACons (fLst false (fACons (fC (.int 12)) (fACons (fOp2 gAdd false (fC (.int 1)) (fCall F__law_draw (fACons (fVar 1) (fACons (fC (.int 12)) fANil)))) (fACons (fC (.int 4)) fANil)))) (fACons (fC (.bool false)) fANil))))))) (fRet 1 true (fC (.bool false))) fNil)
def Wz8 : FS := (fIf (fOr (fNot (fTru (fCall F__law_are_short_right (fACons (fVar 2) (fACons (fVar 5) fANil))))) (fNot (fTru (fCall F__law_is_constant_right (fACons (fVar 1) fANil))))) (fRet 1 true (fC (.bool false))) fNil)
def Wz9 : FS := (fRet 1 true (fAndV (fCall F__law_is_led_right (fACons (fVar 1) (fACons (fVar 2) (fACons (fVar 5) (fACons (fOp2 gAdd false (fC (.int 1)) (fCall F__law_draw (fACons (fVar 1) (fACons (fC (.int 6)) fANil)))) fANil))))) (fCall F__law_are_told (fACons (fVar 2) (fACons (fVar 5) (fACons (fC (.bool false)) fANil))))))
theorem Wz_is : F_law = fnOf 1 7 (fSeq Wz0 (fSeq Wz1 (fSeq Wz2 (fSeq Wz3 (fSeq Wz4 (fSeq Wz5 (fSeq Wz6 (fSeq Wz7 (fSeq Wz8 Wz9))))))))) := rfl
theorem great_ok {B : MD} (hB : BagOk B) : ∃ B', F__law_is_great_right [B] = some (.dat (.bool true), [some B']) ∧ BagOk B' := by
  obtain ⟨m, B1, e1, hB1, hm⟩ := pickN hB (ns := [8, 8, 8, 7, 6, 5]) (by simp) (by simp)
  simp only [List.mem_cons, List.not_mem_nil, or_false] at hm
  obtain ⟨W, T, B2, e2, hB2, hS⟩ := sheet_ok (m := m) (by omega) (by omega) hB1
  have V := hS.toVd
  have p1 := plain_ok V.toSh
  obtain ⟨v, B3, e3, hB3, hv⟩ := drawN hB2 (n := 9) (by decide) (by decide)
  rw [show ((9 : Nat) : Int) = 9 from rfl] at e3
  obtain ⟨n, B4, e4, hB4, hn⟩ := pickN hB3 (ns := [12, 12, 12, 4 + v]) (by simp) (by simp)
  simp only [List.mem_cons, List.not_mem_nil, or_false] at hn
  have d1 := due_ok V.toSh
  have td := told_ok V false
  have q2 := paths_ok V.toSh (n := 12) (by omega)
  have pt := paths_told V.toSh (W' := W) (T' := T) (n := 12) (fun _ _ => rfl) (by omega) [2, 3, n] (fun i hi => by
    simp only [List.mem_cons, List.not_mem_nil, or_false] at hi
    omega) true
  have e1' : F__law_pick [B, .dat (.list [.int 8, .int 8, .int 8, .int 7, .int 6, .int 5])] = some (.dat (.int m), [some B1, none]) := e1
  have e4' : F__law_pick [B3, .dat (.list [.int 12, .int 12, .int 12, .int (4 + (v : Int))])] = some (.dat (.int n), [some B4, none]) := e4
  have q2' : F__law_paths [.dat (plD W T), .dat (.int 12)] = some (.dat (psD W T 12), [none, none]) := q2
  have pt' : F__law_are_paths_told [.dat (shtD W T), .dat (psD W T 12), .dat (.list [.int 2, .int 3, .int n]), .dat (.bool true)] = some (.dat (.bool true), [none, none, none, none]) := pt
  clear pt q2
  refine ⟨B4, ?_, hB4⟩
  generalize plD W T = pl at *
  generalize shtD W T = sh at *
  generalize dueD W T = du at *
  generalize psD W T 12 = ps at *
  simp [fnOf, fSeq, fNil, fSet, fRet, fDrop, fIf, fFgt, fgtO, fgt, fFor, fIfE, fT, fTru, truD, fAnd, fOr, fNot, fAndV, fOrV, fNotV, fOp2, fVar, fC, fB, fACons, fANil, fTup, fLst, fNeg, gRel, gInt2, gInt2C, gAdd, gMulX_int, gIx, gLen, gAbs, gInt, gEq, gIs, gIsNot, dv_dat, dv_lst, dv_al, dvs, own_dat, own_lst, own_bag, own_dcK, own_scr, flat_dat, flat_lst, Res.fin, frzs_nil, frzs_cons, frz_dat, intT_int, outs, als, argsOf, putArgs, fCall, eqv_int, shp_int, shp_none, shp_bool, noOwn, ownAt, sizeLine_eq, fIter, itemsOf, fRange1, fRange2, eqX_int, eqX_str, fEnumA, fFrz, fNever, permOk, perm, fCallK, fCallP, gMax2, gMin2, gMax3, gMin3, fPar2, fMulti, putM, fAsgG, fLc, F__law_is_great_right, hB.own, hB1.own, hB2.own, hB3.own, hB4.own, e1', e2, e3, e4', p1, d1, td, q2', pt']
theorem law_true (ns : List Int) (hl : ns.length ≤ 63) : ∃ ms', F_law [.scr ns] = some (.dat (.bool true), ms') := by
  obtain ⟨B0, e0, hB0⟩ := own_bag_ok ns hl
  obtain ⟨w, B1, e1, hB1, hw⟩ := drawN hB0 (n := 4) (by decide) (by decide)
  rw [show ((4 : Nat) : Int) = 4 from rfl] at e1
  have w0 : Wz0 [some (.scr ns), none, none, none, none, none, none] = some (.nx [some (.scr ns), some B0, none, none, none, none, none]) := by simp [fnOf, fSeq, fNil, fSet, fRet, fDrop, fIf, fFgt, fgtO, fgt, fFor, fIfE, fT, fTru, truD, fAnd, fOr, fNot, fAndV, fOrV, fNotV, fOp2, fVar, fC, fB, fACons, fANil, fTup, fLst, fNeg, gRel, gInt2, gInt2C, gAdd, gMulX_int, gIx, gLen, gAbs, gInt, gEq, gIs, gIsNot, dv_dat, dv_lst, dv_al, dvs, own_dat, own_lst, own_bag, own_dcK, own_scr, flat_dat, flat_lst, Res.fin, frzs_nil, frzs_cons, frz_dat, intT_int, outs, als, argsOf, putArgs, fCall, eqv_int, shp_int, shp_none, shp_bool, noOwn, ownAt, sizeLine_eq, fIter, itemsOf, fRange1, fRange2, eqX_int, eqX_str, fEnumA, fFrz, fNever, permOk, perm, fCallK, fCallP, gMax2, gMin2, gMax3, gMin3, fPar2, fMulti, putM, fAsgG, fLc, Wz0, e0, hB0.own]
  by_cases q : w = 0
  · subst q
    obtain ⟨B2, g1, hB2⟩ := great_ok hB1
    obtain ⟨B3, g2, hB3⟩ := constant_ok hB2
    refine ⟨[none], ?_⟩
    have w1 : Wz1 [some (.scr ns), some B0, none, none, none, none, none] = some (.rt (.dat (.bool true)) [some (.scr ns), some B3, none, none, none, none, none]) := by simp [fnOf, fSeq, fNil, fSet, fRet, fDrop, fIf, fFgt, fgtO, fgt, fFor, fIfE, fT, fTru, truD, fAnd, fOr, fNot, fAndV, fOrV, fNotV, fOp2, fVar, fC, fB, fACons, fANil, fTup, fLst, fNeg, gRel, gInt2, gInt2C, gAdd, gMulX_int, gIx, gLen, gAbs, gInt, gEq, gIs, gIsNot, dv_dat, dv_lst, dv_al, dvs, own_dat, own_lst, own_bag, own_dcK, own_scr, flat_dat, flat_lst, Res.fin, frzs_nil, frzs_cons, frz_dat, intT_int, outs, als, argsOf, putArgs, fCall, eqv_int, shp_int, shp_none, shp_bool, noOwn, ownAt, sizeLine_eq, fIter, itemsOf, fRange1, fRange2, eqX_int, eqX_str, fEnumA, fFrz, fNever, permOk, perm, fCallK, fCallP, gMax2, gMin2, gMax3, gMin3, fPar2, fMulti, putM, fAsgG, fLc, Wz1, e1, g1, g2, hB0.own, hB1.own, hB2.own, hB3.own]
    rw [Wz_is]
    show (Option.bind (fSeq Wz0 _ [some (.scr ns), none, none, none, none, none, none]) _) = _
    rw [seq_nx w0, seq_rt w1]
    simp [outs, own_scr]
  · have q' : ¬ (w : Int) = 0 := by omega
    have w1 : Wz1 [some (.scr ns), some B0, none, none, none, none, none] = some (.nx [some (.scr ns), some B1, none, none, none, none, none]) := by simp [fnOf, fSeq, fNil, fSet, fRet, fDrop, fIf, fFgt, fgtO, fgt, fFor, fIfE, fT, fTru, truD, fAnd, fOr, fNot, fAndV, fOrV, fNotV, fOp2, fVar, fC, fB, fACons, fANil, fTup, fLst, fNeg, gRel, gInt2, gInt2C, gAdd, gMulX_int, gIx, gLen, gAbs, gInt, gEq, gIs, gIsNot, dv_dat, dv_lst, dv_al, dvs, own_dat, own_lst, own_bag, own_dcK, own_scr, flat_dat, flat_lst, Res.fin, frzs_nil, frzs_cons, frz_dat, intT_int, outs, als, argsOf, putArgs, fCall, eqv_int, shp_int, shp_none, shp_bool, noOwn, ownAt, sizeLine_eq, fIter, itemsOf, fRange1, fRange2, eqX_int, eqX_str, fEnumA, fFrz, fNever, permOk, perm, fCallK, fCallP, gMax2, gMin2, gMax3, gMin3, fPar2, fMulti, putM, fAsgG, fLc, Wz1, e1, q, q', hB0.own, hB1.own]
    obtain ⟨m, B2, e2, hB2, hm⟩ := pickN hB1 (ns := [1, 2, 2, 3, 3, 3, 4, 4]) (by simp) (by simp)
    simp only [List.mem_cons, List.not_mem_nil, or_false] at hm
    obtain ⟨W, T, B3, e3, hB3, hS⟩ := sheet_ok (m := m) (by omega) (by omega) hB2
    have V := hS.toVd
    obtain ⟨v, B4, e4, hB4, hv⟩ := drawN hB3 (n := 9) (by decide) (by decide)
    rw [show ((9 : Nat) : Int) = 9 from rfl] at e4
    have e2' : F__law_pick [B1, .dat (.list [.int 1, .int 2, .int 2, .int 3, .int 3, .int 3, .int 4, .int 4])] = some (.dat (.int m), [some B2, none]) := e2
    have p1 := plain_ok V.toSh
    have d1 := due_ok V.toSh
    have q2 := paths_ok V.toSh (n := 12) (by omega)
    have t1 := told_ok V false
    have t2 := told_ok V true
    have pt := fun (is : List Nat) (h : ∀ i ∈ is, 1 ≤ i ∧ i ≤ 12) (b : Bool) => paths_told V.toSh (W' := W) (T' := T) (n := 12) (fun _ _ => rfl) (by omega) is h b
    have r1 := pt [1, 2, 3, 4 + v] (fun i hi => by
      simp only [List.mem_cons, List.not_mem_nil, or_false] at hi
      omega) true
    obtain ⟨u, B5, e5, hB5, hu⟩ := drawN hB4 (n := 12) (by decide) (by decide)
    rw [show ((12 : Nat) : Int) = 12 from rfl] at e5
    have r2 := pt [12, 1 + u, 4] (fun i hi => by
      simp only [List.mem_cons, List.not_mem_nil, or_false] at hi
      omega) false
    have s1 := short_ok V hS.sym
    obtain ⟨B6, c1, hB6⟩ := constant_ok hB5
    obtain ⟨x, B7, e7, hB7, hx⟩ := drawN hB6 (n := 6) (by decide) (by decide)
    rw [show ((6 : Nat) : Int) = 6 from rfl] at e7
    obtain ⟨B8, l1, hB8⟩ := led_ok V (n := 1 + x) (by omega) (by omega) hB7
    have q2' : F__law_paths [.dat (plD W T), .dat (.int 12)] = some (.dat (psD W T 12), [none, none]) := q2
    have r1' : F__law_are_paths_told [.dat (shtD W T), .dat (psD W T 12), .dat (.list [.int 1, .int 2, .int 3, .int (4 + (v : Int))]), .dat (.bool true)] = some (.dat (.bool true), [none, none, none, none]) := r1
    have r2' : F__law_are_paths_told [.dat (shtD W T), .dat (psD W T 12), .dat (.list [.int 12, .int (1 + (u : Int)), .int 4]), .dat (.bool false)] = some (.dat (.bool true), [none, none, none, none]) := r2
    have l1' : F__law_is_led_right [B7, .dat (shtD W T), .dat (dueD W T), .dat (.int (1 + (x : Int)))] = some (.dat (.bool true), [some B8, none, none, none]) := l1
    clear q2 r1 r2 l1 pt
    refine ⟨[none], ?_⟩
    rw [Wz_is]
    show (Option.bind (fSeq Wz0 _ [some (.scr ns), none, none, none, none, none, none]) _) = _
    rw [seq_nx w0, seq_nx w1]
    generalize plD W T = pl at *
    generalize shtD W T = sh at *
    generalize dueD W T = du at *
    generalize psD W T 12 = ps at *
    have w2 : Wz2 [some (.scr ns), some B1, none, none, none, none, none] = some (.nx [some (.scr ns), some B4, some (.dat sh), some (.dat (.int (4 + (v : Int)))), none, none, none]) := by simp [fnOf, fSeq, fNil, fSet, fRet, fDrop, fIf, fFgt, fgtO, fgt, fFor, fIfE, fT, fTru, truD, fAnd, fOr, fNot, fAndV, fOrV, fNotV, fOp2, fVar, fC, fB, fACons, fANil, fTup, fLst, fNeg, gRel, gInt2, gInt2C, gAdd, gMulX_int, gIx, gLen, gAbs, gInt, gEq, gIs, gIsNot, dv_dat, dv_lst, dv_al, dvs, own_dat, own_lst, own_bag, own_dcK, own_scr, flat_dat, flat_lst, Res.fin, frzs_nil, frzs_cons, frz_dat, intT_int, outs, als, argsOf, putArgs, fCall, eqv_int, shp_int, shp_none, shp_bool, noOwn, ownAt, sizeLine_eq, fIter, itemsOf, fRange1, fRange2, eqX_int, eqX_str, fEnumA, fFrz, fNever, permOk, perm, fCallK, fCallP, gMax2, gMin2, gMax3, gMin3, fPar2, fMulti, putM, fAsgG, fLc, Wz2, e2', e3, e4, hB1.own, hB2.own, hB3.own, hB4.own]
    have w3 : Wz3 [some (.scr ns), some B4, some (.dat sh), some (.dat (.int (4 + (v : Int)))), none, none, none] = some (.nx [some (.scr ns), some B4, some (.dat sh), some (.dat (.int (4 + (v : Int)))), some (.dat pl), none, none]) := by simp [fnOf, fSeq, fNil, fSet, fRet, fDrop, fIf, fFgt, fgtO, fgt, fFor, fIfE, fT, fTru, truD, fAnd, fOr, fNot, fAndV, fOrV, fNotV, fOp2, fVar, fC, fB, fACons, fANil, fTup, fLst, fNeg, gRel, gInt2, gInt2C, gAdd, gMulX_int, gIx, gLen, gAbs, gInt, gEq, gIs, gIsNot, dv_dat, dv_lst, dv_al, dvs, own_dat, own_lst, own_bag, own_dcK, own_scr, flat_dat, flat_lst, Res.fin, frzs_nil, frzs_cons, frz_dat, intT_int, outs, als, argsOf, putArgs, fCall, eqv_int, shp_int, shp_none, shp_bool, noOwn, ownAt, sizeLine_eq, fIter, itemsOf, fRange1, fRange2, eqX_int, eqX_str, fEnumA, fFrz, fNever, permOk, perm, fCallK, fCallP, gMax2, gMin2, gMax3, gMin3, fPar2, fMulti, putM, fAsgG, fLc, Wz3, p1]
    have w4 : Wz4 [some (.scr ns), some B4, some (.dat sh), some (.dat (.int (4 + (v : Int)))), some (.dat pl), none, none] = some (.nx [some (.scr ns), some B4, some (.dat sh), some (.dat (.int (4 + (v : Int)))), some (.dat pl), some (.dat du), some (.dat ps)]) := by simp [fnOf, fSeq, fNil, fSet, fRet, fDrop, fIf, fFgt, fgtO, fgt, fFor, fIfE, fT, fTru, truD, fAnd, fOr, fNot, fAndV, fOrV, fNotV, fOp2, fVar, fC, fB, fACons, fANil, fTup, fLst, fNeg, gRel, gInt2, gInt2C, gAdd, gMulX_int, gIx, gLen, gAbs, gInt, gEq, gIs, gIsNot, dv_dat, dv_lst, dv_al, dvs, own_dat, own_lst, own_bag, own_dcK, own_scr, flat_dat, flat_lst, Res.fin, frzs_nil, frzs_cons, frz_dat, intT_int, outs, als, argsOf, putArgs, fCall, eqv_int, shp_int, shp_none, shp_bool, noOwn, ownAt, sizeLine_eq, fIter, itemsOf, fRange1, fRange2, eqX_int, eqX_str, fEnumA, fFrz, fNever, permOk, perm, fCallK, fCallP, gMax2, gMin2, gMax3, gMin3, fPar2, fMulti, putM, fAsgG, fLc, Wz4, d1, q2']
    have w5 : Wz5 [some (.scr ns), some B4, some (.dat sh), some (.dat (.int (4 + (v : Int)))), some (.dat pl), some (.dat du), some (.dat ps)] = some (.nx [some (.scr ns), some B4, some (.dat sh), some (.dat (.int (4 + (v : Int)))), some (.dat pl), some (.dat du), some (.dat ps)]) := by simp [fnOf, fSeq, fNil, fSet, fRet, fDrop, fIf, fFgt, fgtO, fgt, fFor, fIfE, fT, fTru, truD, fAnd, fOr, fNot, fAndV, fOrV, fNotV, fOp2, fVar, fC, fB, fACons, fANil, fTup, fLst, fNeg, gRel, gInt2, gInt2C, gAdd, gMulX_int, gIx, gLen, gAbs, gInt, gEq, gIs, gIsNot, dv_dat, dv_lst, dv_al, dvs, own_dat, own_lst, own_bag, own_dcK, own_scr, flat_dat, flat_lst, Res.fin, frzs_nil, frzs_cons, frz_dat, intT_int, outs, als, argsOf, putArgs, fCall, eqv_int, shp_int, shp_none, shp_bool, noOwn, ownAt, sizeLine_eq, fIter, itemsOf, fRange1, fRange2, eqX_int, eqX_str, fEnumA, fFrz, fNever, permOk, perm, fCallK, fCallP, gMax2, gMin2, gMax3, gMin3, fPar2, fMulti, putM, fAsgG, fLc, Wz5, t1, t2]
    have w6 : Wz6 [some (.scr ns), some B4, some (.dat sh), some (.dat (.int (4 + (v : Int)))), some (.dat pl), some (.dat du), some (.dat ps)] = some (.nx [some (.scr ns), some B4, some (.dat sh), some (.dat (.int (4 + (v : Int)))), some (.dat pl), some (.dat du), some (.dat ps)]) := by simp [fnOf, fSeq, fNil, fSet, fRet, fDrop, fIf, fFgt, fgtO, fgt, fFor, fIfE, fT, fTru, truD, fAnd, fOr, fNot, fAndV, fOrV, fNotV, fOp2, fVar, fC, fB, fACons, fANil, fTup, fLst, fNeg, gRel, gInt2, gInt2C, gAdd, gMulX_int, gIx, gLen, gAbs, gInt, gEq, gIs, gIsNot, dv_dat, dv_lst, dv_al, dvs, own_dat, own_lst, own_bag, own_dcK, own_scr, flat_dat, flat_lst, Res.fin, frzs_nil, frzs_cons, frz_dat, intT_int, outs, als, argsOf, putArgs, fCall, eqv_int, shp_int, shp_none, shp_bool, noOwn, ownAt, sizeLine_eq, fIter, itemsOf, fRange1, fRange2, eqX_int, eqX_str, fEnumA, fFrz, fNever, permOk, perm, fCallK, fCallP, gMax2, gMin2, gMax3, gMin3, fPar2, fMulti, putM, fAsgG, fLc, Wz6, r1']
    have w7 : Wz7 [some (.scr ns), some B4, some (.dat sh), some (.dat (.int (4 + (v : Int)))), some (.dat pl), some (.dat du), some (.dat ps)] = some (.nx [some (.scr ns), some B5, some (.dat sh), some (.dat (.int (4 + (v : Int)))), some (.dat pl), some (.dat du), some (.dat ps)]) := by simp [fnOf, fSeq, fNil, fSet, fRet, fDrop, fIf, fFgt, fgtO, fgt, fFor, fIfE, fT, fTru, truD, fAnd, fOr, fNot, fAndV, fOrV, fNotV, fOp2, fVar, fC, fB, fACons, fANil, fTup, fLst, fNeg, gRel, gInt2, gInt2C, gAdd, gMulX_int, gIx, gLen, gAbs, gInt, gEq, gIs, gIsNot, dv_dat, dv_lst, dv_al, dvs, own_dat, own_lst, own_bag, own_dcK, own_scr, flat_dat, flat_lst, Res.fin, frzs_nil, frzs_cons, frz_dat, intT_int, outs, als, argsOf, putArgs, fCall, eqv_int, shp_int, shp_none, shp_bool, noOwn, ownAt, sizeLine_eq, fIter, itemsOf, fRange1, fRange2, eqX_int, eqX_str, fEnumA, fFrz, fNever, permOk, perm, fCallK, fCallP, gMax2, gMin2, gMax3, gMin3, fPar2, fMulti, putM, fAsgG, fLc, Wz7, r2', e5, hB4.own, hB5.own]
    have w8 : Wz8 [some (.scr ns), some B5, some (.dat sh), some (.dat (.int (4 + (v : Int)))), some (.dat pl), some (.dat du), some (.dat ps)] = some (.nx [some (.scr ns), some B6, some (.dat sh), some (.dat (.int (4 + (v : Int)))), some (.dat pl), some (.dat du), some (.dat ps)]) := by simp [fnOf, fSeq, fNil, fSet, fRet, fDrop, fIf, fFgt, fgtO, fgt, fFor, fIfE, fT, fTru, truD, fAnd, fOr, fNot, fAndV, fOrV, fNotV, fOp2, fVar, fC, fB, fACons, fANil, fTup, fLst, fNeg, gRel, gInt2, gInt2C, gAdd, gMulX_int, gIx, gLen, gAbs, gInt, gEq, gIs, gIsNot, dv_dat, dv_lst, dv_al, dvs, own_dat, own_lst, own_bag, own_dcK, own_scr, flat_dat, flat_lst, Res.fin, frzs_nil, frzs_cons, frz_dat, intT_int, outs, als, argsOf, putArgs, fCall, eqv_int, shp_int, shp_none, shp_bool, noOwn, ownAt, sizeLine_eq, fIter, itemsOf, fRange1, fRange2, eqX_int, eqX_str, fEnumA, fFrz, fNever, permOk, perm, fCallK, fCallP, gMax2, gMin2, gMax3, gMin3, fPar2, fMulti, putM, fAsgG, fLc, Wz8, s1, c1, hB5.own, hB6.own]
    have w9 : Wz9 [some (.scr ns), some B6, some (.dat sh), some (.dat (.int (4 + (v : Int)))), some (.dat pl), some (.dat du), some (.dat ps)] = some (.rt (.dat (.bool true)) [some (.scr ns), some B8, some (.dat sh), some (.dat (.int (4 + (v : Int)))), some (.dat pl), some (.dat du), some (.dat ps)]) := by simp [fnOf, fSeq, fNil, fSet, fRet, fDrop, fIf, fFgt, fgtO, fgt, fFor, fIfE, fT, fTru, truD, fAnd, fOr, fNot, fAndV, fOrV, fNotV, fOp2, fVar, fC, fB, fACons, fANil, fTup, fLst, fNeg, gRel, gInt2, gInt2C, gAdd, gMulX_int, gIx, gLen, gAbs, gInt, gEq, gIs, gIsNot, dv_dat, dv_lst, dv_al, dvs, own_dat, own_lst, own_bag, own_dcK, own_scr, flat_dat, flat_lst, Res.fin, frzs_nil, frzs_cons, frz_dat, intT_int, outs, als, argsOf, putArgs, fCall, eqv_int, shp_int, shp_none, shp_bool, noOwn, ownAt, sizeLine_eq, fIter, itemsOf, fRange1, fRange2, eqX_int, eqX_str, fEnumA, fFrz, fNever, permOk, perm, fCallK, fCallP, gMax2, gMin2, gMax3, gMin3, fPar2, fMulti, putM, fAsgG, fLc, Wz9, l1', e7, t1, hB6.own, hB7.own, hB8.own]
    rw [seq_nx w2, seq_nx w3, seq_nx w4, seq_nx w5, seq_nx w6, seq_nx w7, seq_nx w8, w9]
    simp [outs, own_scr]
end Lw

end

open PySem PySem.W PyProof.Rows in
set_option maxRecDepth 100000 in
set_option maxHeartbeats 0 in
theorem PySem.Challenge.cw_looksdrawn_k14_whole_degrees_and_paths_holds : PySem.Challenge.rw_looksdrawn_k14_whole_degrees_and_paths.Holds := by
  w_on; o_law; k_head; (case hw => w_witness2)
  k_fill
  refine Fx.walk_end (l := PySem.Challenge.rw_looksdrawn_k14_whole_degrees_and_paths) (k := 12) (F := Lw.F_law) rfl rfl ⟨⟨rfl, by decide, by decide⟩, rfl⟩ (fun w h Y => PySem.W.kIn_of Y) Lw.law_true ?theDefs
  case theDefs =>
    intro w mg fa h KX G hmg
    refine' Lw.all_mk KX G hmg ?B ?E0 ?E1 ?E2 ?E3 ?E4 ?E5 ?E6 ?E7 ?E8 ?E9 ?E10 ?E11 ?E12 ?E13 ?E14 ?E15 ?E16 ?E17 ?E18 ?E19 ?E20 ?E21 ?E22 ?E23 ?E24 ?E25 ?E26 ?E27 ?E28 ?E29 ?E30 ?E31
    (case B => (refine' ⟨PySem.W.mg_none_of KX G ?z0, PySem.W.mg_none_of KX G ?z1, PySem.W.mg_none_of KX G ?z2, PySem.W.mg_none_of KX G ?z3, PySem.W.mg_none_of KX G ?z4, PySem.W.mg_none_of KX G ?z5, PySem.W.mg_none_of KX G ?z6, PySem.W.mg_none_of KX G ?z7, PySem.W.mg_none_of KX G ?z8, PySem.W.mg_none_of KX G ?z9, PySem.W.mg_none_of KX G ?z10, PySem.W.mg_none_of KX G ?z11, PySem.W.mg_none_of KX G ?z12, PySem.W.mg_none_of KX G ?z13, PySem.W.mg_none_of KX G ?z14, PySem.W.mg_none_of KX G ?z15, PySem.W.mg_of KX G ?zg⟩; (case z0 => k_is); (case z1 => k_is); (case z2 => k_is); (case z3 => k_is); (case z4 => k_is); (case z5 => k_is); (case z6 => k_is); (case z7 => k_is); (case z8 => k_is); (case z9 => k_is); (case z10 => k_is); (case z11 => k_is); (case z12 => k_is); (case z13 => k_is); (case z14 => k_is); (case z15 => k_is); (case zg => k_is)))
    (case E0 => (refine' Fx.at_mk KX G ?a ?l ?c ?k; (case a => k_is); (case l => k_is); (case c => k_is); (case k => k_is)))
    (case E1 => (refine' Fx.at_mk KX G ?a ?l ?c ?k; (case a => k_is); (case l => k_is); (case c => k_is); (case k => k_is)))
    (case E2 => (refine' Fx.at_mk KX G ?a ?l ?c ?k; (case a => k_is); (case l => k_is); (case c => k_is); (case k => k_is)))
    (case E3 => (refine' Fx.at_mk KX G ?a ?l ?c ?k; (case a => k_is); (case l => k_is); (case c => k_is); (case k => k_is)))
    (case E4 => (refine' Fx.at_mk KX G ?a ?l ?c ?k; (case a => k_is); (case l => k_is); (case c => k_is); (case k => k_is)))
    (case E5 => (refine' Fx.at_mk KX G ?a ?l ?c ?k; (case a => k_is); (case l => k_is); (case c => k_is); (case k => k_is)))
    (case E6 => (refine' Fx.at_mk KX G ?a ?l ?c ?k; (case a => k_is); (case l => k_is); (case c => k_is); (case k => k_is)))
    (case E7 => (refine' Fx.at_mk KX G ?a ?l ?c ?k; (case a => k_is); (case l => k_is); (case c => k_is); (case k => k_is)))
    (case E8 => (refine' Fx.at_mk KX G ?a ?l ?c ?k; (case a => k_is); (case l => k_is); (case c => k_is); (case k => k_is)))
    (case E9 => (refine' Fx.at_mk KX G ?a ?l ?c ?k; (case a => k_is); (case l => k_is); (case c => k_is); (case k => k_is)))
    (case E10 => (refine' Fx.at_mk KX G ?a ?l ?c ?k; (case a => k_is); (case l => k_is); (case c => k_is); (case k => k_is)))
    (case E11 => (refine' Fx.at_mk KX G ?a ?l ?c ?k; (case a => k_is); (case l => k_is); (case c => k_is); (case k => k_is)))
    (case E12 => (refine' Fx.at_mk KX G ?a ?l ?c ?k; (case a => k_is); (case l => k_is); (case c => k_is); (case k => k_is)))
    (case E13 => (refine' Fx.at_mk KX G ?a ?l ?c ?k; (case a => k_is); (case l => k_is); (case c => k_is); (case k => k_is)))
    (case E14 => (refine' Fx.at_mk KX G ?a ?l ?c ?k; (case a => k_is); (case l => k_is); (case c => k_is); (case k => k_is)))
    (case E15 => (refine' Fx.at_mk KX G ?a ?l ?c ?k; (case a => k_is); (case l => k_is); (case c => k_is); (case k => k_is)))
    (case E16 => (refine' Fx.at_mk KX G ?a ?l ?c ?k; (case a => k_is); (case l => k_is); (case c => k_is); (case k => k_is)))
    (case E17 => (refine' Fx.at_mk KX G ?a ?l ?c ?k; (case a => k_is); (case l => k_is); (case c => k_is); (case k => k_is)))
    (case E18 => (refine' Fx.at_mk KX G ?a ?l ?c ?k; (case a => k_is); (case l => k_is); (case c => k_is); (case k => k_is)))
    (case E19 => (refine' Fx.at_mk KX G ?a ?l ?c ?k; (case a => k_is); (case l => k_is); (case c => k_is); (case k => k_is)))
    (case E20 => (refine' Fx.at_mk KX G ?a ?l ?c ?k; (case a => k_is); (case l => k_is); (case c => k_is); (case k => k_is)))
    (case E21 => (refine' Fx.at_mk KX G ?a ?l ?c ?k; (case a => k_is); (case l => k_is); (case c => k_is); (case k => k_is)))
    (case E22 => (refine' Fx.at_mk KX G ?a ?l ?c ?k; (case a => k_is); (case l => k_is); (case c => k_is); (case k => k_is)))
    (case E23 => (refine' Fx.at_mk KX G ?a ?l ?c ?k; (case a => k_is); (case l => k_is); (case c => k_is); (case k => k_is)))
    (case E24 => (refine' Fx.at_mk KX G ?a ?l ?c ?k; (case a => k_is); (case l => k_is); (case c => k_is); (case k => k_is)))
    (case E25 => (refine' Fx.at_mk KX G ?a ?l ?c ?k; (case a => k_is); (case l => k_is); (case c => k_is); (case k => k_is)))
    (case E26 => (refine' Fx.at_mk KX G ?a ?l ?c ?k; (case a => k_is); (case l => k_is); (case c => k_is); (case k => k_is)))
    (case E27 => (refine' Fx.at_mk KX G ?a ?l ?c ?k; (case a => k_is); (case l => k_is); (case c => k_is); (case k => k_is)))
    (case E28 => (refine' Fx.at_mk KX G ?a ?l ?c ?k; (case a => k_is); (case l => k_is); (case c => k_is); (case k => k_is)))
    (case E29 => (refine' Fx.at_mk KX G ?a ?l ?c ?k; (case a => k_is); (case l => k_is); (case c => k_is); (case k => k_is)))
    (case E30 => (refine' Fx.at_mk KX G ?a ?l ?c ?k; (case a => k_is); (case l => k_is); (case c => k_is); (case k => k_is)))
    (case E31 => (refine' Fx.at_mk KX G ?a ?l ?c ?k; (case a => k_is); (case l => k_is); (case c => k_is); (case k => k_is)))

