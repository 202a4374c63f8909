import PyProof.Rows.All
import Wide.All
import OpenK.AllK
import Wide.FinOn
import HandS.ForMost
import HandS.ForExc
import HandS.HeadHook1
import HandS.HeadHook2
import HandS.Iter
import HandS.Dict
import HandS.Zip
import HandS.CallSlots
import HandS.IsInst
import HandS.TupAny
import HandS.TupMul
import HandS.Wide
import HandS.Deep
import HandS.StrMore
import HandS.Style
import HandS.TryOnly
import PyProof.Rows.RegReprOcc
import PyProof.SliceStr2
import HandS.Head0
import HandS.Head1
import HandS.Head2
import HandS.HeadEnd
import PyProof.StrWalks
import HandS.Conv
import HandS.More
import HandS.Replace
import KE.DataCmp
import KE.DataMinMax
import KE.SortData
import PyProof.ReprRoads
import KE.DataMinKey
import HandS.Spec
import HandS.SortKw
import HandS.ExcInit
import HandS.ExcIs
import HandS.ExcField
import PyProof.TupleOfStr
import KE.KExcIs
import HandS.ExcValue
import PySem.Challenge.RW_wholefree_k00_errors
set_option Elab.async false
set_option linter.all false
set_option maxRecDepth 100000
set_option maxHeartbeats 0
/-! PL0: plain data, environments, what a state stands for -/
namespace PL
open PySem PySem.Spec L2
/-- plain data; dct: a dict with ints and texts as keys, dtt: one with flat tuples of these; rws: a list of own containers, dls: a dict (keys: tuples) of own containers -/
inductive D where
  | non | bl (b : Bool) | int (i : Int) | str (s : List Nat)
  | tup (xs : List D) | lst (xs : List D) | scr (xs : List D) | dct (ks vs : List D) | set (xs : List D)
  | err (c : Str) (d : D)
  | dtt (ks vs : List D) | rws (ds : List D) | dls (ks ds : List D)
/-- a name's cell: not set; a value that nothing will change; a container that this name alone holds -/
inductive Cell where
  | un | fz (d : D) | ow (d : D)
abbrev Ev := List Cell
/-- what an expression hands on: a name's own container; a value; a new container that nothing else holds -/
inductive Opd where
  | pl (i : Nat) | vl (d : D) | fr (d : D)
inductive Res (α : Type) where
  | ok (a : α) (ρ : Ev) | ex (c : Str) (d : D) (ρ : Ev) | stk
abbrev CEx := Ev → Res Opd
/-- an exception object of the class cls, its dict at d -/
def ErO (cls : Value) (d a : Addr) : HO := .ext fun h => ∃ oe vs, h.get? a = some oe ∧ Zc cls (some d) oe ∧ oe.data = .fields vs
/-- the keys as data -/
def keyD : Key → D
  | .inl i => .int i
  | .inr x => .str x.cps.toList
def keyT (k : List Key) : D := .tup (k.map keyD)
mutual
inductive Rp (K : PySem.W.Frag) (F : Hp) : V → D → Prop
  | non : Rp K F .non .non
  | bl (b : Bool) : Rp K F (.bl b) (.bl b)
  | int (i : Int) : Rp K F (.int i) (.int i)
  | str (s : List Nat) : Rp K F (.str ⟨s.toArray⟩) (.str s)
  | tup {a : Addr} {xs : List V} {ds : List D} : F a = some (.tup xs) → Rps K F xs ds → Rp K F (.ref a) (.tup ds)
  | lst {a : Addr} {xs : List V} {ds : List D} : F a = some (.lst xs) → Rps K F xs ds → Rp K F (.ref a) (.lst ds)
  | scr {a : Addr} {xs : List V} {ds : List D} : SqL K F a xs → Rps K F xs ds → Rp K F (.ref a) (.scr ds)
  | dct {a : Addr} {o : Obj} {kvs : List (Key × V)} {vs : List D} : F a = some (.frz o (.dK kvs)) → Rps K F (kvs.map (·.2)) vs → Rp K F (.ref a) (.dct (kvs.map fun p => keyD p.1) vs)
  | dtt {a : Addr} {o : Obj} {kvs : List (List Key × V)} {vs : List D} : F a = some (.frz o (.dT kvs)) → Rps K F (kvs.map (·.2)) vs → Rp K F (.ref a) (.dtt (kvs.map fun p => keyT p.1) vs)
  | err {a dx : Addr} {c : Str} {v : V} {d : D} : F a = some (ErO (.ref (He.ga K c)) dx a) → F dx = some (.xd [("value", v)]) → Rp K F v d → Rp K F (.ref a) (.err c d)
inductive Rps (K : PySem.W.Frag) (F : Hp) : List V → List D → Prop
  | nil : Rps K F [] []
  | cons {v : V} {vs : List V} {d : D} {ds : List D} : Rp K F v d → Rps K F vs ds → Rps K F (v :: vs) (d :: ds)
end
/-- all that was is as it was -/
def Sub (F F' : Hp) : Prop := ∀ a o, F a = some o → F' a = some o
theorem Sub.refl (F : Hp) : Sub F F := fun _ _ h => h
theorem Sub.trans {F G H : Hp} (a : Sub F G) (b : Sub G H) : Sub F H := fun x o h => b x o (a x o h)
theorem Sub.l {K : PySem.W.Frag} {F F' : Hp} {a : Addr} {xs : List V} (s : Sub F F') (h : SqL K F a xs) : SqL K F' a xs := by
  rcases h with (h | ⟨o, h⟩) | h
  · exact .inl (.inl (s _ _ h))
  · exact .inl (.inr ⟨o, s _ _ h⟩)
  · exact .inr h
theorem Sub.t {K : PySem.W.Frag} {F F' : Hp} {a : Addr} {xs : List V} (s : Sub F F') (h : SqT K F a xs) : SqT K F' a xs := by
  rcases h with (h | ⟨o, h⟩) | h
  · exact .inl (.inl (s _ _ h))
  · exact .inl (.inr ⟨o, s _ _ h⟩)
  · exact .inr h
section
variable {K : PySem.W.Frag} {F F' : Hp}
mutual
theorem Rp.mono (s : Sub F F') : ∀ {v : V} {d : D}, Rp K F v d → Rp K F' v d
  | _, _, .non => .non
  | _, _, .bl b => .bl b
  | _, _, .int i => .int i
  | _, _, .str x => .str x
  | _, _, .tup h r => .tup (s _ _ h) (Rps.mono s r)
  | _, _, .lst h r => .lst (s _ _ h) (Rps.mono s r)
  | _, _, .scr h r => .scr (s.l h) (Rps.mono s r)
  | _, _, .dct h r => .dct (s _ _ h) (Rps.mono s r)
  | _, _, .dtt h r => .dtt (s _ _ h) (Rps.mono s r)
  | _, _, .err h1 h2 r => .err (s _ _ h1) (s _ _ h2) (Rp.mono s r)
theorem Rps.mono (s : Sub F F') : ∀ {vs : List V} {ds : List D}, Rps K F vs ds → Rps K F' vs ds
  | _, _, .nil => .nil
  | _, _, .cons h r => .cons (Rp.mono s h) (Rps.mono s r)
end
theorem Rps.length : ∀ {vs : List V} {ds : List D}, Rps K F vs ds → vs.length = ds.length
  | _, _, .nil => rfl
  | _, _, .cons _ r => congrArg (· + 1) (Rps.length r)
theorem Rps.get : ∀ {vs : List V} {ds : List D} {i : Nat} {v : V}, Rps K F vs ds → vs[i]? = some v → ∃ d, ds[i]? = some d ∧ Rp K F v d
  | _, _, _, _, .nil, e => by simp at e
  | _, _, 0, _, .cons h _, e => by simp at e; subst e; exact ⟨_, rfl, h⟩
  | _, _, i + 1, v, .cons _ r, e => by
    obtain ⟨d, h1, h2⟩ := Rps.get (i := i) (v := v) r (by simpa using e)
    exact ⟨d, by simpa using h1, h2⟩
theorem Rps.get' : ∀ {vs : List V} {ds : List D} {i : Nat} {d : D}, Rps K F vs ds → ds[i]? = some d → ∃ v, vs[i]? = some v ∧ Rp K F v d
  | _, _, _, _, .nil, e => by simp at e
  | _, _, 0, _, .cons h _, e => by simp at e; subst e; exact ⟨_, rfl, h⟩
  | _, _, i + 1, d, .cons _ r, e => by
    obtain ⟨v, h1, h2⟩ := Rps.get' (i := i) (d := d) r (by simpa using e)
    exact ⟨v, by simpa using h1, h2⟩
theorem Rps.append : ∀ {vs ws : List V} {ds es : List D}, Rps K F vs ds → Rps K F ws es → Rps K F (vs ++ ws) (ds ++ es)
  | _, _, _, _, .nil, h => h
  | _, _, _, _, .cons h r, h' => .cons h (Rps.append r h')
theorem Rps.set : ∀ {vs : List V} {ds : List D} {v : V} {d : D} (i : Nat), Rps K F vs ds → Rp K F v d → Rps K F (vs.set i v) (ds.set i d)
  | _, _, _, _, _, .nil, _ => .nil
  | _, _, _, _, 0, .cons _ r, h => .cons h r
  | _, _, _, _, i + 1, .cons h' r, h => .cons h' (Rps.set i r h)
theorem Rps.take : ∀ {vs : List V} {ds : List D} (n : Nat), Rps K F vs ds → Rps K F (vs.take n) (ds.take n)
  | _, _, 0, _ => .nil
  | _, _, _ + 1, .nil => .nil
  | _, _, n + 1, .cons h r => .cons h (Rps.take n r)
theorem Rps.drop : ∀ {vs : List V} {ds : List D} (n : Nat), Rps K F vs ds → Rps K F (vs.drop n) (ds.drop n)
  | _, _, 0, r => r
  | _, _, _ + 1, .nil => .nil
  | _, _, n + 1, .cons _ r => Rps.drop n r
end
/-- the container at a, its items within F -/
def Own1 (K : PySem.W.Frag) (F H : Hp) (a : Addr) : D → Prop
  | .lst ds => ∃ xs, H a = some (.lst xs) ∧ Rps K F xs ds
  | .dct ks vs => ∃ kvs : List (Key × V), H a = some (.dK kvs) ∧ ks = (kvs.map fun p => keyD p.1) ∧ Rps K F (kvs.map (·.2)) vs
  | .dtt ks vs => ∃ kvs : List (List Key × V), H a = some (.dT kvs) ∧ ks = (kvs.map fun p => keyT p.1) ∧ Rps K F (kvs.map (·.2)) vs
  | _ => False
/-- a container of own containers -/
def kids : D → Bool
  | .rws _ => true
  | .dls _ _ => true
  | _ => false
def Own (K : PySem.W.Frag) (F H : Hp) (a : Addr) : D → Prop
  | .rws ds => ∃ bs : List Addr, H a = some (.lst (bs.map V.ref)) ∧ (a :: bs).Nodup ∧ Paired (fun b d => Own1 K F H b d) bs ds
  | .dls ks ds => ∃ kbs : List (List Key × Addr), H a = some (.dT (kbs.map fun p => (p.1, V.ref p.2))) ∧ ks = (kbs.map fun p => keyT p.1) ∧ (a :: kbs.map (·.2)).Nodup ∧ Paired (fun b d => Own1 K F H b d) (kbs.map (·.2)) ds
  | .lst ds => Own1 K F H a (.lst ds)
  | .dct ks vs => Own1 K F H a (.dct ks vs)
  | .dtt ks vs => Own1 K F H a (.dtt ks vs)
  | _ => False
/-- the containers right within an object -/
def Chd : Option HO → Addr → Prop
  | some (.lst xs), a => V.ref a ∈ xs
  | some (.dT kvs), a => V.ref a ∈ kvs.map (·.2)
  | _, _ => False
/-- the addresses that go with an own container -/
def In (H : Hp) (t : Addr) (d : D) (a : Addr) : Prop := a = t ∨ (kids d = true ∧ Chd (H t) a)
theorem In.top {H : Hp} {t : Addr} {d : D} : In H t d t := .inl rfl
theorem In.one {H : Hp} {t a : Addr} {d : D} (k : kids d = false) (h : In H t d a) : a = t := h.elim id fun z => by rw [k] at z; cases z.1
theorem In.to {H H' : Hp} {t a : Addr} {d : D} (e : H' t = H t) (h : In H t d a) : In H' t d a := h.imp_right fun z => ⟨z.1, by rw [e]; exact z.2⟩
theorem Own1.mono {K : PySem.W.Frag} {F F' H H' : Hp} {a : Addr} {d : D} (s : Sub F F') (e : ∀ o, H a = some o → H' a = some o) : Own1 K F H a d → Own1 K F' H' a d := by
  cases d with
  | lst ds => exact fun ⟨xs, h, r⟩ => ⟨xs, e _ h, r.mono s⟩
  | dct ks vs => exact fun ⟨kvs, h, q, r⟩ => ⟨kvs, e _ h, q, r.mono s⟩
  | dtt ks vs => exact fun ⟨kvs, h, q, r⟩ => ⟨kvs, e _ h, q, r.mono s⟩
  | _ => exact False.elim
theorem Own1.there {K : PySem.W.Frag} {F H : Hp} {a : Addr} {d : D} : Own1 K F H a d → H a ≠ none := by
  cases d with
  | lst ds => exact fun ⟨xs, h, r⟩ => by rw [h]; simp
  | dct ks vs => exact fun ⟨xs, h, _⟩ => by rw [h]; simp
  | dtt ks vs => exact fun ⟨xs, h, _⟩ => by rw [h]; simp
  | _ => exact False.elim
theorem Own1.own {K : PySem.W.Frag} {F H : Hp} {a : Addr} {d : D} : Own1 K F H a d → Own K F H a d := by
  cases d with
  | lst ds => exact id
  | dct ks vs => exact id
  | dtt ks vs => exact id
  | _ => exact False.elim
theorem Own1.noKids {K : PySem.W.Frag} {F H : Hp} {a : Addr} {d : D} : Own1 K F H a d → kids d = false := by
  cases d with
  | lst ds => exact fun _ => rfl
  | dct ks vs => exact fun _ => rfl
  | dtt ks vs => exact fun _ => rfl
  | _ => exact False.elim
theorem _root_.PySem.Paired.memL {α β : Type} {R : α → β → Prop} {as : List α} {bs : List β} {a : α} (p : Paired R as bs) (m : a ∈ as) : ∃ b, R a b := by
  induction p with
  | nil => exact nomatch m
  | cons h r ih =>
    rcases List.mem_cons.mp m with e | m
    · rw [e]; exact ⟨_, h⟩
    · exact ih m
theorem _root_.PySem.Paired.mapM {α β : Type} {R S : α → β → Prop} {as : List α} {bs : List β} (p : Paired R as bs) (c : ∀ a ∈ as, ∀ b, R a b → S a b) : Paired S as bs := by
  induction p with
  | nil => exact .nil
  | cons h r ih => exact .cons (c _ List.mem_cons_self _ h) (ih fun a m b z => c a (List.mem_cons_of_mem _ m) b z)
/-- the addresses right within, of a container of own ones -/
theorem chd_ref {bs : List Addr} {b : Addr} : Chd (some (.lst (bs.map V.ref))) b ↔ b ∈ bs := by
  show V.ref b ∈ bs.map V.ref ↔ _
  constructor
  · intro h
    obtain ⟨c, h1, h2⟩ := List.mem_map.mp h
    cases h2
    exact h1
  · exact fun h => List.mem_map.mpr ⟨b, h, rfl⟩
theorem chd_refT {kbs : List (List Key × Addr)} {b : Addr} : Chd (some (.dT (kbs.map fun p => (p.1, V.ref p.2)))) b ↔ b ∈ kbs.map (·.2) := by
  show V.ref b ∈ (kbs.map fun p => (p.1, V.ref p.2)).map (·.2) ↔ _
  rw [List.map_map]
  constructor
  · intro h
    obtain ⟨c, h1, h2⟩ := List.mem_map.mp h
    cases h2
    exact List.mem_map.mpr ⟨c, h1, rfl⟩
  · intro h
    obtain ⟨c, h1, h2⟩ := List.mem_map.mp h
    exact List.mem_map.mpr ⟨c, h1, by rw [← h2]; rfl⟩
theorem Own.mono {K : PySem.W.Frag} {F F' H H' : Hp} {a : Addr} {d : D} (s : Sub F F') (e : ∀ c o, In H a d c → H c = some o → H' c = some o) : Own K F H a d → Own K F' H' a d := by
  cases d with
  | rws ds => exact fun ⟨bs, h, n, p⟩ => ⟨bs, e a _ .top h, n, p.mapM fun b hb d z => z.mono s fun o ho => e b o (.inr ⟨rfl, by rw [h]; exact chd_ref.mpr hb⟩) ho⟩
  | dls ks ds => exact fun ⟨bs, h, q, n, p⟩ => ⟨bs, e a _ .top h, q, n, p.mapM fun b hb d z => z.mono s fun o ho => e b o (.inr ⟨rfl, by rw [h]; exact chd_refT.mpr hb⟩) ho⟩
  | lst ds => exact fun h => Own1.mono (d := .lst ds) s (e a · .top) h
  | dct ks vs => exact fun h => Own1.mono (d := .dct ks vs) s (e a · .top) h
  | dtt ks vs => exact fun h => Own1.mono (d := .dtt ks vs) s (e a · .top) h
  | _ => exact False.elim
theorem Own.there {K : PySem.W.Frag} {F H : Hp} {a c : Addr} {d : D} (w : Own K F H a d) (i : In H a d c) : H c ≠ none := by
  cases d with
  | rws ds =>
    obtain ⟨bs, h, n, p⟩ := w
    rcases i with rfl | ⟨_, i⟩
    · rw [h]; simp
    · rw [h] at i
      obtain ⟨d, z⟩ := p.memL (chd_ref.mp i)
      exact z.there
  | dls ks ds =>
    obtain ⟨bs, h, _, n, p⟩ := w
    rcases i with rfl | ⟨_, i⟩
    · rw [h]; simp
    · rw [h] at i
      obtain ⟨d, z⟩ := p.memL (chd_refT.mp i)
      exact z.there
  | lst ds => rw [In.one rfl i]; exact Own1.there (d := .lst ds) w
  | dct ks vs => rw [In.one rfl i]; exact Own1.there (d := .dct ks vs) w
  | dtt ks vs => rw [In.one rfl i]; exact Own1.there (d := .dtt ks vs) w
  | _ => exact w.elim
/-- the data that are left when a container is let go -/
def strip : D → D
  | .rws ds => .lst ds
  | .dls ks ds => .dtt ks ds
  | d => d
/-- an object once let go: a dict is locked -/
def Lk1 : HO → Option HO → Prop
  | .dK kvs, x => ∃ ob, x = some (.frz ob (.dK kvs))
  | .dT kvs, x => ∃ ob, x = some (.frz ob (.dT kvs))
  | o, x => x = some o
theorem Own1.rp {K : PySem.W.Frag} {F H F' : Hp} {a : Addr} {d : D} (s : Sub F F') (e : ∀ o, H a = some o → Lk1 o (F' a)) : Own1 K F H a d → Rp K F' (.ref a) d := by
  cases d with
  | lst ds => exact fun ⟨xs, h, r⟩ => .lst (e _ h) (r.mono s)
  | dct ks vs => exact fun ⟨xs, h, q, r⟩ => by rw [q]; obtain ⟨ob, e⟩ := e _ h; exact .dct e (r.mono s)
  | dtt ks vs => exact fun ⟨xs, h, q, r⟩ => by rw [q]; obtain ⟨ob, e⟩ := e _ h; exact .dtt e (r.mono s)
  | _ => exact False.elim
theorem rps_refs {K : PySem.W.Frag} {F : Hp} : ∀ {bs : List Addr} {ds : List D}, Paired (fun b d => Rp K F (.ref b) d) bs ds → Rps K F (bs.map V.ref) ds
  | _, _, .nil => .nil
  | _, _, .cons h r => .cons h (rps_refs r)
/-- let go: from now on nothing changes it -/
theorem Own.rp {K : PySem.W.Frag} {F H F' : Hp} {a : Addr} {d : D} (s : Sub F F') (e : ∀ c o, In H a d c → H c = some o → Lk1 o (F' c)) : Own K F H a d → Rp K F' (.ref a) (strip d) := by
  cases d with
  | rws ds => exact fun ⟨bs, h, n, p⟩ => .lst (e a _ .top h) (rps_refs (p.mapM fun b hb d z => z.rp s fun o ho => e b o (.inr ⟨rfl, by rw [h]; exact chd_ref.mpr hb⟩) ho))
  | dls ks ds =>
    exact fun ⟨kbs, h, q, n, p⟩ => by
      obtain ⟨ob, e0⟩ := e a _ .top h
      have z := Rp.dtt (K := K) (vs := ds) e0 (by
        have y := rps_refs (p.mapM fun b hb d z => z.rp s fun o ho => e b o (.inr ⟨rfl, by rw [h]; exact chd_refT.mpr hb⟩) ho)
        rw [List.map_map] at y
        rw [List.map_map]
        exact y)
      rw [List.map_map] at z
      show Rp K F' (.ref a) (.dtt ks ds)
      rw [q]
      exact z
  | lst ds => exact fun h => Own1.rp (d := .lst ds) s (e a · .top) h
  | dct ks vs => exact fun h => Own1.rp (d := .dct ks vs) s (e a · .top) h
  | dtt ks vs => exact fun h => Own1.rp (d := .dtt ks vs) s (e a · .top) h
  | _ => exact False.elim
/-- a dict, or a container of own ones -/
def isDc : D → Bool
  | .dct _ _ => true
  | .dtt _ _ => true
  | .rws _ => true
  | .dls _ _ => true
  | _ => false
/-- the addresses that names hold for themselves (t: the container's own one) -/
def OS (ρ : Ev) (σ : St) (H : Hp) (a : Addr) : Prop := ∃ (i : Nat) (d : D) (t : Addr), ρ[i]? = some (.ow d) ∧ σ[i]? = some (some (.ref t)) ∧ In H t d a
def OT (ρ : Ev) (σ : St) (H : Hp) (t a : Addr) : Prop := ∃ (i : Nat) (d : D), ρ[i]? = some (.ow d) ∧ σ[i]? = some (some (.ref t)) ∧ In H t d a
theorem OT.os {ρ : Ev} {σ : St} {H : Hp} {t a : Addr} : OT ρ σ H t a → OS ρ σ H a := fun ⟨i, d, h⟩ => ⟨i, d, t, h⟩
/-- the state: F is what stays as it is (what others hold too); each own container stands apart -/
structure RS (K : PySem.W.Frag) (F : Hp) (ρ : Ev) (σ : St) (H : Hp) : Prop where
  len : ρ.length = σ.length
  sub : Sub F H
  fz : ∀ (i : Nat) (d : D), ρ[i]? = some (.fz d) → ∃ v, σ[i]? = some (some v) ∧ Rp K F v d
  ow : ∀ (i : Nat) (d : D), ρ[i]? = some (.ow d) → ∃ a, σ[i]? = some (some (.ref a)) ∧ (∀ c, In H a d c → F c = none) ∧ Own K F H a d
  inj : ∀ (i j : Nat) (d e : D) (s t a : Addr), ρ[i]? = some (.ow d) → ρ[j]? = some (.ow e) → σ[i]? = some (some (.ref s)) → σ[j]? = some (some (.ref t)) → In H s d a → In H t e a → i = j
/-- the slot i holds something -/
def Lv (ρ : Ev) (i : Nat) : Prop := ∃ d, ρ[i]? = some (.ow d) ∨ ρ[i]? = some (.fz d)
/-- what a piece of code has done: nothing but names' own containers is changed -/
structure Fr (F : Hp) (ρ : Ev) (σ : St) (H F' : Hp) (ρ' : Ev) (σ' : St) (H' : Hp) : Prop where
  ext : Sub F F'
  keep : ∀ a o, H a = some o → ¬ OS ρ σ H a → H' a = some o
  dom : ∀ a, H a ≠ none → H' a ≠ none
  new : ∀ a, F' a ≠ none → F a ≠ none ∨ H a = none ∨ OS ρ σ H a
  ot : ∀ t a, OT ρ' σ' H' t a → OT ρ σ H t a ∨ H a = none
  lv : ∀ i, Lv ρ i → Lv ρ' i
theorem Fr.os {F F' H H' : Hp} {ρ ρ' : Ev} {σ σ' : St} (b : Fr F ρ σ H F' ρ' σ' H') (a : Addr) : OS ρ' σ' H' a → OS ρ σ H a ∨ H a = none := fun ⟨i, d, t, h⟩ => (b.ot t a ⟨i, d, h⟩).imp_left OT.os
theorem Fr.refl (F : Hp) (ρ : Ev) (σ : St) (H : Hp) : Fr F ρ σ H F ρ σ H := ⟨Sub.refl F, fun _ _ h _ => h, fun _ h => h, fun _ h => .inl h, fun _ _ h => .inl h, fun _ h => h⟩
theorem some_of {H : Hp} {a : Addr} (h : H a ≠ none) : ∃ o, H a = some o := by
  cases e : H a with
  | none => exact absurd e h
  | some o => exact ⟨o, rfl⟩
theorem Fr.trans {F F1 F2 H H1 H2 : Hp} {ρ ρ1 ρ2 : Ev} {σ σ1 σ2 : St} (a : Fr F ρ σ H F1 ρ1 σ1 H1) (b : Fr F1 ρ1 σ1 H1 F2 ρ2 σ2 H2) : Fr F ρ σ H F2 ρ2 σ2 H2 where
  ext := a.ext.trans b.ext
  keep := fun x o h n => b.keep x o (a.keep x o h n) fun z => (a.os x z).elim n fun e => by rw [h] at e; cases e
  dom := fun x h => b.dom x (a.dom x h)
  new := fun x h => by
    rcases b.new x h with h1 | h1 | h1
    · exact a.new x h1
    · exact .inr (.inl (Classical.byContradiction fun z => a.dom x z h1))
    · rcases a.os x h1 with h2 | h2
      · exact .inr (.inr h2)
      · exact .inr (.inl h2)
  ot := fun t x h => by
    rcases b.ot t x h with h1 | h1
    · exact a.ot t x h1
    · exact .inr (Classical.byContradiction fun z => a.dom x z h1)
  lv := fun i h => b.lv i (a.lv i h)
/-- what an operand stands for; H0: the heap where its reckoning began -/
def OR (K : PySem.W.Frag) (F : Hp) (ρ : Ev) (σ : St) (H0 H : Hp) (v : V) : Opd → Prop
  | .pl i => σ[i]? = some (some v) ∧ Lv ρ i
  | .vl d => Rp K F v d
  | .fr d => ∃ a, v = .ref a ∧ (∀ c, In H a d c → F c = none ∧ H0 c = none ∧ ¬ OS ρ σ H c) ∧ Own K F H a d
section
variable {K : PySem.W.Frag} {F F1 F2 H0 H H1 H2 : Hp} {ρ ρ1 ρ2 : Ev} {σ σ1 σ2 : St} {v : V} {o : Opd}
/-- a container apart from the names' own ones stays -/
theorem In.keep {a c : Addr} {d : D} (w : Own K F1 H1 a d) (nos : ∀ c, In H1 a d c → ¬ OS ρ1 σ1 H1 c) (r : Fr F1 ρ1 σ1 H1 F2 ρ2 σ2 H2) (h : In H2 a d c) : In H1 a d c := by
  obtain ⟨o, ho⟩ := some_of (w.there .top)
  have e := r.keep a o ho (nos a .top)
  exact h.to (ho.trans e.symm)
/-- an operand stays one while another expression is reckoned -/
theorem OR.step (h : OR K F1 ρ1 σ H0 H1 v o) (r : Fr F1 ρ1 σ H1 F2 ρ2 σ H2) :
    OR K F2 ρ2 σ H0 H2 v o := by
  cases o with
  | pl i => exact ⟨h.1, r.lv i h.2⟩
  | vl d => exact h.mono r.ext
  | fr d =>
    obtain ⟨a, e, nn, hw⟩ := h
    refine ⟨a, e, fun c hc => ?_, hw.mono r.ext fun c o hc ho => r.keep c o ho (nn c hc).2.2⟩
    have hc1 := In.keep hw (fun c hc => (nn c hc).2.2) r hc
    obtain ⟨n, n0, nos⟩ := nn c hc1
    have ht := hw.there hc1
    exact ⟨Classical.byContradiction fun z => (r.new c z).elim (fun q => q n) fun q => q.elim ht nos, n0, fun z => (r.os c z).elim nos ht⟩
end
/-- what stands behind an operand -/
def useO (ρ : Ev) : Opd → Option D
  | .pl i => match ρ[i]? with
    | some (.ow d) => some d
    | some (.fz d) => some d
    | _ => none
  | .vl d => some d
  | .fr d => some d
end PL
/-! PL1: what is wanted of an expression; names, constants, operators, value mode -/
namespace PL
open PySem PySem.Spec L2
def Res.bind {α β : Type} : Res α → (α → Ev → Res β) → Res β
  | .ok a ρ, k => k a ρ
  | .ex c d ρ, _ => .ex c d ρ
  | .stk, _ => .stk
def liftO {α : Type} (ρ : Ev) : Option α → Res α
  | some a => .ok a ρ
  | none => .stk
section
variable (K : PySem.W.Frag) (W : WX)
/-- an exception of the class c (by its name) with the value d leaves -/
def exAt (F : Hp) (ρ : Ev) (σ : St) (H : Hp) (c : Str) (d : D) (ρ' : Ev) : Prop :=
  ∀ dx v F' H', RS K F' ρ' σ H' → Fr F ρ σ H F' ρ' σ H' → Rp K F' v d → F' dx = some (.xd [("value", v)]) → W (.ref (He.ga K c)) (some dx) σ H'
/-- what is wanted, by how a result stands (R: from the frozen part, the cells, the heap) -/
def Po {α β : Type} (R : Hp → Ev → St → Hp → Hp → β → α → Prop) (F : Hp) (ρ : Ev) (σ : St) (H : Hp) (Q : β → Hp → Prop) : Res α → Prop
  | .ok o ρ' => ∀ v F' H', RS K F' ρ' σ H' → Fr F ρ σ H F' ρ' σ H' → R F' ρ' σ H H' v o → Q v H'
  | .ex c d ρ' => exAt K W F ρ σ H c d ρ'
  | .stk => False
def RV (F : Hp) (_ : Ev) (_ : St) (_ _ : Hp) (v : V) (d : D) : Prop := Rp K F v d
def RB (_ : Hp) (_ : Ev) (_ : St) (_ _ : Hp) (v : Bool) (d : Bool) : Prop := v = d
def tX (f : Ev → Res Opd) : TE := fun σ H Q => ∃ F ρ, RS K F ρ σ H ∧ Po K W (OR K) F ρ σ H Q (f ρ)
def tV (f : Ev → Res D) : TE := fun σ H Q => ∃ F ρ, RS K F ρ σ H ∧ Po K W (RV K) F ρ σ H Q (f ρ)
def tT (f : Ev → Res Bool) : TT := fun σ H Q => ∃ F ρ, RS K F ρ σ H ∧ Po K W RB F ρ σ H Q (f ρ)
end
structure JE (X : Cx) (W : WX) (e : Expr) (f : Ev → Res Opd) : Prop where pe : PE X e (tX X.K W f)
structure JV (X : Cx) (W : WX) (e : Expr) (f : Ev → Res D) : Prop where pe : PE X e (tV X.K W f)
structure JT (X : Cx) (W : WX) (e : Expr) (f : Ev → Res Bool) : Prop where pt : PT X e (tT X.K W f)
structure JW (X : Cx) (W : WX) (e : Expr) (f : Ev → Res Bool) : Prop where pw : PW X e (tT X.K W f)
section
variable {K : PySem.W.Frag} {W : WX} {F F1 H H1 : Hp} {ρ ρ1 : Ev} {σ : St}
theorem OR.back {F' H' : Hp} {ρ' : Ev} {v : V} {o : Opd} (b : Fr F ρ σ H F1 ρ1 σ H1) (h : OR K F' ρ' σ H1 H' v o) : OR K F' ρ' σ H H' v o := by
  cases o with
  | pl i => exact h
  | vl d => exact h
  | fr d =>
    obtain ⟨a, e, nn, hw⟩ := h
    exact ⟨a, e, fun c hc => ⟨(nn c hc).1, Classical.byContradiction fun z => b.dom c z (nn c hc).2.1, (nn c hc).2.2⟩, hw⟩
/-- the rest is wanted from where one has come to -/
theorem Po.from {α β : Type} {R : Hp → Ev → St → Hp → Hp → β → α → Prop} (hR : ∀ F' ρ' H' v o, R F' ρ' σ H1 H' v o → R F' ρ' σ H H' v o) (b : Fr F ρ σ H F1 ρ1 σ H1) {Q : β → Hp → Prop} {r : Res α} (h : Po K W R F ρ σ H Q r) : Po K W R F1 ρ1 σ H1 Q r := by
  cases r with
  | ok o ρ' => exact fun v F' H' s r' h' => h v F' H' s (b.trans r') (hR _ _ _ _ _ h')
  | ex c d ρ' => exact fun dx v F' H' s r' => h dx v F' H' s (b.trans r')
  | stk => exact h
theorem PoX.from (b : Fr F ρ σ H F1 ρ1 σ H1) {Q : VK} {r : Res Opd} (h : Po K W (OR K) F ρ σ H Q r) : Po K W (OR K) F1 ρ1 σ H1 Q r := h.from (fun _ _ _ _ _ h => OR.back b h) b
theorem PoV.from (b : Fr F ρ σ H F1 ρ1 σ H1) {Q : VK} {r : Res D} (h : Po K W (RV K) F ρ σ H Q r) : Po K W (RV K) F1 ρ1 σ H1 Q r := Po.from (R := RV K) (H := H) (H1 := H1) (fun _ _ _ _ _ z => z) b h
theorem PoB.from (b : Fr F ρ σ H F1 ρ1 σ H1) {Q : Bool → Hp → Prop} {r : Res Bool} (h : Po K W RB F ρ σ H Q r) : Po K W RB F1 ρ1 σ H1 Q r := Po.from (R := RB) (H := H) (H1 := H1) (fun _ _ _ _ _ z => z) b h
/-- one reckoning behind another: from what is wanted of both, what is wanted of the first -/
theorem Po.bind {α β γ δ : Type} {R : Hp → Ev → St → Hp → Hp → β → α → Prop} {R' : Hp → Ev → St → Hp → Hp → δ → γ → Prop} {Q : δ → Hp → Prop} {Q1 : β → Hp → Prop} {r : Res α} {k : α → Ev → Res γ} (h : Po K W R' F ρ σ H Q (r.bind k))
    (hR : ∀ H1 F' ρ' H' v o, (∀ a, H a ≠ none → H1 a ≠ none) → R' F' ρ' σ H1 H' v o → R' F' ρ' σ H H' v o)
    (c : ∀ o ρ1 v F1 H1, RS K F1 ρ1 σ H1 → Fr F ρ σ H F1 ρ1 σ H1 → R F1 ρ1 σ H H1 v o → Po K W R' F1 ρ1 σ H1 Q (k o ρ1) → Q1 v H1) : Po K W R F ρ σ H Q1 r := by
  cases r with
  | ok o ρ1 => exact fun v F1 H1 s b hv => c o ρ1 v F1 H1 s b hv (Po.from (hR := fun _ _ _ _ _ z => hR _ _ _ _ _ _ b.dom z) b h)
  | ex c d ρ1 => exact h
  | stk => exact h
theorem OR.dom {F' H' H1 : Hp} {ρ' : Ev} {v : V} {o : Opd} (b : ∀ a, H a ≠ none → H1 a ≠ none) (h : OR K F' ρ' σ H1 H' v o) : OR K F' ρ' σ H H' v o := by
  cases o with
  | pl i => exact h
  | vl d => exact h
  | fr d =>
    obtain ⟨a, e, nn, hw⟩ := h
    exact ⟨a, e, fun c hc => ⟨(nn c hc).1, Classical.byContradiction fun z => b c z (nn c hc).2.1, (nn c hc).2.2⟩, hw⟩
/-- weaken what is wanted -/
theorem Po.imp {α β : Type} {R : Hp → Ev → St → Hp → Hp → β → α → Prop} {Q Q' : β → Hp → Prop} {r : Res α} (h : Po K W R F ρ σ H Q r) (c : ∀ v H', Q v H' → Q' v H') : Po K W R F ρ σ H Q' r := by
  cases r with
  | ok o ρ1 => exact fun v F1 H1 s b hv => c _ _ (h v F1 H1 s b hv)
  | ex c d ρ1 => exact h
  | stk => exact h
/-- the result stands here already -/
theorem Po.here {α β : Type} {R : Hp → Ev → St → Hp → Hp → β → α → Prop} {Q : β → Hp → Prop} {o : α} {v : β} (s : RS K F ρ σ H) (h : Po K W R F ρ σ H Q (.ok o ρ)) (r : R F ρ σ H H v o) : Q v H := h v F H s (Fr.refl ..) r
/-- a new object that no name has -/
theorem RS.free (s : RS K F ρ σ H) {p : Addr} (hp : H p = none) : F p = none := Classical.byContradiction fun z => by
  obtain ⟨o, e⟩ := some_of z
  rw [s.sub _ _ e] at hp
  cases hp
theorem RS.notOS (s : RS K F ρ σ H) {p : Addr} (hp : H p = none) : ¬ OS ρ σ H p := fun ⟨i, d, t, h1, h2, h3⟩ => by
  obtain ⟨a, e, _, w⟩ := s.ow i d h1
  rw [h2] at e
  cases e
  exact w.there h3 hp
/-- where the own containers stay, they are the same -/
theorem RS.same (s : RS K F ρ σ H) {H' : Hp} (h3 : ∀ c o, OS ρ σ H c → H c = some o → H' c = some o) {i : Nat} {d : D} {t : Addr} (h1 : ρ[i]? = some (.ow d)) (h2 : σ[i]? = some (some (.ref t))) : H' t = H t := by
  obtain ⟨a, e, _, w⟩ := s.ow i d h1
  rw [h2] at e
  cases e
  obtain ⟨o, ho⟩ := some_of (w.there .top)
  rw [ho]
  exact h3 t o ⟨i, d, t, h1, h2, .top⟩ ho
theorem OS.heap (s : RS K F ρ σ H) {H' : Hp} (h3 : ∀ c o, OS ρ σ H c → H c = some o → H' c = some o) {c : Addr} : OS ρ σ H' c → OS ρ σ H c := fun ⟨i, d, t, h1, h2, hc⟩ => ⟨i, d, t, h1, h2, hc.to (s.same h3 h1 h2).symm⟩
theorem OT.heap (s : RS K F ρ σ H) {H' : Hp} (h3 : ∀ c o, OS ρ σ H c → H c = some o → H' c = some o) {t c : Addr} : OT ρ σ H' t c → OT ρ σ H t c := fun ⟨i, d, h1, h2, hc⟩ => ⟨i, d, h1, h2, hc.to (s.same h3 h1 h2).symm⟩
theorem RS.heap (s : RS K F ρ σ H) {F' H' : Hp} (e : Sub F F') (s' : Sub F' H') (h3 : ∀ c o, OS ρ σ H c → H c = some o → H' c = some o) (h4 : ∀ c, OS ρ σ H c → F' c = none) : RS K F' ρ σ H' where
  len := s.len
  sub := s'
  fz := fun i d h => by
    obtain ⟨v, q, r⟩ := s.fz i d h
    exact ⟨v, q, r.mono e⟩
  ow := fun i d h => by
    obtain ⟨a, q, n, w⟩ := s.ow i d h
    exact ⟨a, q, fun c hc => h4 c ⟨i, d, a, h, q, hc.to (s.same h3 h q).symm⟩, w.mono e fun c o hc ho => h3 c o ⟨i, d, a, h, q, hc⟩ ho⟩
  inj := fun i j d e s1 t1 a h1 h2 h3' h4' h5 h6 => s.inj i j d e s1 t1 a h1 h2 h3' h4' (h5.to (s.same h3 h1 h3').symm) (h6.to (s.same h3 h2 h4').symm)
theorem RS.osF (s : RS K F ρ σ H) {c : Addr} : OS ρ σ H c → F c = none := fun ⟨i, d, t, h1, h2, h3⟩ => by
  obtain ⟨a, e, n, w⟩ := s.ow i d h1
  rw [h2] at e
  cases e
  exact n c h3
theorem RS.newH (s : RS K F ρ σ H) {p : Addr} {o : HO} (hp : H p = none) : RS K F ρ σ (upd H p o) :=
  s.heap (Sub.refl _) (fun a u e => by rw [upd_ne (ne_of_none (s.sub a u e) hp)]; exact s.sub a u e) (fun c u _ h => by rw [upd_ne (ne_of_none h hp)]; exact h) fun c h => s.osF h
theorem RS.newF (s : RS K F ρ σ H) {p : Addr} {o : HO} (hp : H p = none) : RS K (upd F p o) ρ σ (upd H p o) :=
  s.heap (fun a u q => by rw [upd_ne (ne_of_none q (s.free hp))]; exact q) (fun a u e => by
    by_cases h : a = p
    · subst h; rw [upd_same] at e ⊢; exact e
    · rw [upd_ne h] at e ⊢; exact s.sub a u e) (fun c u _ h => by rw [upd_ne (ne_of_none h hp)]; exact h) fun c h => by rw [upd_ne (fun z => s.notOS hp (by rw [← z]; exact h))]; exact s.osF h
theorem RS.osNew (s : RS K F ρ σ H) {p : Addr} {o : HO} (hp : H p = none) {c : Addr} : OS ρ σ (upd H p o) c → OS ρ σ H c := OS.heap s fun c u _ h => by rw [upd_ne (ne_of_none h hp)]; exact h
theorem Fr.newH (s : RS K F ρ σ H) {p : Addr} {o : HO} (hp : H p = none) : Fr F ρ σ H F ρ σ (upd H p o) where
  ext := Sub.refl _
  keep := fun a u e _ => by rw [upd_ne (ne_of_none e hp)]; exact e
  dom := fun a e => by
    obtain ⟨u, q⟩ := some_of e
    rw [upd_ne (ne_of_none q hp)]; exact e
  new := fun _ e => .inl e
  ot := fun _ _ e => .inl (OT.heap s (fun c u _ h => by rw [upd_ne (ne_of_none h hp)]; exact h) e)
  lv := fun _ e => e
theorem Fr.newF (s : RS K F ρ σ H) {p : Addr} {o : HO} (hp : H p = none) : Fr F ρ σ H (upd F p o) ρ σ (upd H p o) where
  ext := fun a u e => by rw [upd_ne (ne_of_none e (s.free hp))]; exact e
  keep := fun a u e _ => by rw [upd_ne (ne_of_none e hp)]; exact e
  dom := fun a e => by
    obtain ⟨u, q⟩ := some_of e
    rw [upd_ne (ne_of_none q hp)]; exact e
  new := fun a e => by
    by_cases h : a = p
    · subst h; exact .inr (.inl hp)
    · rw [upd_ne h] at e; exact .inl e
  ot := fun _ _ e => .inl (OT.heap s (fun c u _ h => by rw [upd_ne (ne_of_none h hp)]; exact h) e)
  lv := fun _ e => e
theorem RS.osH (s : RS K F ρ σ H) {c : Addr} (h : OS ρ σ H c) : H c ≠ none := fun z => s.notOS z h
/-- the heap grows, and what stays as it is -/
theorem RS.grow {F3 H3 : Hp} (s : RS K F ρ σ H) (h1 : Sub F F3) (h2 : Sub H H3) (h3 : Sub F3 H3) (h4 : ∀ a, F3 a ≠ none → F a ≠ none ∨ H a = none) : RS K F3 ρ σ H3 ∧ Fr F ρ σ H F3 ρ σ H3 :=
  ⟨s.heap h1 h3 (fun c o _ h => h2 c o h) fun c h => Classical.byContradiction fun z => (h4 c z).elim (fun q => q (s.osF h)) fun q => s.osH h q,
   ⟨h1, fun a o e _ => h2 a o e, fun a e => by
    obtain ⟨o, ho⟩ := some_of e
    rw [h2 a o ho]
    simp, fun a e => (h4 a e).imp_right .inl, fun _ _ z => .inl (OT.heap s (fun c o _ h => h2 c o h) z), fun _ z => z⟩⟩
/-- a new container that nothing holds -/
theorem OR.fresh {p : Addr} {o : HO} {d : D} (s : RS K F ρ σ H) (hp : H p = none) (k : kids d = false) (w : Own K F (upd H p o) p d) : OR K F ρ σ H (upd H p o) (.ref p) (.fr d) :=
  ⟨p, rfl, fun c hc => by rw [In.one k hc]; exact ⟨s.free hp, hp, fun z => s.notOS hp (s.osNew hp z)⟩, w⟩
/-- a new list is handed on -/
theorem PoX.newL {Q : VK} {p : Addr} {xs : List V} {ds : List D} (s : RS K F ρ σ H) (h : Po K W (OR K) F ρ σ H Q (.ok (.fr (.lst ds)) ρ)) (hp : H p = none) (r : Rps K F xs ds) : Q (.ref p) (upd H p (.lst xs)) :=
  h _ _ _ (s.newH hp) (Fr.newH s hp) (.fresh s hp rfl ⟨xs, upd_same, r⟩)
/-- a new tuple is handed on -/
theorem PoX.newT {Q : VK} {p : Addr} {xs : List V} {ds : List D} (s : RS K F ρ σ H) (h : Po K W (OR K) F ρ σ H Q (.ok (.vl (.tup ds)) ρ)) (hp : H p = none) (r : Rps K F xs ds) : Q (.ref p) (upd H p (.tup xs)) :=
  h _ _ _ (s.newF hp) (Fr.newF s hp) (.tup upd_same (r.mono (Fr.newF s hp (o := .tup xs)).ext))
/-- an argument as it is read: a value, or a container whose items are values -/
def AR (K : PySem.W.Frag) (F H : Hp) (v : V) (d : D) : Prop := Rp K F v d ∨ ∃ a, v = .ref a ∧ Own K F H a d
theorem AR.rpK {v : V} {d : D} (s : Sub F H) (h : AR K F H v d) (k : isDc d = false) : Rp K H v d := by
  rcases h with h | ⟨a, rfl, h⟩
  · exact h.mono s
  · cases d with
    | lst ds =>
      obtain ⟨xs, h, r⟩ := h
      exact .lst h (r.mono s)
    | _ => first | exact h.elim | cases k
theorem AR.lst {v : V} {ds : List D} (s : Sub F H) (h : AR K F H v (.lst ds)) : ∃ a xs, v = .ref a ∧ H a = some (.lst xs) ∧ Rps K F xs ds := by
  rcases h with h | ⟨a, rfl, h⟩
  · cases h with
    | lst h r => exact ⟨_, _, rfl, s _ _ h, r⟩
  · obtain ⟨xs, h, r⟩ := h
    exact ⟨_, _, rfl, h, r⟩
theorem AR.scr {v : V} {ds : List D} (s : Sub F H) (h : AR K F H v (.scr ds)) : ∃ a xs, v = .ref a ∧ SqL K H a xs ∧ Rps K F xs ds := by
  rcases h with h | ⟨a, rfl, h⟩
  · cases h with
    | scr h r => exact ⟨_, _, rfl, s.l h, r⟩
  · exact h.elim
/-- any list that is read -/
def lstOf : D → Option (List D)
  | .lst ds => some ds
  | .scr ds => some ds
  | _ => none
theorem AR.seqL {v : V} {d : D} {ds : List D} (s : Sub F H) (h : AR K F H v d) (e : lstOf d = some ds) : ∃ a xs, v = .ref a ∧ SqL K H a xs ∧ Rps K F xs ds := by
  cases d with
  | lst _ => cases e; obtain ⟨a, xs, e, h, r⟩ := h.lst s; exact ⟨a, xs, e, .of h, r⟩
  | scr _ => cases e; exact h.scr s
  | _ => cases e
theorem AR.tup {v : V} {ds : List D} (s : Sub F H) (h : AR K F H v (.tup ds)) : ∃ a xs, v = .ref a ∧ F a = some (.tup xs) ∧ SqT K H a xs ∧ Rps K F xs ds := by
  rcases h with h | ⟨a, rfl, h⟩
  · cases h with
    | tup h r => exact ⟨_, _, rfl, h, .inl (.inl (s _ _ h)), r⟩
  · exact h.elim
theorem AR.int {v : V} {i : Int} (h : AR K F H v (.int i)) : v = .int i := by
  rcases h with h | ⟨a, rfl, h⟩
  · cases h; rfl
  · exact h.elim
theorem AR.bl {v : V} {i : Bool} (h : AR K F H v (.bl i)) : v = .bl i := by
  rcases h with h | ⟨a, rfl, h⟩
  · cases h; rfl
  · exact h.elim
theorem AR.non {v : V} (h : AR K F H v .non) : v = .non := by
  rcases h with h | ⟨a, rfl, h⟩
  · cases h; rfl
  · exact h.elim
theorem AR.str {v : V} {x : List Nat} (h : AR K F H v (.str x)) : v = .str ⟨x.toArray⟩ := by
  rcases h with h | ⟨a, rfl, h⟩
  · cases h; rfl
  · exact h.elim
theorem AR.of {v : V} {o : Opd} {d : D} {H0 : Hp} (s : RS K F ρ σ H) (h : OR K F ρ σ H0 H v o) (e : useO ρ o = some d) : AR K F H v d := by
  cases o with
  | vl x => cases e; exact .inl h
  | fr x =>
    cases e
    obtain ⟨a, rfl, _, w⟩ := h
    exact .inr ⟨a, rfl, w⟩
  | pl i =>
    obtain ⟨hσ, x, hx⟩ := h
    rcases hx with hx | hx
    · simp only [useO, hx] at e
      cases e
      obtain ⟨a, e, _, w⟩ := s.ow i _ hx
      rw [hσ] at e
      cases e
      exact .inr ⟨a, rfl, w⟩
    · simp only [useO, hx] at e
      cases e
      obtain ⟨w, e, r⟩ := s.fz i _ hx
      rw [hσ] at e
      cases e
      exact .inl r
end
/-- from a rule of the layer below -/
theorem JE.by {X : Cx} {W : WX} {e : Expr} {f : CEx} {t : TE} (h : PE X e t) (c : ∀ σ H Q F ρ, RS X.K F ρ σ H → Po X.K W (OR X.K) F ρ σ H Q (f ρ) → t σ H Q) : JE X W e f :=
  ⟨⟨fun pins s σ H Q I ⟨F, ρ, r, p⟩ => h.run pins s σ H Q I (c σ H Q F ρ r p)⟩⟩
theorem JV.by {X : Cx} {W : WX} {e : Expr} {f : Ev → Res D} {t : TE} (h : PE X e t) (c : ∀ σ H Q F ρ, RS X.K F ρ σ H → Po X.K W (RV X.K) F ρ σ H Q (f ρ) → t σ H Q) : JV X W e f :=
  ⟨⟨fun pins s σ H Q I ⟨F, ρ, r, p⟩ => h.run pins s σ H Q I (c σ H Q F ρ r p)⟩⟩
theorem JT.by {X : Cx} {W : WX} {e : Expr} {f : Ev → Res Bool} {t : TT} (h : PT X e t) (c : ∀ σ H Q F ρ, RS X.K F ρ σ H → Po X.K W RB F ρ σ H Q (f ρ) → t σ H Q) : JT X W e f :=
  ⟨⟨fun pins s σ H Q I ⟨F, ρ, r, p⟩ => h.run pins s σ H Q I (c σ H Q F ρ r p)⟩⟩
/-! ### names and constants -/
def cVar (i : Nat) : CEx := fun ρ => match ρ[i]? with
  | some (.fz d) => .ok (.vl d) ρ
  | some (.ow _) => .ok (.pl i) ρ
  | _ => .stk
def cC (d : D) : CEx := fun ρ => .ok (.vl d) ρ
section
variable {X : Cx} {W : WX} {pos : Pos}
theorem je_var (i : Nat) {x : Str} (hN : X.N[i]? = some x := by rfl) (hv : Vis X.env.scope x := by first | exact Or.inl rfl | exact Or.inr (Or.inl rfl) | exact Or.inr (Or.inr rfl)) (hd : (x == ("__debug__" : Str)) = false := by decide)
    (hcd : (x == ("__classdict__" : Str)) = false := by decide) : JE X W (.Name x pos) (cVar i) :=
  .by (pe_var hN hv hd hcd) fun σ H Q F ρ s p => by
    unfold cVar at p
    cases e : ρ[i]? with
    | none => rw [e] at p; exact p.elim
    | some c =>
      rw [e] at p
      cases c with
      | un => exact p.elim
      | fz d =>
        obtain ⟨v, h1, h2⟩ := s.fz i d e
        exact ⟨v, h1, p.here s h2⟩
      | ow d =>
        obtain ⟨a, h1, h2, h3⟩ := s.ow i d e
        exact ⟨_, h1, p.here s ⟨h1, d, .inl e⟩⟩
theorem je_int {i : Int} {j : Nat} : JE X W (.Constant (.int i) j pos) (cC (.int i)) := .by pe_int fun σ H Q F ρ s p => p.here s (.int i)
theorem je_bl {i : Bool} {j : Nat} : JE X W (.Constant (.bool i) j pos) (cC (.bl i)) := .by pe_bl fun σ H Q F ρ s p => p.here s (.bl i)
theorem je_non {j : Nat} : JE X W (.Constant .none j pos) (cC .non) := .by pe_non fun σ H Q F ρ s p => p.here s .non
theorem je_str (z : List Nat) {x : Str} {j : Nat} (h : x = ⟨z.toArray⟩ := by decide +kernel) : JE X W (.Constant (.str x) j pos) (cC (.str z)) := by
  subst h
  exact .by pe_str fun σ H Q F ρ s p => p.here s (.str z)
/-- a module's text -/
theorem je_gstr (z : List Nat) {x : Str} {u : Value} (hg : Gl X x) (hm : X.mg x = some u) (r : RelV (.str ⟨z.toArray⟩) u) (hd : (x == ("__debug__" : Str)) = false := by decide) : JE X W (.Name x pos) (cC (.str z)) :=
  .by (pe_glob hg hm r hd) fun σ H Q F ρ s p => p.here s (.str z)
/-! ### value mode: what is handed on is let go -/
def cFreeze (o : Opd) (ρ : Ev) : Res D := match o with
  | .vl d => .ok d ρ
  | .fr d => .ok (strip d) ρ
  | .pl i => match ρ[i]? with
    | some (.ow d) => .ok (strip d) (ρ.set i (.fz (strip d)))
    | some (.fz d) => .ok d ρ
    | _ => .stk
def cVal (f : CEx) : Ev → Res D := fun ρ => (f ρ).bind cFreeze
end
section
variable {K : PySem.W.Frag} {W : WX} {F F1 H H1 : Hp} {ρ ρ1 : Ev} {σ : St}
/-- what is let go -/
noncomputable def addF (F H : Hp) (S : Addr → Prop) : Hp := open Classical in fun b => if S b then H b else F b
theorem addF_in {S : Addr → Prop} {b : Addr} (h : S b) : addF F H S b = H b := by unfold addF; rw [if_pos h]
theorem addF_out {S : Addr → Prop} {b : Addr} (h : ¬ S b) : addF F H S b = F b := by unfold addF; rw [if_neg h]
theorem addF_sub {S : Addr → Prop} (h : ∀ b, S b → F b = none) : Sub F (addF F H S) := fun b u q => by
  rw [addF_out fun z => by rw [h b z] at q; cases q]; exact q
theorem addF_le {S : Addr → Prop} (s : Sub F H) : Sub (addF F H S) H := fun b u q => by
  by_cases z : S b
  · rw [addF_in z] at q; exact q
  · rw [addF_out z] at q; exact s b u q
/-- the dicts among S are locked -/
structure Lk (S : Addr → Prop) (H H2 : Hp) : Prop where
  out : ∀ c, ¬ S c → H2 c = H c
  at_ : ∀ c o, S c → H c = some o → Lk1 o (H2 c)
  non : ∀ c, H c = none → H2 c = none
theorem Lk1.there {o : HO} {x : Option HO} (h : Lk1 o x) : x ≠ none := by
  cases o <;> first
    | (obtain ⟨ob, e⟩ := h; rw [e]; simp)
    | (have e : x = some _ := h; rw [e]; simp)
theorem Lk.dom {S : Addr → Prop} {H H2 : Hp} (l : Lk S H H2) {c : Addr} (h : H c ≠ none) : H2 c ≠ none := by
  by_cases z : S c
  · obtain ⟨o, e⟩ := some_of h
    exact (l.at_ c o z e).there
  · rw [l.out c z]; exact h
/-- a new container is let go -/
theorem RS.let (s : RS K F ρ σ H) {H2 : Hp} {a : Addr} {d : D} (n : ∀ c, In H a d c → F c = none ∧ ¬ OS ρ σ H c) (l : Lk (In H a d) H H2) : RS K (addF F H2 (In H a d)) ρ σ H2 :=
  s.heap (addF_sub fun c hc => (n c hc).1) (addF_le fun b u e => by rw [l.out b fun z => by rw [(n b z).1] at e; cases e]; exact s.sub b u e) (fun c o hc h => by rw [l.out c fun z => (n c z).2 hc]; exact h)
    fun c hc => by rw [addF_out fun z => (n c z).2 hc]; exact s.osF hc
theorem Fr.let {F' H' H2 : Hp} {ρ' : Ev} {σ' : St} {a : Addr} {d : D} (b : Fr F ρ σ H F' ρ' σ' H') (s : RS K F' ρ' σ' H') (n : ∀ c, In H' a d c → F' c = none ∧ H c = none ∧ ¬ OS ρ' σ' H' c) (l : Lk (In H' a d) H' H2) : Fr F ρ σ H (addF F' H2 (In H' a d)) ρ' σ' H2 where
  ext := b.ext.trans (addF_sub fun c hc => (n c hc).1)
  keep := fun c o h nos => by rw [l.out c fun z => by rw [(n c z).2.1] at h; cases h]; exact b.keep c o h nos
  dom := fun c h => l.dom (b.dom c h)
  new := fun c e => by
    by_cases z : In H' a d c
    · exact .inr (.inl (n c z).2.1)
    · rw [addF_out z] at e; exact b.new c e
  ot := fun t c h => b.ot t c (OT.heap s (fun c o hc h => by rw [l.out c fun z => (n c z).2.2 hc]; exact h) h)
  lv := b.lv
theorem getElem?_set_some {α : Type} {l : List α} {i j : Nat} {x y : α} (h : (l.set i x)[j]? = some y) : (j = i ∧ y = x) ∨ (j ≠ i ∧ l[j]? = some y) := by
  by_cases z : j = i
  · subst z
    by_cases hl : j < l.length
    · rw [List.getElem?_set_self hl] at h; cases h; exact .inl ⟨rfl, rfl⟩
    · rw [List.getElem?_eq_none (by simpa using hl)] at h; cases h
  · rw [List.getElem?_set_ne (Ne.symm z)] at h; exact .inr ⟨z, h⟩
/-- a name's own container is let go -/
theorem RS.forget (s : RS K F ρ σ H) {i : Nat} {d : D} {v : V} (e1 : σ[i]? = some (some v)) (r : Rp K F v d) : RS K F (ρ.set i (.fz d)) σ H := by
  refine ⟨by rw [List.length_set]; exact s.len, s.sub, fun j d' q => ?_, fun j d' q => ?_, fun j k d' e' b b' c q1 q2 q3 q4 => ?_⟩
  · rcases getElem?_set_some q with ⟨rfl, q'⟩ | ⟨hj, q⟩
    · cases q'
      exact ⟨_, e1, r⟩
    · exact s.fz j d' q
  · rcases getElem?_set_some q with ⟨rfl, q'⟩ | ⟨hj, q⟩
    · cases q'
    · exact s.ow j d' q
  · rcases getElem?_set_some q1 with ⟨_, q⟩ | ⟨_, q1⟩
    · cases q
    · rcases getElem?_set_some q2 with ⟨_, q⟩ | ⟨_, q2⟩
      · cases q
      · exact s.inj j k d' e' b b' c q1 q2 q3 q4
/-- the slot i is hidden -/
theorem RS.hide (s : RS K F ρ σ H) (i : Nat) : RS K F (ρ.set i .un) σ H := by
  refine ⟨by rw [List.length_set]; exact s.len, s.sub, fun j d' q => ?_, fun j d' q => ?_, fun j k d' e' b b' c q1 q2 q3 q4 => ?_⟩
  · rcases getElem?_set_some q with ⟨rfl, q'⟩ | ⟨hj, q⟩
    · cases q'
    · exact s.fz j d' q
  · rcases getElem?_set_some q with ⟨rfl, q'⟩ | ⟨hj, q⟩
    · cases q'
    · exact s.ow j d' q
  · rcases getElem?_set_some q1 with ⟨_, q⟩ | ⟨_, q1⟩
    · cases q
    · rcases getElem?_set_some q2 with ⟨_, q⟩ | ⟨_, q2⟩
      · cases q
      · exact s.inj j k d' e' b b' c q1 q2 q3 q4
theorem OS.hide (s : RS K F ρ σ H) {i : Nat} {d : D} {a c : Addr} (e : ρ[i]? = some (.ow d)) (e1 : σ[i]? = some (some (.ref a))) : OS (ρ.set i .un) σ H c → OS ρ σ H c ∧ ¬ In H a d c := fun ⟨j, d', t, q1, q2, q3⟩ => by
  rcases getElem?_set_some q1 with ⟨_, q⟩ | ⟨n, q1⟩
  · cases q
  · exact ⟨⟨j, d', t, q1, q2, q3⟩, fun z => n (s.inj j i d' d t a c q1 e q2 e1 q3 z)⟩
theorem OT.hide {i : Nat} {t c : Addr} : OT (ρ.set i .un) σ H t c → OT ρ σ H t c := fun ⟨j, d', q1, q2, q3⟩ => by
  rcases getElem?_set_some q1 with ⟨_, q⟩ | ⟨n, q1⟩
  · cases q
  · exact ⟨j, d', q1, q2, q3⟩
theorem RS.letO (s : RS K F ρ σ H) {H2 : Hp} {i : Nat} {d : D} {a : Addr} (e : ρ[i]? = some (.ow d)) (e1 : σ[i]? = some (some (.ref a))) (l : Lk (In H a d) H H2) : RS K (addF F H2 (In H a d)) (ρ.set i (.fz (strip d))) σ H2 := by
  obtain ⟨a', e1', n, w⟩ := s.ow i d e
  rw [e1] at e1'
  cases e1'
  have h : RS K (addF F H2 (In H a d)) (ρ.set i .un) σ H2 := (s.hide i).let (a := a) (d := d) (fun c hc => ⟨n c hc, fun z => (OS.hide s e e1 z).2 hc⟩) l
  have h2 := h.forget (i := i) e1 (w.rp (addF_sub n) fun c o hc ho => by rw [addF_in hc]; exact l.at_ c o hc ho)
  rwa [List.set_set] at h2
theorem Fr.letO (s : RS K F ρ σ H) {H2 : Hp} {i : Nat} {d : D} {a : Addr} (e : ρ[i]? = some (.ow d)) (e1 : σ[i]? = some (some (.ref a))) (l : Lk (In H a d) H H2) : Fr F ρ σ H (addF F H2 (In H a d)) (ρ.set i (.fz (strip d))) σ H2 where
  ext := by
    obtain ⟨a', e1', n, w⟩ := s.ow i d e
    rw [e1] at e1'
    cases e1'
    exact addF_sub n
  keep := fun c o h nos => by rw [l.out c fun z => nos ⟨i, d, a, e, e1, z⟩]; exact h
  dom := fun _ h => l.dom h
  new := fun b q => by
    by_cases z : In H a d b
    · exact .inr (.inr ⟨i, d, a, e, e1, z⟩)
    · rw [addF_out z] at q; exact .inl q
  ot := fun t b ⟨j, d', q, q1, q2⟩ => by
    rcases getElem?_set_some q with ⟨_, q⟩ | ⟨n, q⟩
    · cases q
    · have h : OT (ρ.set i .un) σ H2 t b := ⟨j, d', by rw [List.getElem?_set_ne (Ne.symm n)]; exact q, q1, q2⟩
      exact .inl (OT.hide (OT.heap (s.hide i) (fun c o hc h => by rw [l.out c fun z => (OS.hide s e e1 hc).2 z]; exact h) h))
  lv := fun j ⟨d', q⟩ => by
    by_cases z : j = i
    · subst z
      refine ⟨strip d, .inr ?_⟩
      have hl : j < ρ.length := by
        rcases q with q | q <;> exact (List.getElem?_eq_some_iff.mp q).1
      rw [List.getElem?_set_self hl]
    · refine ⟨d', ?_⟩
      rw [List.getElem?_set_ne (Ne.symm z)]
      exact q
theorem Lk.none {H2 : Hp} (l : Lk (fun _ => False) H H2) : H2 = H := funext fun c => l.out c id
/-- an operand, let go -/
theorem freeze_ok {Q : VK} {v : V} {o : Opd} {F0 H0 : Hp} {ρ0 : Ev} (s : RS K F ρ σ H) (b : Fr F0 ρ0 σ H0 F ρ σ H) (h : OR K F ρ σ H0 H v o) (p : Po K W (RV K) F0 ρ0 σ H0 Q (cFreeze o ρ)) : ∃ S : Addr → Prop, ∀ H2, Lk S H H2 → Q v H2 := by
  cases o with
  | vl d => exact ⟨fun _ => False, fun H2 l => by rw [l.none]; exact p v F H s b h⟩
  | fr d =>
    obtain ⟨a, rfl, nn, w⟩ := h
    exact ⟨In H a d, fun H2 l => p _ (addF F H2 (In H a d)) H2 (s.let (fun c hc => ⟨(nn c hc).1, (nn c hc).2.2⟩) l) (b.let s nn l) (w.rp (addF_sub fun c hc => (nn c hc).1) fun c x hc hx => by rw [addF_in hc]; exact l.at_ c x hc hx)⟩
  | pl i =>
    obtain ⟨hσ, x, hx⟩ := h
    rcases hx with hx | hx
    · simp only [cFreeze, hx] at p
      obtain ⟨a, e, n, w⟩ := s.ow i _ hx
      rw [hσ] at e
      cases e
      exact ⟨In H a x, fun H2 l => p _ (addF F H2 (In H a _)) H2 (s.letO hx hσ l) (b.trans (Fr.letO s hx hσ l)) (w.rp (addF_sub n) fun c x hc hx => by rw [addF_in hc]; exact l.at_ c x hc hx)⟩
    · simp only [cFreeze, hx] at p
      obtain ⟨w, e, r⟩ := s.fz i _ hx
      rw [hσ] at e
      cases e
      exact ⟨fun _ => False, fun H2 l => by rw [l.none]; exact p _ F H s b r⟩
end
/-- the dicts of S are locked in the heap's description -/
theorem _root_.L2.Inv.locks {X : Cx} {pins : List (Addr × Obj)} {σ : St} {H : Hp} {s : Shared} (I : Inv X pins σ H s) (S : Addr → Prop) : ∃ H2, Lk S H H2 ∧ Inv X pins σ H2 s := by
  open Classical in
  let lk : Addr → HO → HO := fun a o => match o with
    | .dK kvs => .frz ((s.heap.get? a).getD {cls := .none, data := .fields #[]}) (.dK kvs)
    | .dT kvs => .frz ((s.heap.get? a).getD {cls := .none, data := .fields #[]}) (.dT kvs)
    | o => o
  refine ⟨fun a => if S a then (H a).map (lk a) else H a, ⟨fun c n => if_neg n, fun c o hc ho => ?_, fun c n => ?_⟩, ?_⟩
  · show Lk1 o (if S c then (H c).map (lk c) else H c)
    rw [if_pos hc, ho]
    cases o <;> first | exact ⟨_, rfl⟩ | rfl
  · show (if S c then (H c).map (lk c) else H c) = none
    rw [n]; split <;> rfl
  · have nn : ∀ b, H b = none → (if S b then (H b).map (lk b) else H b) = none := fun b n => by rw [n]; split <;> rfl
    have same : ∀ b o, H b = some o → (∀ kvs, o ≠ .dK kvs) → (∀ kvs, o ≠ .dT kvs) → (if S b then (H b).map (lk b) else H b) = some o := fun b o e n1 n2 => by
      rw [e]
      split
      · cases o <;> first | rfl | exact absurd rfl (n1 _) | exact absurd rfl (n2 _)
      · rfl
    have stay : ∀ b o, ObjOk X.prog X.w H s.heap b o → ObjOk X.prog X.w (fun a => if S a then (H a).map (lk a) else H a) s.heap b o := fun b o x =>
      x.stay (fun _ _ _ q => q) (fun c q => same c _ q (fun _ z => (nomatch z)) fun _ z => (nomatch z)) fun c xs q => same c _ q (fun _ z => (nomatch z)) fun _ z => (nomatch z)
    refine ⟨I.ok, I.os, I.bare, ⟨I.base.keep, I.base.slot, fun b o e n hx => nn b (I.base.free b o e n hx), I.base.there, fun b xs e => same b _ (I.base.tups b xs e) (fun _ z => (nomatch z)) fun _ z => (nomatch z), fun b o x e => same b _ (I.base.frzs b o x e) (fun _ z => (nomatch z)) fun _ z => (nomatch z), fun b ps e => ?_⟩, I.loc, I.cell, nn _ I.free, fun x c e => nn c (I.freeC x c e), fun p hp => ?_, fun b o e => ?_, I.len⟩
    · obtain ⟨m, q⟩ := I.base.tbls b ps e
      exact ⟨m, same b _ q (fun _ z => (nomatch z)) fun _ z => (nomatch z)⟩
    · obtain ⟨e, n, r⟩ := I.pin p hp
      exact ⟨e, nn _ n, r⟩
    · have e' : (if S b then (H b).map (lk b) else H b) = some o := e
      cases q : H b with
      | none => rw [nn b q] at e'; cases e'
      | some u =>
        have x := I.hok b u q
        by_cases hS : S b
        · rw [if_pos hS, q] at e'
          cases u with
          | dK kvs =>
            cases e'
            obtain ⟨y, hy⟩ : ∃ y, s.heap.get? b = some y := by obtain ⟨_, _, _, _, o, _, _, e, _⟩ := x; exact ⟨o, e⟩
            exact ⟨by rw [hy]; rfl, stay b _ x⟩
          | dT kvs =>
            cases e'
            obtain ⟨y, hy⟩ : ∃ y, s.heap.get? b = some y := by obtain ⟨_, _, _, _, o, _, _, e, _⟩ := x; exact ⟨o, e⟩
            exact ⟨by rw [hy]; rfl, stay b _ x⟩
          | _ => cases e'; exact stay b _ x
        · rw [if_neg hS, q] at e'
          cases e'
          exact stay b _ x
theorem _root_.L2.PE.shift {X : Cx} {e : Expr} {t : TE} (h : PE X e t) : PE X e (fun σ H Q => t σ H fun v H1 => ∃ S : Addr → Prop, ∀ H2, Lk S H1 H2 → Q v H2) := by
  refine ⟨fun pins s σ H Q I hw => ?_⟩
  refine thn (h.run pins s σ H _ I hw) fun v s1 ⟨x, H1, I1, r, S, q⟩ => ?_
  obtain ⟨H2, l, I2⟩ := I1.locks S
  exact ⟨x, H2, I2, r, q H2 l⟩
theorem JE.val {X : Cx} {W : WX} {e : Expr} {f : CEx} (h : JE X W e f) : JV X W e (cVal f) :=
  .by h.pe.shift fun σ H Q F ρ s p => ⟨F, ρ, s, by
    unfold cVal at p
    cases q : f ρ with
    | stk => rw [q] at p; exact p.elim
    | ex c d ρ' => rw [q] at p; exact p
    | ok o ρ' =>
      rw [q] at p
      exact fun v F' H' s' b' r' => freeze_ok s' b' r' p⟩
/-! ### operators by values -/
abbrev f2 (g : D → D → Option Opd) (oa ob : Opd) (ρ : Ev) : Res Opd := match useO ρ oa, useO ρ ob with
  | some x, some y => liftO ρ (g x y)
  | _, _ => .stk
abbrev f1 (g : D → Option Opd) (oa : Opd) (ρ : Ev) : Res Opd := match useO ρ oa with
  | some x => liftO ρ (g x)
  | _ => .stk
def cOp2 (g : D → D → Option Opd) (fa fb : CEx) : CEx := fun ρ => (fa ρ).bind fun oa ρ1 => (fb ρ1).bind fun ob ρ2 => f2 g oa ob ρ2
def cOp1 (g : D → Option Opd) (fa : CEx) : CEx := fun ρ => (fa ρ).bind fun oa ρ1 => f1 g oa ρ1
/-- r does what g says -/
def Sem2 (K : PySem.W.Frag) (r : R2) (g : D → D → Option Opd) : Prop := ∀ (W : WX) (F : Hp) (ρ : Ev) (σ : St) (H : Hp) (x y : V) (dx dy : D) (o : Opd) (Q : VK), RS K F ρ σ H → AR K F H x dx → AR K F H y dy → g dx dy = some o → Po K W (OR K) F ρ σ H Q (.ok o ρ) → r x y H Q
def Sem1 (K : PySem.W.Frag) (r : V → Hp → VK → Prop) (g : D → Option Opd) : Prop := ∀ (W : WX) (F : Hp) (ρ : Ev) (σ : St) (H : Hp) (x : V) (dx : D) (o : Opd) (Q : VK), RS K F ρ σ H → AR K F H x dx → g dx = some o → Po K W (OR K) F ρ σ H Q (.ok o ρ) → r x H Q
section
variable {X : Cx} {W : WX} {a b : Expr} {fa fb : CEx}
theorem tOp_ok {r : R2} {g : D → D → Option Opd} (sm : Sem2 X.K r g) {σ : St} {H F : Hp} {Q : VK} {ρ : Ev} (s : RS X.K F ρ σ H) (p : Po X.K W (OR X.K) F ρ σ H Q (cOp2 g fa fb ρ)) : tOp r (tX X.K W fa) (tX X.K W fb) σ H Q :=
  ⟨F, ρ, s, p.bind (fun _ _ _ _ _ _ b => OR.dom b) fun oa ρ1 va F1 H1 s1 b1 r1 p1 => ⟨F1, ρ1, s1, p1.bind (fun _ _ _ _ _ _ b => OR.dom b) fun ob ρ2 vb F2 H2 s2 b2 r2 p2 => by
    have r1' := r1.step b2
    unfold f2 at p2
    cases e1 : useO ρ2 oa with
    | none => rw [e1] at p2; exact p2.elim
    | some x =>
      cases e2 : useO ρ2 ob with
      | none => rw [e1, e2] at p2; exact p2.elim
      | some y =>
        rw [e1, e2] at p2
        cases e3 : g x y with
        | none => simp only [e3] at p2; exact p2.elim
        | some o =>
          simp only [e3] at p2
          exact sm W F2 ρ2 σ H2 va vb x y o Q s2 (.of s2 r1' e1) (.of s2 r2 e2) e3 p2⟩⟩
theorem tUn_ok {r : V → Hp → VK → Prop} {g : D → Option Opd} (sm : Sem1 X.K r g) {σ : St} {H F : Hp} {Q : VK} {ρ : Ev} (s : RS X.K F ρ σ H) (p : Po X.K W (OR X.K) F ρ σ H Q (cOp1 g fa ρ)) : tUn r (tX X.K W fa) σ H Q :=
  ⟨F, ρ, s, p.bind (fun _ _ _ _ _ _ b => OR.dom b) fun oa ρ1 va F1 H1 s1 b1 r1 p1 => by
    unfold f1 at p1
    cases e1 : useO ρ1 oa with
    | none => rw [e1] at p1; exact p1.elim
    | some x =>
      rw [e1] at p1
      cases e3 : g x with
      | none => simp only [e3] at p1; exact p1.elim
      | some o =>
        simp only [e3] at p1
        exact sm W F1 ρ1 σ H1 va x o Q s1 (.of s1 r1 e1) e3 p1⟩
theorem je_bin {op : Operator} {pos : Pos} {r : R2} {g : D → D → Option Opd} (ho : OpR X (binaryOp op) r) (sm : Sem2 X.K r g) (ha : JE X W a fa) (hb : JE X W b fb) : JE X W (.BinOp a op b pos) (cOp2 g fa fb) :=
  .by (pe_op ho ha.pe hb.pe) fun _ _ _ _ _ s p => tOp_ok sm s p
theorem je_un {op : UnaryOp} {pos : Pos} {r : V → Hp → VK → Prop} {g : D → Option Opd} (ho : UnR X (unaryOp op) r) (sm : Sem1 X.K r g) (ha : JE X W a fa) : JE X W (.UnaryOp op a pos) (cOp1 g fa) :=
  .by (pe_un ho ha.pe) fun _ _ _ _ _ s p => tUn_ok sm s p
theorem je_cmp {op : CmpOp} {pos : Pos} {r : R2} {g : D → D → Option Opd} (ho : OpR X (compareOp op) r) (sm : Sem2 X.K r g) (ha : JE X W a fa) (hb : JE X W b fb) (hm : behindInMarks op b = false) : JE X W (.Compare a [op] [b] pos) (cOp2 g fa fb) :=
  .by (pe_cmpR ho ha.pe hb.pe hm) fun _ _ _ _ _ s p => tOp_ok sm s p
end
theorem OpR.or {X : Cx} {f : Value → Value → Sem Value} {r r' : R2} (h : OpR X f r) (h' : OpR X f r') : OpR X f (fun x y H Q => r x y H Q ∨ r' x y H Q) := by
  intro pins s σ H x y v u Q I rx ry q
  rcases q with q | q
  · exact h pins s σ H x y v u Q I rx ry q
  · exact h' pins s σ H x y v u Q I rx ry q
theorem Sem2.or {K : PySem.W.Frag} {r r' : R2} {g g' : D → D → Option Opd} (h : Sem2 K r g) (h' : Sem2 K r' g') : Sem2 K (fun x y H Q => r x y H Q ∨ r' x y H Q) (fun x y => match g x y with
    | some o => some o
    | none => g' x y) := fun W F ρ σ H x y dx dy o Q s ax ay e p => by
  cases q : g dx dy with
  | some u =>
    simp only [q] at e
    cases e
    exact .inl (h W F ρ σ H x y dx dy _ Q s ax ay q p)
  | none =>
    simp only [q] at e
    exact .inr (h' W F ρ σ H x y dx dy _ Q s ax ay e p)
end PL
/-! PL2: tests, and statements: blocks, assignments, if, return, while, for -/
namespace PL
open PySem PySem.Spec L2
/-! ### tests -/
section
variable {X : Cx} {W : WX} {a b c : Expr} {fa fb : CEx} {pos : Pos}
def cTru (f : CEx) : Ev → Res Bool := fun ρ => (f ρ).bind fun o ρ' => match o with
  | .vl (.bl b) => .ok b ρ'
  | _ => .stk
/-- a comparison, a call: its value is a bool -/
theorem jt_val {e : Expr} {f : CEx} (h : JE X W e f) (he : ∀ whole, isTrue e X.env whole = (do let v ← whole; standAt e.pos; holding [v] (truthy v)) := by intro _; rfl) : JT X W e (cTru f) :=
  .by (pt_val h.pe he) fun σ H Q F ρ s p => ⟨F, ρ, s, p.bind (fun _ _ _ _ _ _ _ h => h) fun o ρ' v F' H' s' b' r' p' => by
    cases o with
    | vl d =>
      cases d with
      | bl k =>
        have e : v = .bl k := by cases r'; rfl
        exact ⟨k, e, p'.here s' rfl⟩
      | _ => exact p'.elim
    | _ => exact p'.elim⟩
theorem jt_cmp {op : CmpOp} {r : R2} {g : D → D → Option Opd} (ho : OpR X (compareOp op) r) (sm : Sem2 X.K r g) (ha : JE X W a fa) (hb : JE X W b fb) (hm : behindInMarks op b = false) : JT X W (.Compare a [op] [b] pos) (cTru (cOp2 g fa fb)) := by
  refine .by (pt_cmpR ho ha.pe hb.pe hm) fun σ H Q F ρ s p => ?_
  have p1 : Po X.K W (OR X.K) F ρ σ H (fun x H' => ∃ k, x = .bl k ∧ Q k H') (cOp2 g fa fb ρ) := p.bind (fun _ _ _ _ _ _ _ h => h) fun o ρ' v F' H' s' b' r' p' => by
    cases o with
    | vl d =>
      cases d with
      | bl k =>
        have e : v = .bl k := by cases r'; rfl
        exact ⟨k, e, p'.here s' rfl⟩
      | _ => exact p'.elim
    | _ => exact p'.elim
  exact tOp_ok sm s p1
theorem jw_pt {e : Expr} {f : Ev → Res Bool} (h : JW X W e f) : JT X W e f := ⟨h.pw.pt⟩
theorem JW.by {X : Cx} {W : WX} {e : Expr} {f : Ev → Res Bool} {t : TT} (h : PW X e t) (c : ∀ σ H Q F ρ, RS X.K F ρ σ H → Po X.K W RB F ρ σ H Q (f ρ) → t σ H Q) : JW X W e f :=
  ⟨⟨fun whole pins s σ H Q I ⟨F, ρ, r, p⟩ => h.run whole pins s σ H Q I (c σ H Q F ρ r p)⟩⟩
def cAnd (f g : Ev → Res Bool) : Ev → Res Bool := fun ρ => (f ρ).bind fun k ρ' => if k = true then g ρ' else .ok false ρ'
def cOr (f g : Ev → Res Bool) : Ev → Res Bool := fun ρ => (f ρ).bind fun k ρ' => if k = true then .ok true ρ' else g ρ'
def cNot (f : Ev → Res Bool) : Ev → Res Bool := fun ρ => (f ρ).bind fun k ρ' => .ok (!k) ρ'
variable {ta tb : Ev → Res Bool} {rest : List Expr}
theorem jw_and1 (ha : JT X W a ta) : JW X W (.BoolOp .And [a] pos) ta := .by (pw_and1 ha.pt) fun _ _ _ F ρ s p => ⟨F, ρ, s, p⟩
theorem jw_or1 (ha : JT X W a ta) : JW X W (.BoolOp .Or [a] pos) ta := .by (pw_or1 ha.pt) fun _ _ _ F ρ s p => ⟨F, ρ, s, p⟩
theorem jw_and (ha : JT X W a ta) (hb : JW X W (.BoolOp .And (b :: rest) pos) tb) : JW X W (.BoolOp .And (a :: b :: rest) pos) (cAnd ta tb) :=
  .by (pw_and ha.pt hb.pw) fun σ H Q F ρ s p => ⟨F, ρ, s, p.bind (fun _ _ _ _ _ _ _ h => h) fun k ρ' v F' H' s' b' r' p' => by
    have e : v = k := r'
    subst e
    show if v = true then _ else _
    cases v with
    | true => rw [if_pos rfl] at p' ⊢; exact ⟨F', ρ', s', p'⟩
    | false => rw [if_neg Bool.false_ne_true] at p' ⊢; exact p'.here s' rfl⟩
theorem jw_or (ha : JT X W a ta) (hb : JW X W (.BoolOp .Or (b :: rest) pos) tb) : JW X W (.BoolOp .Or (a :: b :: rest) pos) (cOr ta tb) :=
  .by (pw_or ha.pt hb.pw) fun σ H Q F ρ s p => ⟨F, ρ, s, p.bind (fun _ _ _ _ _ _ _ h => h) fun k ρ' v F' H' s' b' r' p' => by
    have e : v = k := r'
    subst e
    show if v = true then _ else _
    cases v with
    | false => rw [if_neg Bool.false_ne_true] at p' ⊢; exact ⟨F', ρ', s', p'⟩
    | true => rw [if_pos rfl] at p' ⊢; exact p'.here s' rfl⟩
theorem jt_not (ha : JT X W a ta) : JT X W (.UnaryOp .Not a pos) (cNot ta) :=
  .by (pt_not ha.pt) fun σ H Q F ρ s p => ⟨F, ρ, s, p.bind (fun _ _ _ _ _ _ _ h => h) fun k ρ' v F' H' s' b' r' p' => by
    have e : v = k := r'
    subst e
    exact p'.here s' rfl⟩
/-- as values: x and y, x or y, not x of bools -/
def cAndV (f g : CEx) : CEx := fun ρ => (f ρ).bind fun o ρ' => match o with
  | .vl (.bl k) => if k = true then g ρ' else .ok (.vl (.bl false)) ρ'
  | _ => .stk
def cOrV (f g : CEx) : CEx := fun ρ => (f ρ).bind fun o ρ' => match o with
  | .vl (.bl k) => if k = true then .ok (.vl (.bl true)) ρ' else g ρ'
  | _ => .stk
def cNotV (f : CEx) : CEx := fun ρ => (f ρ).bind fun o ρ' => match o with
  | .vl (.bl k) => .ok (.vl (.bl (!k))) ρ'
  | _ => .stk
theorem je_one {op : BoolOp} (ha : JE X W a fa) : JE X W (.BoolOp op [a] pos) fa := .by (pe_one ha.pe) fun _ _ _ F ρ s p => ⟨F, ρ, s, p⟩
theorem je_and (ha : JE X W a fa) (hb : JE X W (.BoolOp .And (b :: rest) pos) fb) : JE X W (.BoolOp .And (a :: b :: rest) pos) (cAndV fa fb) :=
  .by (pe_and ha.pe hb.pe) fun σ H Q F ρ s p => ⟨F, ρ, s, p.bind (fun _ _ _ _ _ _ b => OR.dom b) fun o ρ' v F' H' s' b' r' p' => by
    cases o with
    | vl d =>
      cases d with
      | bl k =>
        have e : v = .bl k := by cases r'; rfl
        refine ⟨k, e, ?_⟩
        cases k with
        | true => exact ⟨F', ρ', s', p'⟩
        | false => exact p'.here s' (.bl false)
      | _ => exact p'.elim
    | _ => exact p'.elim⟩
theorem je_or (ha : JE X W a fa) (hb : JE X W (.BoolOp .Or (b :: rest) pos) fb) : JE X W (.BoolOp .Or (a :: b :: rest) pos) (cOrV fa fb) :=
  .by (pe_or ha.pe hb.pe) fun σ H Q F ρ s p => ⟨F, ρ, s, p.bind (fun _ _ _ _ _ _ b => OR.dom b) fun o ρ' v F' H' s' b' r' p' => by
    cases o with
    | vl d =>
      cases d with
      | bl k =>
        have e : v = .bl k := by cases r'; rfl
        refine ⟨k, e, ?_⟩
        cases k with
        | false => exact ⟨F', ρ', s', p'⟩
        | true => exact p'.here s' (.bl true)
      | _ => exact p'.elim
    | _ => exact p'.elim⟩
theorem je_not (ha : JE X W a fa) : JE X W (.UnaryOp .Not a pos) (cNotV fa) :=
  .by (pe_not ha.pe) fun σ H Q F ρ s p => ⟨F, ρ, s, p.bind (fun _ _ _ _ _ _ b => OR.dom b) fun o ρ' v F' H' s' b' r' p' => by
    cases o with
    | vl d =>
      cases d with
      | bl k =>
        have e : v = .bl k := by cases r'; rfl
        exact ⟨k, e, p'.here s' (.bl _)⟩
      | _ => exact p'.elim
    | _ => exact p'.elim⟩
def cIfE (t : Ev → Res Bool) (f g : CEx) : CEx := fun ρ => (t ρ).bind fun k ρ' => if k = true then f ρ' else g ρ'
theorem je_ifExp {tc : Ev → Res Bool} (hc : JT X W c tc) (ha : JE X W a fa) (hb : JE X W b fb) : JE X W (.IfExp c a b pos) (cIfE tc fa fb) :=
  .by (pe_ifExp hc.pt ha.pe hb.pe) fun σ H Q F ρ s p => ⟨F, ρ, s, p.bind (fun _ _ _ _ _ _ b => OR.dom b) fun k ρ' v F' H' s' b' r' p' => by
    have e : v = k := r'
    subst e
    show if v = true then _ else _
    cases v with
    | true => rw [if_pos rfl] at p' ⊢; exact ⟨F', ρ', s', p'⟩
    | false => rw [if_neg Bool.false_ne_true] at p' ⊢; exact ⟨F', ρ', s', p'⟩⟩
end
/-! ### statements -/
inductive SRes where
  | nx (ρ : Ev) | ret (o : Opd) (ρ : Ev) | bk (ρ : Ev) | ct (ρ : Ev) | ex (c : Str) (d : D) (ρ : Ev) | stk
abbrev CSt := Ev → SRes
def Res.sbind {α : Type} : Res α → (α → Ev → SRes) → SRes
  | .ok a ρ, k => k a ρ
  | .ex c d ρ, _ => .ex c d ρ
  | .stk, _ => .stk
def SRes.sbind : SRes → (Ev → SRes) → SRes
  | .nx ρ, k => k ρ
  | r, _ => r
/-- the names at these places hold what they held -/
def Pin (P : List Nat) (σ σ' : St) : Prop := ∀ i ∈ P, σ'[i]? = σ[i]?
theorem Pin.refl (P : List Nat) (σ : St) : Pin P σ σ := fun _ _ => rfl
theorem Pin.trans {P : List Nat} {σ σ1 σ2 : St} (a : Pin P σ σ1) (b : Pin P σ1 σ2) : Pin P σ σ2 := fun i hi => (b i hi).trans (a i hi)
section
variable (K : PySem.W.Frag) (W : WX) (P : List Nat)
def sAt (F : Hp) (ρ : Ev) (σ : St) (H : Hp) (Q : St → Hp → Prop) (ρ' : Ev) : Prop := ∀ σ' F' H', RS K F' ρ' σ' H' → Fr F ρ σ H F' ρ' σ' H' → Pin P σ σ' → Q σ' H'
/-- what is wanted of a statement -/
def Ps (F : Hp) (ρ : Ev) (σ : St) (H : Hp) (D : Ends) : SRes → Prop
  | .nx ρ' => sAt K P F ρ σ H D.nx ρ'
  | .bk ρ' => sAt K P F ρ σ H D.bk ρ'
  | .ct ρ' => sAt K P F ρ σ H D.ct ρ'
  | .ret o ρ' => ∀ v σ' F' H', RS K F' ρ' σ' H' → Fr F ρ σ H F' ρ' σ' H' → Pin P σ σ' → OR K F' ρ' σ' H H' v o → D.rt v H'
  | .ex c d ρ' => ∀ dx v σ' F' H', RS K F' ρ' σ' H' → Fr F ρ σ H F' ρ' σ' H' → Pin P σ σ' → Rp K F' v d → F' dx = some (.xd [("value", v)]) → W (.ref (He.ga K c)) (some dx) σ' H'
  | .stk => False
def tS (f : CSt) : TS := fun D σ H => ∃ F ρ, RS K F ρ σ H ∧ Ps K W P F ρ σ H D (f ρ)
end
structure JS (X : Cx) (W : WX) (P : List Nat) (st : Stmt) (f : CSt) : Prop where ps : PS X st (tS X.K W P f)
structure JSs (X : Cx) (W : WX) (P : List Nat) (sts : List Stmt) (f : CSt) : Prop where pss : PSs X sts (tS X.K W P f)
theorem JS.by {X : Cx} {W : WX} {P : List Nat} {st : Stmt} {f : CSt} {t : TS} (h : PS X st t) (c : ∀ D σ H F ρ, RS X.K F ρ σ H → Ps X.K W P F ρ σ H D (f ρ) → t D σ H) : JS X W P st f :=
  ⟨⟨fun pins s σ H D I ⟨F, ρ, r, p⟩ => h.run pins s σ H D I (c D σ H F ρ r p)⟩⟩
theorem JSs.by {X : Cx} {W : WX} {P : List Nat} {st : List Stmt} {f : CSt} {t : TS} (h : PSs X st t) (c : ∀ D σ H F ρ, RS X.K F ρ σ H → Ps X.K W P F ρ σ H D (f ρ) → t D σ H) : JSs X W P st f :=
  ⟨⟨fun pins s σ H D I ⟨F, ρ, r, p⟩ => h.run pins s σ H D I (c D σ H F ρ r p)⟩⟩
section
variable {K : PySem.W.Frag} {W : WX} {P : List Nat} {F F1 H H1 : Hp} {ρ ρ1 : Ev} {σ σ1 : St} {D : Ends}
theorem OR.backS {F' H' : Hp} {ρ' : Ev} {σ' : St} {v : V} {o : Opd} (b : ∀ a, H a ≠ none → H1 a ≠ none) (h : OR K F' ρ' σ' H1 H' v o) : OR K F' ρ' σ' H H' v o := by
  cases o with
  | pl i => exact h
  | vl d => exact h
  | fr d =>
    obtain ⟨a, e, nn, hw⟩ := h
    exact ⟨a, e, fun c hc => ⟨(nn c hc).1, Classical.byContradiction fun z => b c z (nn c hc).2.1, (nn c hc).2.2⟩, hw⟩
theorem Ps.from (b : Fr F ρ σ H F1 ρ1 σ1 H1) (pn : Pin P σ σ1) {r : SRes} (h : Ps K W P F ρ σ H D r) : Ps K W P F1 ρ1 σ1 H1 D r := by
  cases r with
  | nx ρ' => exact fun σ' F' H' s r' q => h σ' F' H' s (b.trans r') (pn.trans q)
  | bk ρ' => exact fun σ' F' H' s r' q => h σ' F' H' s (b.trans r') (pn.trans q)
  | ct ρ' => exact fun σ' F' H' s r' q => h σ' F' H' s (b.trans r') (pn.trans q)
  | ret o ρ' => exact fun v σ' F' H' s r' q z => h v σ' F' H' s (b.trans r') (pn.trans q) (OR.backS b.dom z)
  | ex c d ρ' => exact fun dx v σ' F' H' s r' q => h dx v σ' F' H' s (b.trans r') (pn.trans q)
  | stk => exact h
/-- an expression ahead of the rest of a statement -/
theorem Ps.ebind {α β : Type} {R : Hp → Ev → St → Hp → Hp → β → α → Prop} {Q1 : β → Hp → Prop} {r : Res α} {k : α → Ev → SRes} (h : Ps K W P F ρ σ H D (r.sbind k))
    (c : ∀ o ρ1 v F1 H1, RS K F1 ρ1 σ H1 → Fr F ρ σ H F1 ρ1 σ H1 → R F1 ρ1 σ H H1 v o → Ps K W P F1 ρ1 σ H1 D (k o ρ1) → Q1 v H1) : Po K W R F ρ σ H Q1 r := by
  cases r with
  | ok o ρ1 => exact fun v F1 H1 s b hv => c o ρ1 v F1 H1 s b hv (h.from b (Pin.refl _ _))
  | ex c d ρ1 => exact fun dx v F' H' s r' => h dx v σ F' H' s r' (Pin.refl _ _)
  | stk => exact h
theorem Ps.seq {D' : Ends} {r : SRes} {k : Ev → SRes} (h : Ps K W P F ρ σ H D (r.sbind k)) (e : D'.rt = D.rt ∧ D'.bk = D.bk ∧ D'.ct = D.ct)
    (c : ∀ ρ1 σ1 F1 H1, RS K F1 ρ1 σ1 H1 → Fr F ρ σ H F1 ρ1 σ1 H1 → Ps K W P F1 ρ1 σ1 H1 D (k ρ1) → D'.nx σ1 H1) : Ps K W P F ρ σ H D' r := by
  obtain ⟨e1, e2, e3⟩ := e
  cases r with
  | nx ρ' => exact fun σ' F' H' s r' q => c ρ' σ' F' H' s r' (Ps.from r' q h)
  | bk ρ' => unfold Ps; rw [e2]; exact h
  | ct ρ' => unfold Ps; rw [e3]; exact h
  | ret o ρ' => unfold Ps; rw [e1]; exact h
  | ex c d ρ' => exact h
  | stk => exact h
theorem Ps.here (s : RS K F ρ σ H) (h : Ps K W P F ρ σ H D (.nx ρ)) : D.nx σ H := h σ F H s (Fr.refl ..) (Pin.refl _ _)
end
section
variable {X : Cx} {W : WX} {P : List Nat} {st : Stmt} {rest : List Stmt} {f g : CSt} {pos : Pos} {e : Expr} {fe : CEx}
def cNil : CSt := fun ρ => .nx ρ
def cSeq (f g : CSt) : CSt := fun ρ => (f ρ).sbind g
theorem jss_nil : JSs X W P [] cNil := .by pss_nil fun D σ H F ρ s p => p.here s
theorem jss_one (h : JS X W P st f) : JSs X W P [st] f := .by (pss_one h.ps) fun D σ H F ρ s p => ⟨F, ρ, s, p⟩
theorem jss_cons (h : JS X W P st f) (hr : JSs X W P rest g) : JSs X W P (st :: rest) (cSeq f g) :=
  .by (pss_cons h.ps hr.pss) fun D σ H F ρ s p => ⟨F, ρ, s, p.seq ⟨rfl, rfl, rfl⟩ fun ρ1 σ1 F1 H1 s1 b1 p1 => ⟨F1, ρ1, s1, p1⟩⟩
theorem js_pass : JS X W P (.Pass pos) cNil := .by ps_pass fun D σ H F ρ s p => p.here s
def cBk : CSt := fun ρ => .bk ρ
def cCt : CSt := fun ρ => .ct ρ
theorem js_break : JS X W P (.Break pos) cBk := .by ps_break fun D σ H F ρ s p => p σ F H s (Fr.refl ..) (Pin.refl _ _)
theorem js_continue : JS X W P (.Continue pos) cCt := .by ps_continue fun D σ H F ρ s p => p σ F H s (Fr.refl ..) (Pin.refl _ _)
def cExpr (fe : CEx) : CSt := fun ρ => (fe ρ).sbind fun _ ρ' => .nx ρ'
theorem js_expr (he : JE X W e fe) (hs : swapsWith e none pos.line X.env = pure false := by rfl) : JS X W P (.Expr e pos) (cExpr fe) :=
  .by (ps_expr he.pe hs) fun D σ H F ρ s p => ⟨F, ρ, s, p.ebind fun o ρ1 v F1 H1 s1 b1 r1 p1 => p1.here s1⟩
theorem js_doc {x : Str} {j : Nat} {pos' : Pos} : JS X W P (.Expr (.Constant (.str x) j pos) pos') cNil := .by ps_doc fun D σ H F ρ s p => p.here s
def cRet (fe : CEx) : CSt := fun ρ => (fe ρ).sbind fun o ρ' => .ret o ρ'
theorem js_ret (he : JE X W e fe) : JS X W P (.Return (some e) pos) (cRet fe) :=
  .by (ps_ret he.pe) fun D σ H F ρ s p => ⟨F, ρ, s, by
    unfold cRet at p
    cases q : fe ρ with
    | stk => rw [q] at p; exact p
    | ex c d ρ' => rw [q] at p; exact fun dx v F' H' s r' => p dx v σ F' H' s r' (Pin.refl _ _)
    | ok o ρ' => rw [q] at p; exact fun v F' H' s' b' r' => p v σ F' H' s' b' (Pin.refl _ _) r'⟩
def cRetN : CSt := fun ρ => .ret (.vl .non) ρ
theorem js_retN : JS X W P (.Return none pos) cRetN := .by ps_retN fun D σ H F ρ s p => p .non σ F H s (Fr.refl ..) (Pin.refl _ _) .non
def cIf (t : Ev → Res Bool) (f g : CSt) : CSt := fun ρ => (t ρ).sbind fun k ρ' => if k = true then f ρ' else g ρ'
theorem js_if {c : Expr} {a b : List Stmt} {tc : Ev → Res Bool} (hc : JT X W c tc) (ha : JSs X W P a f) (hb : JSs X W P b g) : JS X W P (.If c a b pos) (cIf tc f g) :=
  .by (ps_if hc.pt ha.pss hb.pss) fun D σ H F ρ s p => ⟨F, ρ, s, p.ebind fun k ρ' v F' H' s' b' r' p' => by
    have e : v = k := r'
    subst e
    cases v with
    | true => exact ⟨F', ρ', s', p'⟩
    | false => exact ⟨F', ρ', s', p'⟩⟩
def cNever : CSt := fun _ => .stk
theorem js_never : JS X W P st cNever := .by ps_never fun D σ H F ρ s p => p
end
/-! ### storing -/
/-- what a name gets: a new container becomes its own; what another name held alone is let go -/
def setC (i : Nat) (o : Opd) (ρ : Ev) : Option Ev := match o with
  | .vl d => some (ρ.set i (.fz d))
  | .fr d => some (ρ.set i (.ow d))
  | .pl j => match ρ[j]? with
    | some (.ow d) => some ((ρ.set j (.fz (strip d))).set i (.fz (strip d)))
    | some (.fz d) => some (ρ.set i (.fz d))
    | _ => none
section
variable {K : PySem.W.Frag} {W : WX} {P : List Nat} {F F0 H H0 : Hp} {ρ ρ0 : Ev} {σ σ0 : St}
theorem set_get {α : Type} {l : List α} {i j : Nat} {x : α} (h : i < l.length) : (l.set i x)[j]? = if j = i then some x else l[j]? := by
  by_cases z : j = i
  · subst z; rw [if_pos rfl, List.getElem?_set_self h]
  · rw [if_neg z, List.getElem?_set_ne (Ne.symm z)]
/-- a value is stored -/
theorem RS.setF (s : RS K F ρ σ H) {i : Nat} {d : D} {v : V} (r : Rp K F v d) : RS K F (ρ.set i (.fz d)) (σ.set i (some v)) H := by
  refine ⟨by simp [s.len], s.sub, fun j e h => ?_, fun j e h => ?_, fun j k d' e' s1 t1 a h1 h2 h3 h4 => ?_⟩
  · rcases getElem?_set_some h with ⟨rfl, q⟩ | ⟨hj, h⟩
    · cases q
      have hl : j < σ.length := by
        have := (List.getElem?_eq_some_iff.mp h).1
        rw [List.length_set, s.len] at this
        exact this
      exact ⟨v, List.getElem?_set_self hl, r⟩
    · obtain ⟨w, e1, r1⟩ := s.fz j e h
      exact ⟨w, by rw [List.getElem?_set_ne (Ne.symm hj)]; exact e1, r1⟩
  · rcases getElem?_set_some h with ⟨rfl, q⟩ | ⟨hj, h⟩
    · cases q
    · obtain ⟨a, e1, n, w⟩ := s.ow j e h
      exact ⟨a, by rw [List.getElem?_set_ne (Ne.symm hj)]; exact e1, n, w⟩
  · rcases getElem?_set_some h1 with ⟨_, q⟩ | ⟨hj, h1⟩
    · cases q
    rcases getElem?_set_some h2 with ⟨_, q⟩ | ⟨hk, h2⟩
    · cases q
    rw [List.getElem?_set_ne (Ne.symm hj)] at h3
    rw [List.getElem?_set_ne (Ne.symm hk)] at h4
    exact s.inj j k d' e' s1 t1 a h1 h2 h3 h4
theorem OS.setF {i : Nat} {d : D} {v : V} {a : Addr} (h : OS (ρ.set i (.fz d)) (σ.set i (some v)) H a) : OS ρ σ H a := by
  obtain ⟨j, e, t, h1, h2, h3⟩ := h
  rcases getElem?_set_some h1 with ⟨_, q⟩ | ⟨hj, h1⟩
  · cases q
  · rw [List.getElem?_set_ne (Ne.symm hj)] at h2
    exact ⟨j, e, t, h1, h2, h3⟩
theorem OT.setF {i : Nat} {d : D} {v : V} {t a : Addr} (h : OT (ρ.set i (.fz d)) (σ.set i (some v)) H t a) : OT ρ σ H t a := by
  obtain ⟨j, e, h1, h2, h3⟩ := h
  rcases getElem?_set_some h1 with ⟨_, q⟩ | ⟨hj, h1⟩
  · cases q
  · rw [List.getElem?_set_ne (Ne.symm hj)] at h2
    exact ⟨j, e, h1, h2, h3⟩
theorem Lv.set {i : Nat} {c : Cell} (hc : ∃ d, c = .ow d ∨ c = .fz d) {j : Nat} (h : Lv ρ j) : Lv (ρ.set i c) j := by
  by_cases z : j = i
  · subst z
    obtain ⟨d, hd⟩ := hc
    refine ⟨d, ?_⟩
    have hl : j < ρ.length := by
      obtain ⟨x, hx⟩ := h
      rcases hx with hx | hx <;> exact (List.getElem?_eq_some_iff.mp hx).1
    rw [List.getElem?_set_self hl]
    rcases hd with rfl | rfl
    · exact .inl rfl
    · exact .inr rfl
  · obtain ⟨x, hx⟩ := h
    refine ⟨x, ?_⟩
    rw [List.getElem?_set_ne (Ne.symm z)]
    exact hx
theorem Fr.setF (b : Fr F0 ρ0 σ0 H0 F ρ σ H) {i : Nat} {d : D} {v : V} : Fr F0 ρ0 σ0 H0 F (ρ.set i (.fz d)) (σ.set i (some v)) H :=
  ⟨b.ext, b.keep, b.dom, b.new, fun t a h => b.ot t a h.setF, fun j h => Lv.set ⟨d, .inr rfl⟩ (b.lv j h)⟩
/-- a new container is stored -/
theorem RS.setO (s : RS K F ρ σ H) {i : Nat} {d : D} {a : Addr} (n : ∀ c, In H a d c → F c = none ∧ ¬ OS ρ σ H c) (w : Own K F H a d) : RS K F (ρ.set i (.ow d)) (σ.set i (some (.ref a))) H := by
  refine ⟨by simp [s.len], s.sub, fun j e h => ?_, fun j e h => ?_, fun j k d' e' s1 t1 b h1 h2 h3 h4 h5 h6 => ?_⟩
  · rcases getElem?_set_some h with ⟨_, q⟩ | ⟨hj, h⟩
    · cases q
    · obtain ⟨w, e1, r1⟩ := s.fz j e h
      exact ⟨w, by rw [List.getElem?_set_ne (Ne.symm hj)]; exact e1, r1⟩
  · rcases getElem?_set_some h with ⟨rfl, q⟩ | ⟨hj, h⟩
    · cases q
      have hl : j < σ.length := by
        have := (List.getElem?_eq_some_iff.mp h).1
        rw [List.length_set, s.len] at this
        exact this
      exact ⟨a, List.getElem?_set_self hl, fun c hc => (n c hc).1, w⟩
    · obtain ⟨b, e1, n1, w1⟩ := s.ow j e h
      exact ⟨b, by rw [List.getElem?_set_ne (Ne.symm hj)]; exact e1, n1, w1⟩
  · have at_ : ∀ (m : Nat) (x : D) (t : Addr), (ρ.set i (.ow d))[m]? = some (.ow x) → (σ.set i (some (.ref a)))[m]? = some (some (.ref t)) → (m = i ∧ t = a ∧ x = d) ∨ (m ≠ i ∧ ρ[m]? = some (.ow x) ∧ σ[m]? = some (some (.ref t))) := fun m x t q1 q2 => by
      by_cases z : m = i
      · subst z
        have hl : m < σ.length := by
          have := (List.getElem?_eq_some_iff.mp q1).1
          rw [List.length_set, s.len] at this
          exact this
        rw [List.getElem?_set_self hl] at q2
        cases q2
        rw [List.getElem?_set_self (by rw [s.len]; exact hl)] at q1
        cases q1
        exact .inl ⟨rfl, rfl, rfl⟩
      · rw [List.getElem?_set_ne (Ne.symm z)] at q1 q2
        exact .inr ⟨z, q1, q2⟩
    rcases at_ j d' s1 h1 h3 with ⟨e1, e2, e3⟩ | ⟨n1, q1, q2⟩
    · rcases at_ k e' t1 h2 h4 with ⟨e4, _⟩ | ⟨_, q3, q4⟩
      · rw [e1, e4]
      · subst e2 e3; exact ((n b h5).2 ⟨k, e', t1, q3, q4, h6⟩).elim
    · rcases at_ k e' t1 h2 h4 with ⟨_, e4, e5⟩ | ⟨_, q3, q4⟩
      · subst e4 e5; exact ((n b h6).2 ⟨j, d', s1, q1, q2, h5⟩).elim
      · exact s.inj j k d' e' s1 t1 b q1 q3 q2 q4 h5 h6
theorem Fr.setO (b : Fr F0 ρ0 σ0 H0 F ρ σ H) {i : Nat} {d : D} {a : Addr} (n0 : ∀ c, In H a d c → H0 c = none) : Fr F0 ρ0 σ0 H0 F (ρ.set i (.ow d)) (σ.set i (some (.ref a))) H := by
  refine ⟨b.ext, b.keep, b.dom, b.new, fun t c h => ?_, fun j h => Lv.set ⟨d, .inl rfl⟩ (b.lv j h)⟩
  obtain ⟨j, e, h1, h2, h3⟩ := h
  by_cases z : j = i
  · subst z
    have hl : j < σ.length := by
      have := (List.getElem?_eq_some_iff.mp h2).1
      rw [List.length_set] at this
      exact this
    rw [List.getElem?_set_self hl] at h2
    cases h2
    have hl' : j < ρ.length := by
      have := (List.getElem?_eq_some_iff.mp h1).1
      rw [List.length_set] at this
      exact this
    rw [List.getElem?_set_self hl'] at h1
    cases h1
    exact .inr (n0 c h3)
  · rw [List.getElem?_set_ne (Ne.symm z)] at h1 h2
    exact b.ot t c ⟨j, e, h1, h2, h3⟩
/-- an operand is stored -/
theorem set_ok {D : Ends} {i : Nat} {o : Opd} {v : V} {ρ' : Ev} (s : RS K F ρ σ H) (b : Fr F0 ρ0 σ H0 F ρ σ H) (h : OR K F ρ σ H0 H v o) (e : setC i o ρ = some ρ') (hi : i ∉ P)
    (p : sAt K P F0 ρ0 σ H0 D.nx ρ') : ∃ S : Addr → Prop, ∀ H2, Lk S H H2 → D.nx (σ.set i (some v)) H2 := by
  have pn : ∀ σ', (∀ j, j ≠ i → σ'[j]? = σ[j]?) → Pin P σ σ' := fun σ' z j hj => z j fun q => hi (q ▸ hj)
  have pn1 : Pin P σ (σ.set i (some v)) := pn _ fun j hj => List.getElem?_set_ne (Ne.symm hj)
  cases o with
  | vl d => cases e; exact ⟨fun _ => False, fun H2 l => by rw [l.none]; exact p _ F H (s.setF h) b.setF pn1⟩
  | fr d =>
    cases e
    obtain ⟨a, rfl, nn, w⟩ := h
    exact ⟨fun _ => False, fun H2 l => by rw [l.none]; exact p _ F H (s.setO (fun c hc => ⟨(nn c hc).1, (nn c hc).2.2⟩) w) (b.setO fun c hc => (nn c hc).2.1) pn1⟩
  | pl j =>
    obtain ⟨hσ, x, hx⟩ := h
    rcases hx with hx | hx
    · simp only [setC, hx] at e
      cases e
      obtain ⟨a, e, n, w⟩ := s.ow j _ hx
      rw [hσ] at e
      cases e
      exact ⟨In H a x, fun H2 l => p _ (addF F H2 (In H a _)) H2 ((s.letO hx hσ l).setF (w.rp (addF_sub n) fun c x hc hx => by rw [addF_in hc]; exact l.at_ c x hc hx)) (b.trans (Fr.letO s hx hσ l)).setF pn1⟩
    · simp only [setC, hx] at e
      cases e
      obtain ⟨w, e, r⟩ := s.fz j _ hx
      rw [hσ] at e
      cases e
      exact ⟨fun _ => False, fun H2 l => by rw [l.none]; exact p _ F H (s.setF r) b.setF pn1⟩
end
def optS (r : Option Ev) : SRes := match r with
  | some ρ => .nx ρ
  | none => .stk
def cSet (i : Nat) (fe : CEx) : CSt := fun ρ => (fe ρ).sbind fun o ρ' => optS (setC i o ρ')
section
variable {X : Cx} {W : WX} {P : List Nat} {pos pos' : Pos} {e : Expr} {fe : CEx}
theorem js_set (i : Nat) {x : Str} (hN : X.N.Nodup) (he : JE X W e fe) (hP : i ∉ P := by decide) (hi : X.N[i]? = some x := by rfl) (hx : Loc X.env.scope x := by first | exact .inl rfl | exact .inr rfl)
    (hs : swapsWith e (some (.Name x pos')) pos.line X.env = pure false := by rfl) (hf : X.fn x = true ∨ X.env.scope.names.lookup x = some .local := by first | exact .inl rfl | exact .inr rfl | assumption) : JS X W P (.Assign [.Name x pos'] e pos) (cSet i fe) :=
  .by (ps_set hN hi hx he.pe.shift hs hf) fun D σ H F ρ s p => by
    unfold cSet at p
    refine ⟨F, ρ, s, ?_⟩
    cases q : fe ρ with
    | stk => rw [q] at p; exact p
    | ex c d ρ' => rw [q] at p; exact fun dx v F' H' s r' => p dx v σ F' H' s r' (Pin.refl _ _)
    | ok o ρ' =>
      rw [q] at p
      intro v F' H' s' b' r'
      have p' : Ps X.K W P F ρ σ H D (optS (setC i o ρ')) := p
      cases e1 : setC i o ρ' with
      | none => rw [e1] at p'; exact p'.elim
      | some ρ2 =>
        rw [e1] at p'
        exact set_ok (D := D) s' b' r' e1 hP p'
end
end PL
/-! PL3: argument lists, displays, targets, what is walked, for, while, comprehensions -/
namespace PL
open PySem PySem.Spec L2
/-! ### argument lists, each let go -/
def RVs (K : PySem.W.Frag) (F : Hp) (_ : Ev) (_ : St) (_ _ : Hp) (vs : List V) (ds : List D) : Prop := Rps K F vs ds
structure JA (X : Cx) (W : WX) (es : List Expr) (f : Ev → Res (List D)) : Prop where pa : PA X es (fun σ H Q => ∃ F ρ, RS X.K F ρ σ H ∧ Po X.K W (RVs X.K) F ρ σ H Q (f ρ))
def cNilA : Ev → Res (List D) := fun ρ => .ok [] ρ
def cConsA (f : Ev → Res D) (g : Ev → Res (List D)) : Ev → Res (List D) := fun ρ => (f ρ).bind fun d ρ1 => (g ρ1).bind fun ds ρ2 => .ok (d :: ds) ρ2
section
variable {X : Cx} {W : WX} {pos : Pos} {e : Expr} {es : List Expr} {f : Ev → Res D} {g : Ev → Res (List D)}
theorem PA.weak {X : Cx} {es : List Expr} {t t' : TA} (h : PA X es t) (c : ∀ σ H Q, t' σ H Q → t σ H Q) : PA X es t' := ⟨fun pos pins s σ H Q I q => h.run pos pins s σ H Q I (c σ H Q q)⟩
theorem ja_nil : JA X W [] cNilA := ⟨PA.weak pa_nil fun σ H Q ⟨F, ρ, s, p⟩ => p.here s .nil⟩
theorem ja_cons (he : JV X W e f) (hr : JA X W es g) (hs : starEach (e :: es) X.env = (false, eval e X.env) :: starEach es X.env := by rfl) : JA X W (e :: es) (cConsA f g) :=
  ⟨PA.weak (pa_cons he.pe hr.pa hs) fun σ H Q ⟨F, ρ, s, p⟩ => ⟨F, ρ, s, p.bind (fun _ _ _ _ _ _ _ h => h) fun d ρ1 v F1 H1 s1 b1 r1 p1 => ⟨F1, ρ1, s1, p1.bind (fun _ _ _ _ _ _ _ h => h) fun ds ρ2 vs F2 H2 s2 b2 r2 p2 =>
    p2.here s2 (.cons (Rp.mono b2.ext r1) r2)⟩⟩⟩
def cTup (g : Ev → Res (List D)) : CEx := fun ρ => (g ρ).bind fun ds ρ' => if ds.length ≤ sizeLine then .ok (.vl (.tup ds)) ρ' else .stk
def cLst (g : Ev → Res (List D)) : CEx := fun ρ => (g ρ).bind fun ds ρ' => if ds.length ≤ sizeLine then .ok (.fr (.lst ds)) ρ' else .stk
theorem je_tup {k : Nat} (h : JA X W es g) : JE X W (.Tuple es k pos) (cTup g) :=
  .by (pe_tup h.pa) fun σ H Q F ρ s p => ⟨F, ρ, s, p.bind (fun _ _ _ _ _ _ b => OR.dom b) fun ds ρ' vs F' H' s' b' r' p' => by
    have r : Rps X.K F' vs ds := r'
    by_cases h : ds.length ≤ sizeLine
    · rw [if_pos h] at p'
      exact ⟨by rw [r.length]; exact h, fun q hq => PoX.newT s' p' hq r⟩
    · rw [if_neg h] at p'; exact p'.elim⟩
theorem je_lst (h : JA X W es g) : JE X W (.List es pos) (cLst g) :=
  .by (pe_lst h.pa) fun σ H Q F ρ s p => ⟨F, ρ, s, p.bind (fun _ _ _ _ _ _ b => OR.dom b) fun ds ρ' vs F' H' s' b' r' p' => by
    have r : Rps X.K F' vs ds := r'
    by_cases h : ds.length ≤ sizeLine
    · rw [if_pos h] at p'
      exact ⟨by rw [r.length]; exact h, fun q hq => PoX.newL s' p' hq r⟩
    · rw [if_neg h] at p'; exact p'.elim⟩
end
/-! ### targets -/
/-- the cells behind a store of d; ts: the places that may have changed -/
def gT (K : PySem.W.Frag) (ts : List Nat) (g : D → Ev → Option Ev) : TG := fun v σ H Q => ∃ F ρ d ρ', RS K F ρ σ H ∧ Rp K F v d ∧ g d ρ = some ρ' ∧
  ∀ σ', RS K F ρ' σ' H → Fr F ρ σ H F ρ' σ' H → (∀ j, j ∉ ts → σ'[j]? = σ[j]?) → σ'.length = σ.length → Q σ' H
def gTs (K : PySem.W.Frag) (ts : List Nat) (g : List D → Ev → Option Ev) : TGs := fun vs σ H Q => ∃ F ρ ds ρ', RS K F ρ σ H ∧ Rps K F vs ds ∧ g ds ρ = some ρ' ∧
  ∀ σ', RS K F ρ' σ' H → Fr F ρ σ H F ρ' σ' H → (∀ j, j ∉ ts → σ'[j]? = σ[j]?) → σ'.length = σ.length → Q σ' H
structure JG (X : Cx) (tg : Expr) (ts : List Nat) (g : D → Ev → Option Ev) : Prop where pg : PG X tg (gT X.K ts g)
structure JGs (X : Cx) (tg : List Expr) (ts : List Nat) (g : List D → Ev → Option Ev) : Prop where pgs : PGs X tg (gTs X.K ts g)
def gN (i : Nat) : D → Ev → Option Ev := fun d ρ => some (ρ.set i (.fz d))
def gsNil : List D → Ev → Option Ev := fun ds ρ => match ds with
  | [] => some ρ
  | _ => none
def gsCons (g : D → Ev → Option Ev) (h : List D → Ev → Option Ev) : List D → Ev → Option Ev := fun ds ρ => match ds with
  | d :: r => (g d ρ).bind fun ρ' => h r ρ'
  | _ => none
def gTp (n : Nat) (h : List D → Ev → Option Ev) : D → Ev → Option Ev := fun d ρ => match d with
  | .tup ds => if ds.length = n then h ds ρ else none
  | _ => none
section
variable {X : Cx} {pos : Pos} {e : Expr} {es : List Expr} {ts us : List Nat} {g : D → Ev → Option Ev} {h : List D → Ev → Option Ev}
theorem PG.weak {X : Cx} {e : Expr} {t t' : TG} (h : PG X e t) (c : ∀ v σ H Q, t' v σ H Q → t v σ H Q) : PG X e t' := ⟨fun pins s σ H v u Q I r q => h.run pins s σ H v u Q I r (c v σ H Q q)⟩
theorem PGs.weak {X : Cx} {es : List Expr} {t t' : TGs} (h : PGs X es t) (c : ∀ v σ H Q, t' v σ H Q → t v σ H Q) : PGs X es t' := ⟨fun pins s σ H v u Q I r q => h.run pins s σ H v u Q I r (c v σ H Q q)⟩
theorem jg_name (i : Nat) {x : Str} (hN : X.N.Nodup) (hi : X.N[i]? = some x := by rfl) (hx : Loc X.env.scope x := by first | exact .inl rfl | exact .inr rfl) (hf : X.fn x = true ∨ X.env.scope.names.lookup x = some .local := by first | exact .inl rfl | exact .inr rfl | assumption) : JG X (.Name x pos) [i] (gN i) :=
  ⟨PG.weak (pg_name hN hi hx hf) fun v σ H Q ⟨F, ρ, d, ρ', s, r, e, c⟩ => by
    cases e
    exact c _ (s.setF r) (Fr.refl F ρ σ H).setF (fun j hj => List.getElem?_set_ne fun z => hj (List.mem_singleton.mpr z.symm)) List.length_set⟩
theorem jgs_nil : JGs X [] [] gsNil := ⟨PGs.weak pgs_nil fun vs σ H Q ⟨F, ρ, ds, ρ', s, r, e, c⟩ => by
  cases r with
  | nil => cases e; exact ⟨rfl, c σ s (Fr.refl ..) (fun _ _ => rfl) rfl⟩
  | cons _ _ => cases e⟩
theorem jgs_cons (h1 : JG X e ts g) (h2 : JGs X es us h) (hs : (assignEach (e :: es) X.env).map (·.2) = assign e X.env :: (assignEach es X.env).map (·.2) := by rfl) : JGs X (e :: es) (ts ++ us) (gsCons g h) :=
  ⟨PGs.weak (pgs_cons h1.pg h2.pgs hs) fun vs σ H Q q => by
    obtain ⟨F, ρ, ds, ρ', s, r, e, c⟩ := q
    cases r with
    | nil => cases e
    | @cons v vr d dr r1 r2 =>
      have e' : (g d ρ).bind (fun ρ1 => h dr ρ1) = some ρ' := e
      cases q : g d ρ with
      | none => rw [q] at e'; cases e'
      | some ρ1 =>
        rw [q] at e'
        refine ⟨_, _, rfl, F, ρ, d, ρ1, s, r1, q, fun σ1 s1 b1 k1 l1 => ?_⟩
        exact ⟨F, ρ1, dr, ρ', s1, r2, e', fun σ2 s2 b2 k2 l2 => c σ2 s2 (b1.trans b2) (fun j hj => (k2 j fun z => hj (List.mem_append_right _ z)).trans (k1 j fun z => hj (List.mem_append_left _ z))) (l2.trans l1)⟩⟩
theorem jg_tup {k n : Nat} (hc : X.calm = true) (h1 : JGs X es ts h) (hn : (assignEach es X.env).length = n := by rfl) (hst : (assignEach es X.env).findIdx? (·.1) = none := by rfl) : JG X (.Tuple es k pos) ts (gTp n h) :=
  ⟨PG.weak (pg_tup hc h1.pgs hn hst) fun v σ H Q q => by
    obtain ⟨F, ρ, d, ρ', s, r, e, c⟩ := q
    cases r with
    | @tup a xs ds hq r =>
      have e' : (if ds.length = n then h ds ρ else none) = some ρ' := e
      by_cases hl : ds.length = n
      · rw [if_pos hl] at e'
        exact ⟨_, _, rfl, s.sub.t (.inl (.inl hq)), r.length.trans hl, F, ρ, ds, ρ', s, r, e', c⟩
      · rw [if_neg hl] at e'; cases e'
    | _ => cases e⟩
end
/-- target = value -/
def cAsg (f : Ev → Res D) (g : D → Ev → Option Ev) : CSt := fun ρ => (f ρ).sbind fun d ρ' => optS (g d ρ')
theorem js_asg {X : Cx} {W : WX} {P : List Nat} {tg e : Expr} {pos : Pos} {ts : List Nat} {f : Ev → Res D} {g : D → Ev → Option Ev} (he : JV X W e f) (hg : JG X tg ts g) (hP : ∀ i ∈ P, i ∉ ts := by decide)
    (hs : swapsWithSole [tg] e pos.line X.env = pure false := by rfl) (hw : swappedStores [tg] e X.env = pure none := by rfl) (h1 : (assignEach [tg] X.env).map (·.2) = [assign tg X.env] := by rfl) : JS X W P (.Assign [tg] e pos) (cAsg f g) :=
  .by (ps_asg he.pe hg.pg hs hw h1) fun D σ H F ρ s p => ⟨F, ρ, s, by
    unfold cAsg at p
    refine Ps.ebind p fun d ρ1 v F1 H1 s1 b1 r1 p1 => ?_
    cases q : g d ρ1 with
    | none => rw [q] at p1; exact p1.elim
    | some ρ2 =>
      rw [q] at p1
      exact ⟨F1, ρ1, d, ρ2, s1, r1, q, fun σ' s' b' k' _ => p1 σ' F1 H1 s' b' fun i hi => k' i (hP i hi)⟩⟩
/-! ### what is walked -/
def ItOk (K : PySem.W.Frag) (J : It) (F0 : Hp) (ds : List D) : Prop := ∀ (i : Nat) (F H : Hp), Sub F0 F → Sub F H →
  (∀ d, ds[i]? = some d → J.go i H ∧ ∀ x H3, J.yld i H x H3 → ∃ F3, Sub F F3 ∧ Sub H H3 ∧ Sub F3 H3 ∧ (∀ a, F3 a ≠ none → F a ≠ none ∨ H a = none) ∧ Rp K F3 x d) ∧ (ds.length ≤ i → J.stop i H)
def RI (K : PySem.W.Frag) (F : Hp) (_ : Ev) (_ : St) (_ _ : Hp) (J : It) (ds : List D) : Prop := ItOk K J F ds
structure JI (X : Cx) (W : WX) (tg it : Expr) (f : Ev → Res (List D)) : Prop where pi : PI X tg it (fun σ H R => ∃ F ρ, RS X.K F ρ σ H ∧ Po X.K W (RI X.K) F ρ σ H R (f ρ))
section
variable {X : Cx} {W : WX} {tg e : Expr}
theorem PI.weak {X : Cx} {tg it : Expr} {t t' : TI} (h : PI X tg it t) (c : ∀ σ H R, t' σ H R → t σ H R) : PI X tg it t' := ⟨fun pins s σ H R I q => h.run pins s σ H R I (c σ H R q)⟩
theorem PI.or {X : Cx} {tg it : Expr} {t t' : TI} (h : PI X tg it t) (h' : PI X tg it t') : PI X tg it (fun σ H R => t σ H R ∨ t' σ H R) := ⟨fun pins s σ H R I q => q.elim (h.run pins s σ H R I) (h'.run pins s σ H R I)⟩
/-- a list, a tuple, a text -/
def itemsOf : D → Option (List D)
  | .lst ds => some ds
  | .scr ds => some ds
  | .tup ds => some ds
  | .str s => some (s.map fun c => .str [c])
  | _ => none
def cIter (f : Ev → Res D) : Ev → Res (List D) := fun ρ => (f ρ).bind fun d ρ' => liftO ρ' (itemsOf d)
/-- nothing is made while walking -/
theorem ItOk.plain {K : PySem.W.Frag} {J : It} {F0 : Hp} {ds : List D} (h : ∀ i F H, Sub F0 F → Sub F H → (∀ d, ds[i]? = some d → J.go i H ∧ ∀ x H3, J.yld i H x H3 → H3 = H ∧ Rp K F x d) ∧ (ds.length ≤ i → J.stop i H)) : ItOk K J F0 ds :=
  fun i F H s1 s2 => ⟨fun d e => ⟨((h i F H s1 s2).1 d e).1, fun x H3 y => by
    obtain ⟨e1, r⟩ := ((h i F H s1 s2).1 d e).2 x H3 y
    subst e1
    exact ⟨F, Sub.refl _, Sub.refl _, s2, fun _ z => .inl z, r⟩⟩, (h i F H s1 s2).2⟩
theorem itOk_l {K : PySem.W.Frag} {F0 : Hp} {a : Addr} {xs : List V} {ds : List D} (h : SqL K F0 a xs) (r : Rps K F0 xs ds) : ItOk K (Itl K a) F0 ds := .plain fun i F H s1 s2 => ⟨fun d e => by
  obtain ⟨v, e1, r1⟩ := r.get' e
  exact ⟨⟨xs, v, (s1.trans s2).l h, e1⟩, fun x H3 ⟨e2, e3⟩ => ⟨e2, by
    have e4 := e3 xs ((s1.trans s2).l h)
    rw [e1] at e4
    cases e4
    exact r1.mono s1⟩⟩, fun z => ⟨xs, (s1.trans s2).l h, by rw [r.length]; exact z⟩⟩
theorem itOk_t {K : PySem.W.Frag} {F0 : Hp} {a : Addr} {xs : List V} {ds : List D} (h : SqT K F0 a xs) (r : Rps K F0 xs ds) : ItOk K (Itt K a) F0 ds := .plain fun i F H s1 s2 => ⟨fun d e => by
  obtain ⟨v, e1, r1⟩ := r.get' e
  exact ⟨⟨xs, v, (s1.trans s2).t h, e1⟩, fun x H3 ⟨e2, e3⟩ => ⟨e2, by
    have e4 := e3 xs ((s1.trans s2).t h)
    rw [e1] at e4
    cases e4
    exact r1.mono s1⟩⟩, fun z => ⟨xs, (s1.trans s2).t h, by rw [r.length]; exact z⟩⟩
theorem itOk_s {K : PySem.W.Frag} {F0 : Hp} (s : List Nat) : ItOk K (Its ⟨s.toArray⟩) F0 (s.map fun c => .str [c]) := .plain fun i F H s1 s2 => ⟨fun d e => by
  rw [List.getElem?_map] at e
  cases q : s[i]? with
  | none => rw [q] at e; cases e
  | some c =>
    rw [q] at e
    cases e
    have hi : i < s.length := (List.getElem?_eq_some_iff.mp q).1
    refine ⟨by show i < s.toArray.size; simpa using hi, fun x H3 ⟨e2, c', e3, e4⟩ => ⟨e2, ?_⟩⟩
    have e5 : s[i]? = some c' := by simpa using e3
    rw [q] at e5
    cases e5
    subst e4
    exact .str [c], fun z => by show s.toArray.size ≤ i; simpa using z⟩
theorem ji_of {f : CEx} (h : JE X W e f) : JI X W tg e (cIter (cVal f)) := by
  have h1 := (PI.or (pi_list (tg := tg) h.val.pe) (PI.or (pi_tup (tg := tg) h.val.pe) (pi_str (tg := tg) h.val.pe)))
  refine ⟨PI.weak h1 fun σ H R ⟨F, ρ, s, p⟩ => ?_⟩
  unfold cIter at p
  cases q : cVal f ρ with
  | stk => rw [q] at p; exact p.elim
  | ex c d ρ' => rw [q] at p; exact .inl ⟨F, ρ, s, by rw [q]; exact p⟩
  | ok d ρ' =>
    rw [q] at p
    have p' : Po X.K W (RI X.K) F ρ σ H R (liftO ρ' (itemsOf d)) := p
    cases d with
    | lst ds => exact .inl ⟨F, ρ, s, by
        rw [q]
        intro v F' H' s' b' r'
        cases r' with
        | lst hq r => exact ⟨_, rfl, ⟨_, .of (s'.sub _ _ hq)⟩, p' _ F' H' s' b' (itOk_l (.of hq) r)⟩⟩
    | scr ds => exact .inl ⟨F, ρ, s, by
        rw [q]
        intro v F' H' s' b' r'
        cases r' with
        | scr hq r => exact ⟨_, rfl, ⟨_, s'.sub.l hq⟩, p' _ F' H' s' b' (itOk_l hq r)⟩⟩
    | tup ds => exact .inr (.inl ⟨F, ρ, s, by
        rw [q]
        intro v F' H' s' b' r'
        cases r' with
        | tup hq r => exact ⟨_, rfl, ⟨_, s'.sub.t (.inl (.inl hq))⟩, p' _ F' H' s' b' (itOk_t (.inl (.inl hq)) r)⟩⟩)
    | str z => exact .inr (.inr ⟨F, ρ, s, by
        rw [q]
        intro v F' H' s' b' r'
        cases r'
        exact ⟨_, rfl, p' _ F' H' s' b' (itOk_s z)⟩⟩)
    | _ => exact p'.elim
/-- range -/
def inLine (i : Int) : Bool := decide (-(2 ^ 62) ≤ i) && decide (i < 2 ^ 62)
def iota (lo : Int) (n : Nat) : List D := (List.range n).map fun k => .int (lo + (k : Nat))
def rangeOf1 : List D → Option (List D)
  | [.int j] => if inLine j then some (iota 0 j.toNat) else none
  | _ => none
def rangeOf2 : List D → Option (List D)
  | [.int i, .int j] => if inLine i && inLine j then some (iota i (j - i).toNat) else none
  | _ => none
def cRange1 (g : Ev → Res (List D)) : Ev → Res (List D) := fun ρ => (g ρ).bind fun ds ρ' => liftO ρ' (rangeOf1 ds)
def cRange2 (g : Ev → Res (List D)) : Ev → Res (List D) := fun ρ => (g ρ).bind fun ds ρ' => liftO ρ' (rangeOf2 ds)
theorem iota_get {lo : Int} {n i : Nat} {d : D} (e : (iota lo n)[i]? = some d) : i < n ∧ d = .int (lo + (i : Nat)) := by
  unfold iota at e
  rw [List.getElem?_map] at e
  by_cases hi : i < n
  · rw [List.getElem?_range hi] at e
    exact ⟨hi, (Option.some.inj e).symm⟩
  · rw [List.getElem?_eq_none (by simpa using hi)] at e
    exact nomatch e
theorem itOk_r {K : PySem.W.Frag} {F0 : Hp} (lo : Int) (n : Nat) : ItOk K (Itr lo n) F0 (iota lo n) := .plain fun i F H s1 s2 => ⟨fun d e =>
  ⟨(iota_get e).1, fun x H3 ⟨e1, e2⟩ => ⟨e1, by rw [(iota_get e).2, e2]; exact .int _⟩⟩, fun z => by show n ≤ i; simpa [iota] using z⟩
theorem inLine_ok {i : Int} (h : inLine i = true) : -(2 ^ 62) ≤ i ∧ i < 2 ^ 62 := by
  obtain ⟨a, b⟩ := Bool.and_eq_true_iff.mp h
  exact ⟨of_decide_eq_true a, of_decide_eq_true b⟩
theorem rangeOf1_ok {ds zs : List D} (h : rangeOf1 ds = some zs) : ∃ j, ds = [.int j] ∧ inLine j = true ∧ zs = iota 0 j.toNat := by
  unfold rangeOf1 at h
  split at h
  · rename_i j
    by_cases hj : inLine j = true
    · rw [if_pos hj] at h; cases h; exact ⟨j, rfl, hj, rfl⟩
    · rw [if_neg hj] at h; cases h
  · cases h
theorem rangeOf2_ok {ds zs : List D} (h : rangeOf2 ds = some zs) : ∃ i j, ds = [.int i, .int j] ∧ inLine i = true ∧ inLine j = true ∧ zs = iota i (j - i).toNat := by
  unfold rangeOf2 at h
  split at h
  · rename_i i j
    by_cases hj : (inLine i && inLine j) = true
    · rw [if_pos hj] at h; cases h
      obtain ⟨a, b⟩ := Bool.and_eq_true_iff.mp hj
      exact ⟨i, j, rfl, a, b, rfl⟩
    · rw [if_neg hj] at h; cases h
  · cases h
theorem ji_range1 {a : Expr} {p pos : Pos} {g : Ev → Res (List D)} (hg : Gl X "range") (hm : X.mg "range" = none) (ha : JA X W [a] g) (hs : starEach [a] X.env = [(false, eval a X.env)] := by rfl) : JI X W tg (.Call (.Name "range" p) [a] [] pos) (cRange1 g) :=
  ⟨PI.weak (pi_range1 hg hm ha.pa hs) fun σ H R ⟨F, ρ, s, p⟩ => ⟨F, ρ, s, by
    unfold cRange1 at p
    refine p.bind (fun _ _ _ _ _ _ _ h => h) fun ds ρ' vs F' H' s' b' r' p' => ?_
    cases q : rangeOf1 ds with
    | none => rw [q] at p'; exact p'.elim
    | some zs =>
      rw [q] at p'
      obtain ⟨j, rfl, hj, rfl⟩ := rangeOf1_ok q
      obtain ⟨l1, l2⟩ := inLine_ok hj
      cases r' with
      | cons r1 r2 =>
        cases r1
        cases r2
        exact ⟨j, rfl, l1, l2, p'.here s' (itOk_r 0 j.toNat)⟩⟩⟩
theorem ji_range2 {a b : Expr} {p pos : Pos} {g : Ev → Res (List D)} (hg : Gl X "range") (hm : X.mg "range" = none) (ha : JA X W [a, b] g) (hs : starEach [a, b] X.env = [(false, eval a X.env), (false, eval b X.env)] := by rfl)
    (hs2 : starEach [b] X.env = [(false, eval b X.env)] := by rfl) : JI X W tg (.Call (.Name "range" p) [a, b] [] pos) (cRange2 g) :=
  ⟨PI.weak (pi_range2 hg hm ha.pa hs hs2) fun σ H R ⟨F, ρ, s, p⟩ => ⟨F, ρ, s, by
    unfold cRange2 at p
    refine p.bind (fun _ _ _ _ _ _ _ h => h) fun ds ρ' vs F' H' s' b' r' p' => ?_
    cases q : rangeOf2 ds with
    | none => rw [q] at p'; exact p'.elim
    | some zs =>
      rw [q] at p'
      obtain ⟨i, j, rfl, hi, hj, rfl⟩ := rangeOf2_ok q
      obtain ⟨l1, l2⟩ := inLine_ok hi
      obtain ⟨l3, l4⟩ := inLine_ok hj
      cases r' with
      | cons r1 r2 =>
        cases r1
        cases r2 with
        | cons r3 r4 =>
          cases r3
          cases r4
          exact ⟨i, j, rfl, ⟨l1, l2, l3, l4⟩, p'.here s' (itOk_r i (j - i).toNat)⟩⟩⟩
end
/-! ### loops -/
def loopK (r : SRes) (k : Ev → SRes) : SRes := match r with
  | .nx ρ => k ρ
  | .ct ρ => k ρ
  | .bk ρ => .nx ρ
  | r => r
theorem Ps.loop {K : PySem.W.Frag} {W : WX} {P : List Nat} {F H : Hp} {ρ : Ev} {σ : St} {D : Ends} {N : St → Hp → Prop} {r : SRes} {k : Ev → SRes} (h : Ps K W P F ρ σ H D (loopK r k))
    (c : ∀ ρ1 σ1 F1 H1, RS K F1 ρ1 σ1 H1 → Fr F ρ σ H F1 ρ1 σ1 H1 → Ps K W P F1 ρ1 σ1 H1 D (k ρ1) → N σ1 H1) : Ps K W P F ρ σ H { D with nx := N, ct := N, bk := D.nx } r := by
  cases r with
  | nx ρ' => exact fun σ' F' H' s r' q => c ρ' σ' F' H' s r' (Ps.from r' q h)
  | ct ρ' => exact fun σ' F' H' s r' q => c ρ' σ' F' H' s r' (Ps.from r' q h)
  | bk ρ' => exact h
  | ret o ρ' => exact h
  | ex c d ρ' => exact h
  | stk => exact h
def whileN (c : Ev → Res Bool) (b : CSt) : Nat → CSt
  | 0, _ => .stk
  | n + 1, ρ => (c ρ).sbind fun k ρ1 => if k = true then loopK (b ρ1) (whileN c b n) else .nx ρ1
/-- more turns than any run takes -/
def manyT : Nat := 1000000000000
def cWhile (c : Ev → Res Bool) (b : CSt) : CSt := whileN c b manyT
theorem loopK_mono {r : SRes} {k k' : Ev → SRes} (h : ∀ ρ, k ρ ≠ .stk → k' ρ = k ρ) (n : loopK r k ≠ .stk) : loopK r k' = loopK r k := by
  cases r with
  | nx ρ => exact h ρ n
  | ct ρ => exact h ρ n
  | _ => rfl
theorem whileN_mono {c : Ev → Res Bool} {b : CSt} : ∀ {n m : Nat} {ρ : Ev}, n ≤ m → whileN c b n ρ ≠ .stk → whileN c b m ρ = whileN c b n ρ
  | 0, _, _, _, h => absurd rfl h
  | n + 1, 0, _, h, _ => absurd h (by omega)
  | n + 1, m + 1, ρ, hl, h => by
    show (c ρ).sbind _ = (c ρ).sbind _
    have h' : (c ρ).sbind (fun k ρ1 => if k = true then loopK (b ρ1) (whileN c b n) else .nx ρ1) ≠ .stk := h
    cases q : c ρ with
    | stk => rfl
    | ex _ _ _ => rfl
    | ok k ρ1 =>
      rw [q] at h'
      cases k with
      | false => rfl
      | true => exact loopK_mono (fun ρ2 h2 => whileN_mono (by omega) h2) h'
theorem cWhile_eq {c : Ev → Res Bool} {b : CSt} {ρ : Ev} {r : SRes} (n : Nat) (h : whileN c b n ρ = r) (hr : r ≠ .stk) (hn : n ≤ manyT := by decide) : cWhile c b ρ = r := by
  unfold cWhile
  rw [whileN_mono hn (by rw [h]; exact hr), h]
section
variable {X : Cx} {W : WX} {P : List Nat} {pos : Pos} {body : List Stmt} {f : CSt}
theorem js_while {c : Expr} {tc : Ev → Res Bool} (hp : PassesOwn (model X.prog X.w) X.A X.env X.xe) (hc : JT X W c tc) (hb : JSs X W P body f) : JS X W P (.While c body [] pos) (cWhile tc f) :=
  .by (ps_while hp hc.pt hb.pss) fun D σ H F ρ s p => by
    refine ⟨fun m σ H => ∃ F ρ, RS X.K F ρ σ H ∧ Ps X.K W P F ρ σ H D (whileN tc f m ρ), ⟨_, F, ρ, s, p⟩, fun m σ1 H1 ⟨F1, ρ1, s1, p1⟩ => ?_⟩
    cases m with
    | zero => exact p1.elim
    | succ m =>
      refine ⟨F1, ρ1, s1, Ps.ebind p1 fun k ρ2 v F2 H2 s2 b2 r2 p2 => ?_⟩
      have e : v = k := r2
      subst e
      cases v with
      | false => exact p2.here s2
      | true =>
        refine ⟨fun σ' H' => ∃ F ρ, RS X.K F ρ σ' H' ∧ Ps X.K W P F ρ σ' H' D (whileN tc f m ρ), fun σ' H' h => ⟨m, Nat.lt_succ_self m, h⟩, F2, ρ2, s2, ?_⟩
        exact Ps.loop (k := whileN tc f m) p2 fun ρ3 σ3 F3 H3 s3 b3 p3 => ⟨F3, ρ3, s3, p3⟩
def forL (g : D → Ev → Option Ev) (b : CSt) : List D → CSt
  | [], ρ => .nx ρ
  | d :: ds, ρ => match g d ρ with
    | none => .stk
    | some ρ1 => loopK (b ρ1) (forL g b ds)
def cFor (it : Ev → Res (List D)) (g : D → Ev → Option Ev) (b : CSt) : CSt := fun ρ => (it ρ).sbind fun ds ρ' => forL g b ds ρ'
theorem ItOk.step {K : PySem.W.Frag} {F H F3 H3 : Hp} {ρ : Ev} {σ : St} (s : RS K F ρ σ H) (h1 : Sub F F3) (h2 : Sub H H3) (h3 : Sub F3 H3) (h4 : ∀ a, F3 a ≠ none → F a ≠ none ∨ H a = none) : RS K F3 ρ σ H3 ∧ Fr F ρ σ H F3 ρ σ H3 := s.grow h1 h2 h3 h4
theorem js_for {tg it : Expr} {h : Ev → Res (List D)} {ts : List Nat} {g : D → Ev → Option Ev} (hp : PassesOwn (model X.prog X.w) X.A X.env X.xe) (hc : X.calm = true) (hi : JI X W tg it h) (hg : JG X tg ts g) (hb : JSs X W P body f) (hP : ∀ i ∈ P, i ∉ ts := by decide)
    (hs : ∀ x, foldedSetIterable it X.env x = pure x := by intro _; rfl) : JS X W P (.For tg it body [] pos) (cFor h g f) :=
  .by (ps_for hp hc hi.pi hg.pg hb.pss hs) fun D σ H F ρ s p => ⟨F, ρ, s, by
    refine Ps.ebind p fun ds ρ1 J F1 H1 s1 b1 r1 p1 => ?_
    have ok : ItOk X.K J F1 ds := r1
    refine ⟨fun i m σ H => ∃ F ρ, RS X.K F ρ σ H ∧ Sub F1 F ∧ m + i = ds.length ∧ Ps X.K W P F ρ σ H D (forL g f (ds.drop i) ρ), ⟨ds.length, F1, ρ1, s1, Sub.refl _, by omega, p1⟩, fun i m σ2 H2 ⟨F2, ρ2, s2, e2, em, p2⟩ => ?_⟩
    by_cases hi : i < ds.length
    · have ed : ds.drop i = ds[i] :: ds.drop (i + 1) := (List.drop_eq_getElem_cons hi)
      rw [ed] at p2
      obtain ⟨go, yl⟩ := (ok i F2 H2 e2 s2.sub).1 ds[i] (List.getElem?_eq_getElem hi)
      refine .inr ⟨go, fun σ' H' => ∃ F ρ, RS X.K F ρ σ' H' ∧ Sub F1 F ∧ (m - 1) + (i + 1) = ds.length ∧ Ps X.K W P F ρ σ' H' D (forL g f (ds.drop (i + 1)) ρ), fun σ' H' z => ⟨m - 1, by omega, z⟩, fun x H3 y => ?_⟩
      obtain ⟨F3, q1, q2, q3, q4, rx⟩ := yl x H3 y
      obtain ⟨s3, b3⟩ := ItOk.step s2 q1 q2 q3 q4
      have p2' : Ps X.K W P F2 ρ2 σ2 H2 D (match g ds[i] ρ2 with
        | none => .stk
        | some ρ1 => loopK (f ρ1) (forL g f (ds.drop (i + 1)))) := p2
      cases q : g ds[i] ρ2 with
      | none => rw [q] at p2'; exact p2'.elim
      | some ρ4 =>
        rw [q] at p2'
        refine ⟨F3, ρ2, ds[i], ρ4, s3, rx, q, fun σ4 s4 b4 k4 _ => ⟨F3, ρ4, s4, ?_⟩⟩
        have p4 : Ps X.K W P F3 ρ4 σ4 H3 D (loopK (f ρ4) (forL g f (ds.drop (i + 1)))) := Ps.from (b3.trans b4) (fun j hj => k4 j (hP j hj)) p2'
        exact Ps.loop p4 fun ρ5 σ5 F5 H5 s5 b5 p5 => ⟨F5, ρ5, s5, e2.trans (q1.trans b5.ext), by omega, p5⟩
    · have ed : ds.drop i = [] := List.drop_eq_nil_of_le (by omega)
      rw [ed] at p2
      exact .inl ⟨(ok i F2 H2 e2 s2.sub).2 (by omega), p2.here s2⟩⟩
end
end PL
/-! PL4: calls of defs; a def by its body -/
namespace PL
open PySem PySem.Spec L2
open PyProof.Rows (envOfC)
/-- what a def hands back (a value or a new container), and its changed arguments; an exception -/
inductive FRes where
  | ret (o : Opd) (ms : List D) | ex (c : Str) (d : D) (ms : List D) | stk
abbrev Fn := List D → FRes
/-- the arguments' cells: mk tells which ones the def changes -/
def cellsM : List Bool → List D → List Cell
  | true :: mk, d :: ds => .ow d :: cellsM mk ds
  | false :: mk, d :: ds => .fz d :: cellsM mk ds
  | _, _ => []
/-- behind the call -/
def cellsB : List Bool → List D → List D → List Cell
  | true :: mk, _ :: ds, m :: ms => .ow m :: cellsB mk ds ms
  | false :: mk, d :: ds, ms => .fz d :: cellsB mk ds ms
  | _, _, _ => []
def isNew : Opd → Prop
  | .pl _ => False
  | _ => True
section
variable {K : PySem.W.Frag} {F F0 H H0 : Hp} {ρ ρ0 : Ev} {σ σ0 : St}
/-- a value or a new container is stored, and what that does to another such operand -/
theorem set_new {i : Nat} {o : Opd} {v : V} {ρ' : Ev} (hn : isNew o) (s : RS K F ρ σ H) (b : Fr F0 ρ0 σ0 H0 F ρ σ H) (h : OR K F ρ σ H0 H v o) (e : setC i o ρ = some ρ') :
    RS K F ρ' (σ.set i (some v)) H ∧ Fr F0 ρ0 σ0 H0 F ρ' (σ.set i (some v)) H := by
  cases o with
  | vl d => cases e; exact ⟨s.setF h, b.setF⟩
  | fr d =>
    cases e
    obtain ⟨a, rfl, nn, w⟩ := h
    exact ⟨s.setO (fun c hc => ⟨(nn c hc).1, (nn c hc).2.2⟩) w, b.setO fun c hc => (nn c hc).2.1⟩
  | pl j => exact hn.elim
end
/-- a def's promise -/
def spOf (K : PySem.W.Frag) (mk : List Bool) (f : Fn) : Sp := fun vs H Q E => ∃ F ds, ds.length = mk.length ∧ RS K F (cellsM mk ds) (vs.map some) H ∧ match f ds with
  | .ret o ms => isNew o ∧ ∀ v F' H', RS K F' (cellsB mk ds ms) (vs.map some) H' → Fr F (cellsM mk ds) (vs.map some) H F' (cellsB mk ds ms) (vs.map some) H' → OR K F' (cellsB mk ds ms) (vs.map some) H H' v o → Q v H'
  | .ex c d ms => ∀ dx v F' H', RS K F' (cellsB mk ds ms) (vs.map some) H' → Fr F (cellsM mk ds) (vs.map some) H F' (cellsB mk ds ms) (vs.map some) H' → Rp K F' v d → F' dx = some (.xd [("value", v)]) → E (.ref (He.ga K c)) (some dx) H'
  | .stk => False
theorem cellsM_length : ∀ {mk : List Bool} {ds : List D}, ds.length = mk.length → (cellsM mk ds).length = mk.length
  | [], [], _ => rfl
  | true :: mk, d :: ds, h => congrArg (· + 1) (cellsM_length (Nat.succ.inj h))
  | false :: mk, d :: ds, h => congrArg (· + 1) (cellsM_length (Nat.succ.inj h))
theorem sp_len {K : PySem.W.Frag} {mk : List Bool} {f : Fn} {ps : List Str} (hl : mk.length = ps.length) : ∀ vs H Q E, spOf K mk f vs H Q E → vs.length = ps.length := fun vs H Q E ⟨F, ds, h1, s, _⟩ => by
  have e := s.len
  rw [cellsM_length h1, List.length_map] at e
  omega
/-! ### a call that changes no argument -/
abbrev noM (n : Nat) : List Bool := List.replicate n false
theorem cells_no : ∀ {ds : List D}, cellsM (noM ds.length) ds = ds.map .fz
  | [] => rfl
  | d :: ds => congrArg (Cell.fz d :: ·) cells_no
theorem cellsB_no : ∀ {ds : List D}, cellsB (noM ds.length) ds [] = ds.map .fz
  | [] => rfl
  | d :: ds => congrArg (Cell.fz d :: ·) cellsB_no
def retE (r : FRes) (ρ : Ev) : Res Opd := match r with
  | .ret o [] => match o with
    | .pl _ => .stk
    | o => .ok o ρ
  | .ex c d [] => .ex c d ρ
  | _ => .stk
def cCall (f : Fn) (g : Ev → Res (List D)) : CEx := fun ρ => (g ρ).bind fun ds ρ1 => retE (f ds) ρ1
section
variable {K : PySem.W.Frag} {W : WX} {F F' H H' : Hp} {ρ : Ev} {σ : St}
theorem RS.args {vs : List V} {ds : List D} (s : Sub F H) (r : Rps K F vs ds) : RS K F (ds.map .fz) (vs.map some) H := by
  refine ⟨by simp [r.length], s, fun i d e => ?_, fun i d e => ?_, fun i j d e s1 t1 a h => ?_⟩
  · rw [List.getElem?_map] at e
    cases q : ds[i]? with
    | none => rw [q] at e; cases e
    | some x =>
      rw [q] at e
      cases e
      obtain ⟨v, e1, r1⟩ := r.get' q
      exact ⟨v, by rw [List.getElem?_map, e1]; rfl, r1⟩
  · rw [List.getElem?_map] at e
    cases q : ds[i]? with
    | none => rw [q] at e; cases e
    | some x => rw [q] at e; cases e
  · rw [List.getElem?_map] at h
    cases q : ds[i]? with
    | none => rw [q] at h; cases h
    | some x => rw [q] at h; cases h
theorem noOS {ds : List D} {σ : St} {H : Hp} {a : Addr} : ¬ OS (ds.map .fz) σ H a := fun ⟨i, d, _, e, _⟩ => by
  rw [List.getElem?_map] at e
  cases q : ds[i]? with
  | none => rw [q] at e; cases e
  | some x => rw [q] at e; cases e
/-- behind such a call the caller's state stands -/
theorem RS.backN {ds : List D} {τ : St} (s : RS K F ρ σ H) (sub : Sub F' H') (b : Fr F (ds.map .fz) τ H F' (ds.map .fz) τ H') : RS K F' ρ σ H' ∧ Fr F ρ σ H F' ρ σ H' := by
  have kp : ∀ a o, H a = some o → H' a = some o := fun a o h => b.keep a o h noOS
  have nw : ∀ a, F' a ≠ none → F a ≠ none ∨ H a = none := fun a h => (b.new a h).imp_right fun z => z.resolve_right noOS
  exact s.grow b.ext kp sub nw
theorem OR.backN {ds : List D} {τ : St} {v : V} {o : Opd} (s : RS K F ρ σ H) (b : Fr F (ds.map .fz) τ H F' (ds.map .fz) τ H') (hn : isNew o) (h : OR K F' (ds.map .fz) τ H H' v o) : OR K F' ρ σ H H' v o := by
  cases o with
  | pl i => exact hn.elim
  | vl d => exact h
  | fr d =>
    obtain ⟨a, e, nn, w⟩ := h
    exact ⟨a, e, fun c hc => ⟨(nn c hc).1, (nn c hc).2.1, fun z => s.osH (OS.heap s (fun c o _ h => b.keep c o h noOS) z) (nn c hc).2.1⟩, w⟩
end
section
variable {X : Cx} {W : WX} {k : Nat} {f : Addr} {fd : FuncData} {ps : List Str} {x : Str} {p pos : Pos} {e : Expr} {es : List Expr}
/-- the promise, from the arguments -/
theorem sp_of {fn : Fn} {n : Nat} {F H : Hp} {ρ : Ev} {σ : St} {Q : VK} {vs : List V} {ds : List D} (s : RS X.K F ρ σ H) (r : Rps X.K F vs ds) (hn : ds.length = n) (p : Po X.K W (OR X.K) F ρ σ H Q (retE (fn ds) ρ)) : spOf X.K (noM n) fn vs H Q (WE W σ) := by
  subst hn
  refine ⟨F, ds, by simp, by rw [cells_no]; exact RS.args s.sub r, ?_⟩
  cases q : fn ds with
  | stk => rw [q] at p; exact p.elim
  | ret o ms =>
    rw [q] at p
    cases ms with
    | cons _ _ => exact p.elim
    | nil =>
      cases o with
      | pl i => exact p.elim
      | vl d =>
        refine ⟨trivial, fun v F' H' s' b' r' => ?_⟩
        rw [cells_no, cellsB_no] at b'
        obtain ⟨s2, b2⟩ := s.backN s'.sub b'
        exact p v F' H' s2 b2 r'
      | fr d =>
        refine ⟨trivial, fun v F' H' s' b' r' => ?_⟩
        rw [cells_no, cellsB_no] at b'
        rw [cellsB_no] at r'
        obtain ⟨s2, b2⟩ := s.backN s'.sub b'
        exact p v F' H' s2 b2 (OR.backN s b' trivial r')
  | ex c d ms =>
    rw [q] at p
    cases ms with
    | cons _ _ => exact p.elim
    | nil =>
      intro dx v F' H' s' b' r' hx
      rw [cells_no, cellsB_no] at b'
      obtain ⟨s2, b2⟩ := s.backN s'.sub b'
      exact p dx v F' H' s2 b2 r' hx
/-- f(e, ..) -/
theorem je_call {fn : Fn} {n : Nat} {g : Ev → Res (List D)} (F : FnOk X.prog X.w X.K X.mg X.base (L2.CX X.prog X.w) k f fd ps (spOf X.K (noM n) fn)) (tk : Takes X W) (hr : Room k X.A) (hm : X.mg x = some (.ref f)) (hk : PySem.W.keepIn X.K (.ref f) = true) (hb : Binds X.K fd ps [])
    (ha : JA X W (e :: es) g) (hn : ∀ ρ ds ρ', g ρ = .ok ds ρ' → ds.length = n) (hg : Gl X x := by rfl) (hdb : (x == ("__debug__" : Str)) = false := by decide) (he : starEach (e :: es) X.env = (false, eval e X.env) :: starEach es X.env := by rfl) (hpl : (backTo pos (starEach es X.env)).any (·.1) = false := by rfl) :
    JE X W (.Call (.Name x p) (e :: es) [] pos) (cCall fn g) :=
  .by (pe_callS F hr hg hm hk hb (passAt tk) ha.pa hdb he hpl) fun σ H Q Fz ρ s p => ⟨Fz, ρ, s, by
    unfold cCall at p
    cases q : g ρ with
    | stk => rw [q] at p; exact p.elim
    | ex c d ρ' => rw [q] at p; exact p
    | ok ds ρ' =>
      rw [q] at p
      exact fun vs F' H' s' b' r' => sp_of s' r' (hn ρ ds ρ' q) (Po.from (fun _ _ _ _ _ h => OR.back b' h) b' p)⟩
end
theorem cNilA_len {ρ : Ev} {ds : List D} {ρ' : Ev} (h : cNilA ρ = .ok ds ρ') : ds.length = 0 := by cases h; rfl
theorem cConsA_len {f : Ev → Res D} {g : Ev → Res (List D)} {n : Nat} (hg : ∀ ρ ds ρ', g ρ = .ok ds ρ' → ds.length = n) (ρ : Ev) (ds : List D) (ρ' : Ev) (h : cConsA f g ρ = .ok ds ρ') : ds.length = n + 1 := by
  unfold cConsA at h
  cases q : f ρ with
  | stk => rw [q] at h; cases h
  | ex c d ρ' => rw [q] at h; cases h
  | ok d ρ1 =>
    rw [q] at h
    have h' : (g ρ1).bind (fun ds ρ2 => .ok (d :: ds) ρ2) = .ok ds ρ' := h
    cases q2 : g ρ1 with
    | stk => rw [q2] at h'; cases h'
    | ex c d ρ' => rw [q2] at h'; cases h'
    | ok ds2 ρ2 =>
      rw [q2] at h'
      cases h'
      exact congrArg (· + 1) (hg _ _ _ q2)
/-! ### keywords -/
structure JK (X : Cx) (W : WX) (kws : List Keyword) (f : Ev → Res (List D)) : Prop where pk : PK X kws (fun σ H Q => ∃ F ρ, RS X.K F ρ σ H ∧ Po X.K W (RVs X.K) F ρ σ H Q (f ρ))
theorem PK.weak {X : Cx} {es : List Keyword} {t t' : TA} (h : PK X es t) (c : ∀ σ H Q, t' σ H Q → t σ H Q) : PK X es t' := ⟨fun pos pins s σ H Q I q => h.run pos pins s σ H Q I (c σ H Q q)⟩
def perm {α : Type} (pm : List Nat) (l : List α) : List α := pm.filterMap fun i => l[i]?
def cAppA (g h : Ev → Res (List D)) : Ev → Res (List D) := fun ρ => (g ρ).bind fun ds ρ1 => (h ρ1).bind fun es ρ2 => .ok (ds ++ es) ρ2
def cCallK (pm : List Nat) (f : Fn) (g : Ev → Res (List D)) : CEx := fun ρ => (g ρ).bind fun ds ρ1 => retE (f (perm pm ds)) ρ1
theorem Rps.perm {K : PySem.W.Frag} {F : Hp} {vs : List V} {ds : List D} (r : Rps K F vs ds) : ∀ pm : List Nat, Rps K F (PL.perm pm vs) (PL.perm pm ds)
  | [] => .nil
  | i :: pm => by
    unfold PL.perm
    rw [List.filterMap_cons, List.filterMap_cons]
    cases q : vs[i]? with
    | none =>
      have : ds[i]? = none := by
        rw [List.getElem?_eq_none_iff] at q ⊢
        rw [← r.length]; exact q
      rw [this]
      exact Rps.perm r pm
    | some v =>
      obtain ⟨d, e1, r1⟩ := r.get q
      rw [e1]
      exact .cons r1 (Rps.perm r pm)
theorem Vals.perm {vs : List V} {us : List Value} (r : Vals vs us) : ∀ pm : List Nat, Vals (PL.perm pm vs) (PL.perm pm us)
  | [] => .nil
  | i :: pm => by
    unfold PL.perm
    rw [List.filterMap_cons, List.filterMap_cons]
    cases q : vs[i]? with
    | none =>
      rw [Vals.none_of r q]
      exact Vals.perm r pm
    | some v =>
      obtain ⟨d, e1, r1⟩ := Vals.get r q
      rw [e1]
      exact .cons r1 (Vals.perm r pm)
section
variable {X : Cx} {W : WX} {k : Nat} {f : Addr} {fd : FuncData} {ps ks : List Str} {x : Str} {p pos kpos : Pos} {e : Expr} {es : List Expr} {kws : List Keyword} {nm : Option Str}
theorem jk_nil : JK X W [] cNilA := ⟨PK.weak pk_nil fun σ H Q ⟨F, ρ, s, p⟩ => p.here s .nil⟩
theorem jk_cons {fe : Ev → Res D} {g : Ev → Res (List D)} (he : JV X W e fe) (hr : JK X W kws g) : JK X W (⟨nm, e, kpos⟩ :: kws) (cConsA fe g) :=
  ⟨PK.weak (pk_cons he.pe hr.pk) fun σ H Q ⟨F, ρ, s, p⟩ => ⟨F, ρ, s, p.bind (fun _ _ _ _ _ _ _ h => h) fun d ρ1 v F1 H1 s1 b1 r1 p1 => ⟨F1, ρ1, s1, p1.bind (fun _ _ _ _ _ _ _ h => h) fun ds ρ2 vs F2 H2 s2 b2 r2 p2 =>
    p2.here s2 (.cons (Rp.mono b2.ext r1) r2)⟩⟩⟩
/-- how a call with keywords binds -/
def KB (K : PySem.W.Frag) (fd : FuncData) (ps ks : List Str) (n m : Nat) (pm : List Nat) : Prop :=
  ∀ (s : Shared) (us ws : List Value), K.In s.heap → us.length = n → ws.length = m → BindsTo s fd ⟨us, ks.zip ws⟩ (ps.zip (perm pm (us ++ ws)))
theorem run_kw {fn : Fn} {n m a : Nat} {pm : List Nat} {H : Hp} {σ : St} {Q : VK} {pins : List (Addr × Obj)} {s : Shared} {us ws : List Value} {vs zs : List V}
    (Fo : FnOk X.prog X.w X.K X.mg X.base (L2.CX X.prog X.w) k f fd ps (spOf X.K (noM a) fn)) (tk : Takes X W) (hr : Room k X.A) (hb : KB X.K fd ps ks n m pm)
    (I : Inv X pins σ H s) (h1 : vs.length = n) (h2 : zs.length = m) (r : Vals vs us) (rz : Vals zs ws) (h : spOf X.K (noM a) fn (perm pm (vs ++ zs)) H Q (WE W σ)) : wpAny (model X.prog X.w) X.A (call (.ref f) us (ks.zip ws)) (EP X pins σ Q) X.xe s := by
  refine wpAny_call (codeAny_mono (Fo.run X.A X.stack s H ⟨us, ks.zip ws⟩ (perm pm (us ++ ws)) (perm pm (vs ++ zs)) Q (WE W σ) hr I.env0 (hb s us ws I.kIn (by rw [← r.length]; exact h1) (by rw [← rz.length]; exact h2)) (PL.Vals.perm (r.append rz) pm) h) fun r s' hq => ?_)
  cases r with
  | error e => exact passAt tk σ pins H s e s' I hq
  | ok fl =>
    cases fl with
    | ret u => exact I.after hq
    | next => exact False.elim hq
    | brk => exact False.elim hq
    | cont => exact False.elim hq
/-- f(e, .., k = v, ..) -/
theorem je_callK {fn : Fn} {n m a : Nat} {pm : List Nat} {g h : Ev → Res (List D)} (F : FnOk X.prog X.w X.K X.mg X.base (L2.CX X.prog X.w) k f fd ps (spOf X.K (noM a) fn)) (tk : Takes X W) (hr : Room k X.A) (hm : X.mg x = some (.ref f)) (hk : PySem.W.keepIn X.K (.ref f) = true) (hb : KB X.K fd ps ks n m pm)
    (ha : JA X W (e :: es) g) (hkw : JK X W kws h) (hn : ∀ ρ ds ρ', g ρ = .ok ds ρ' → ds.length = n) (hn2 : ∀ ρ ds ρ', h ρ = .ok ds ρ' → ds.length = m) (hpm : ∀ ds : List D, ds.length = n + m → (perm pm ds).length = a)
    (hg : Gl X x := by rfl) (hall : (backToKw pos (keywordEach kws X.env)).all (·.1.isSome) = true := by rfl) (hks : (backToKw pos (keywordEach kws X.env)).filterMap (·.1) = ks := by rfl)
    (hdb : (x == ("__debug__" : Str)) = false := by decide) (he : starEach (e :: es) X.env = (false, eval e X.env) :: starEach es X.env := by rfl)
    (hpl : ((backTo pos (starEach (e :: es) X.env)).any (·.1) || (backToKw pos (keywordEach kws X.env)).any (·.1.isNone)) = false := by rfl) :
    JE X W (.Call (.Name x p) (e :: es) kws pos) (cCallK pm fn (cAppA g h)) := by
  refine ⟨⟨fun pins s σ H Q I ⟨Fz, ρ, sr, p⟩ => ?_⟩⟩
  refine wpAny_Call_Name_kw (ld_glob I hg hm ?_ hdb)
  refine PySem.W.callWith_KW (h₀ := X.base) I.ok.mod.kin hk hall ?_ hpl he
  unfold cCallK cAppA at p
  cases q : g ρ with
  | stk => rw [q] at p; exact p.elim
  | ex c d ρ' =>
    rw [q] at p
    exact thn (ha.pa.run pos pins s σ H (fun _ _ => False) I ⟨Fz, ρ, sr, by rw [q]; exact p⟩) fun us s1 ⟨vs, H1, I1, r, z⟩ => z.elim
  | ok ds ρ1 =>
    rw [q] at p
    refine thn (ha.pa.run pos pins s σ H (fun vs H1 => ∃ F1, RS X.K F1 ρ1 σ H1 ∧ Fr Fz ρ σ H F1 ρ1 σ H1 ∧ Rps X.K F1 vs ds) I ⟨Fz, ρ, sr, by rw [q]; exact fun vs F1 H1 s1 b1 r1 => ⟨F1, s1, b1, r1⟩⟩) fun us s1 ⟨vs, H1, I1, r, F1, sr1, b1, r1⟩ => ?_
    have p1 : Po X.K W (OR X.K) F1 ρ1 σ H1 Q (((h ρ1).bind fun es ρ2 => .ok (ds ++ es) ρ2).bind fun ds ρ1 => retE (fn (perm pm ds)) ρ1) := Po.from (fun _ _ _ _ _ h => OR.back b1 h) b1 p
    cases q2 : h ρ1 with
    | stk => rw [q2] at p1; exact p1.elim
    | ex c d ρ' =>
      rw [q2] at p1
      exact thn (hkw.pk.run pos pins s1 σ H1 (fun _ _ => False) I1 ⟨F1, ρ1, sr1, by rw [q2]; exact p1⟩) fun us s1 ⟨vs, H1, I1, r, z⟩ => z.elim
    | ok es2 ρ2 =>
      rw [q2] at p1
      refine thn (hkw.pk.run pos pins s1 σ H1 (fun vs H2 => ∃ F2, RS X.K F2 ρ2 σ H2 ∧ Fr F1 ρ1 σ H1 F2 ρ2 σ H2 ∧ Rps X.K F2 vs es2) I1 ⟨F1, ρ1, sr1, by rw [q2]; exact fun vs F1 H1 s1 b1 r1 => ⟨F1, s1, b1, r1⟩⟩) fun ws s2 ⟨zs, H2, I2, rz, F2, sr2, b2, r2⟩ => ⟨I2.kIn, ?_⟩
      rw [hks]
      have l1 := hn _ _ _ q
      have l2 := hn2 _ _ _ q2
      have p2 : Po X.K W (OR X.K) F2 ρ2 σ H2 Q (retE (fn (perm pm (ds ++ es2))) ρ2) := Po.from (fun _ _ _ _ _ h => OR.back b2 h) b2 p1
      refine run_kw F tk hr hb I2 (by rw [r1.length]; exact l1) (by rw [r2.length]; exact l2) r rz ?_
      exact sp_of sr2 (((r1.mono b2.ext).append r2).perm pm) (hpm _ (by rw [List.length_append, l1, l2])) p2
theorem je_callK0 {fn : Fn} {m a : Nat} {pm : List Nat} {h : Ev → Res (List D)} (F : FnOk X.prog X.w X.K X.mg X.base (L2.CX X.prog X.w) k f fd ps (spOf X.K (noM a) fn)) (tk : Takes X W) (hr : Room k X.A) (hm : X.mg x = some (.ref f)) (hk : PySem.W.keepIn X.K (.ref f) = true) (hb : KB X.K fd ps ks 0 m pm)
    (hkw : JK X W kws h) (hn2 : ∀ ρ ds ρ', h ρ = .ok ds ρ' → ds.length = m) (hpm : ∀ ds : List D, ds.length = m → (perm pm ds).length = a)
    (hg : Gl X x := by rfl) (hall : (backToKw pos (keywordEach kws X.env)).all (·.1.isSome) = true := by rfl) (hks : (backToKw pos (keywordEach kws X.env)).filterMap (·.1) = ks := by rfl)
    (hdb : (x == ("__debug__" : Str)) = false := by decide)
    (hpl : ((backTo pos (starEach [] X.env)).any (·.1) || (backToKw pos (keywordEach kws X.env)).any (·.1.isNone)) = false := by rfl) :
    JE X W (.Call (.Name x p) [] kws pos) (cCallK pm fn h) := by
  refine ⟨⟨fun pins s σ H Q I ⟨Fz, ρ, sr, p⟩ => ?_⟩⟩
  refine wpAny_Call_Name_kw (ld_glob I hg hm ?_ hdb)
  refine PySem.W.callWith_KW0 (h₀ := X.base) I.ok.mod.kin hk hall ?_ hpl
  unfold cCallK at p
  cases q2 : h ρ with
  | stk => rw [q2] at p; exact p.elim
  | ex c d ρ' =>
    rw [q2] at p
    exact thn (hkw.pk.run pos pins s σ H (fun _ _ => False) I ⟨Fz, ρ, sr, by rw [q2]; exact p⟩) fun us s1 ⟨vs, H1, I1, r, z⟩ => z.elim
  | ok es2 ρ2 =>
    rw [q2] at p
    refine thn (hkw.pk.run pos pins s σ H (fun vs H2 => ∃ F2, RS X.K F2 ρ2 σ H2 ∧ Fr Fz ρ σ H F2 ρ2 σ H2 ∧ Rps X.K F2 vs es2) I ⟨Fz, ρ, sr, by rw [q2]; exact fun vs F1 H1 s1 b1 r1 => ⟨F1, s1, b1, r1⟩⟩) fun ws s2 ⟨zs, H2, I2, rz, F2, sr2, b2, r2⟩ => ⟨I2.kIn, ?_⟩
    rw [hks]
    have l2 := hn2 _ _ _ q2
    have p2 : Po X.K W (OR X.K) F2 ρ2 σ H2 Q (retE (fn (perm pm es2)) ρ2) := Po.from (fun _ _ _ _ _ h => OR.back b2 h) b2 p
    exact run_kw (us := []) (vs := []) F tk hr hb I2 rfl (by rw [r2.length]; exact l2) .nil rz (sp_of sr2 (r2.perm pm) (hpm _ l2) p2)
end
/-! ### a def by its body -/
/-- what the changed arguments hold at the end -/
def outM : List Bool → Ev → Option (List D)
  | [], _ => some []
  | true :: mk, .ow d :: ρ => (outM mk ρ).map (d :: ·)
  | false :: mk, _ :: ρ => outM mk ρ
  | _, _ => none
def runF (mk : List Bool) (un : Nat) (b : CSt) : Fn := fun ds => match b (cellsM mk ds ++ List.replicate un .un) with
  | .ret o ρ => match outM mk ρ with
    | none => .stk
    | some ms => match o with
      | .vl d => .ret (.vl d) ms
      | .fr d => .ret (.fr d) ms
      | .pl i => if (mk.getD i false) = true then .stk else match ρ[i]? with
        | some (.ow d) => .ret (.fr d) ms
        | some (.fz d) => .ret (.vl d) ms
        | _ => .stk
  | .nx ρ => match outM mk ρ with
    | none => .stk
    | some ms => .ret (.vl .non) ms
  | .ex c d ρ => match outM mk ρ with
    | none => .stk
    | some ms => .ex c d ms
  | _ => .stk
theorem cellsB_get : ∀ {mk : List Bool} {ds ms : List D} {ρ : Ev}, ds.length = mk.length → outM mk ρ = some ms →
    (cellsB mk ds ms).length = mk.length ∧ ∀ i : Nat, (∀ d : D, (cellsB mk ds ms)[i]? = some (.ow d) → mk[i]? = some true ∧ ρ[i]? = some (.ow d)) ∧ (∀ d : D, (cellsB mk ds ms)[i]? = some (.fz d) → mk[i]? = some false ∧ ds[i]? = some d) ∧ (mk[i]? = some true → ∃ d : D, ρ[i]? = some (.ow d) ∧ (cellsB mk ds ms)[i]? = some (.ow d))
  | [], [], ms, ρ, _, h => by
    have : cellsB [] [] ms = [] := by unfold cellsB; rfl
    rw [this]
    exact ⟨rfl, fun i => ⟨fun d e => by simp at e, fun d e => by simp at e, fun e => by simp at e⟩⟩
  | false :: mk, d0 :: ds, ms, ρ, hl, h => by
    cases ρ with
    | nil => cases h
    | cons c ρ =>
      have h' : outM mk ρ = some ms := by cases c <;> exact h
      obtain ⟨l1, ih⟩ := cellsB_get (Nat.succ.inj hl) h'
      have e : cellsB (false :: mk) (d0 :: ds) ms = .fz d0 :: cellsB mk ds ms := by cases ms <;> rfl
      rw [e]
      refine ⟨by simp [l1], fun i => ?_⟩
      cases i with
      | zero => exact ⟨fun d q => by simp at q, fun d q => by simp at q; subst q; exact ⟨rfl, rfl⟩, fun q => by simp at q⟩
      | succ i => simpa using ih i
  | true :: mk, d0 :: ds, ms, ρ, hl, h => by
    cases ρ with
    | nil => cases h
    | cons c ρ =>
      cases c with
      | un => cases h
      | fz d => cases h
      | ow d =>
        have h1 : (outM mk ρ).map (d :: ·) = some ms := h
        cases q : outM mk ρ with
        | none => rw [q] at h1; cases h1
        | some zs =>
          rw [q] at h1
          cases h1
          obtain ⟨l1, ih⟩ := cellsB_get (Nat.succ.inj hl) q
          show (Cell.ow d :: cellsB mk ds zs).length = _ ∧ ∀ i : Nat, (∀ d' : D, (Cell.ow d :: cellsB mk ds zs)[i]? = some (.ow d') → _) ∧ (∀ d' : D, (Cell.ow d :: cellsB mk ds zs)[i]? = some (.fz d') → _) ∧ (_ → ∃ d' : D, _ ∧ (Cell.ow d :: cellsB mk ds zs)[i]? = some (.ow d'))
          refine ⟨by simp [l1], fun i => ?_⟩
          cases i with
          | zero => exact ⟨fun d q => by simp at q; subst q; exact ⟨rfl, rfl⟩, fun d q => by simp at q, fun _ => ⟨d, rfl, rfl⟩⟩
          | succ i => simpa using ih i
theorem cellsM_get : ∀ {mk : List Bool} {ds : List D}, ds.length = mk.length → ∀ i : Nat, (∀ d : D, (cellsM mk ds)[i]? = some (.ow d) → mk[i]? = some true ∧ ds[i]? = some d) ∧ (∀ d : D, (cellsM mk ds)[i]? = some (.fz d) → mk[i]? = some false ∧ ds[i]? = some d) ∧ (∀ d : D, mk[i]? = some false → ds[i]? = some d → (cellsM mk ds)[i]? = some (.fz d))
  | [], [], _, i => ⟨fun d e => by simp [cellsM] at e, fun d e => by simp [cellsM] at e, fun d e => by simp at e⟩
  | false :: mk, d0 :: ds, hl, i => by
    cases i with
    | zero => exact ⟨fun d q => by simp [cellsM] at q, fun d q => by simp [cellsM] at q; subst q; exact ⟨rfl, rfl⟩, fun d _ q => by simp at q; subst q; rfl⟩
    | succ i => simpa [cellsM] using cellsM_get (Nat.succ.inj hl) i
  | true :: mk, d0 :: ds, hl, i => by
    cases i with
    | zero => exact ⟨fun d q => by simp [cellsM] at q; subst q; exact ⟨rfl, rfl⟩, fun d q => by simp [cellsM] at q, fun d q => by simp at q⟩
    | succ i => simpa [cellsM] using cellsM_get (Nat.succ.inj hl) i
section
variable {K : PySem.W.Frag} {F F' H H' : Hp} {mk : List Bool} {ds ms : List D} {ρ : Ev} {σ : St} {vs : List V} {n : Nat}
/-- the start of a body -/
theorem RS.start (s : RS K F (cellsM mk ds) (vs.map some) H) : RS K F (cellsM mk ds ++ List.replicate n .un) (vs.map some ++ List.replicate n none) H := by
  have hl := s.len
  have gl : ∀ (i : Nat) (c : Cell), c ≠ .un → (cellsM mk ds ++ List.replicate n .un)[i]? = some c → i < (vs.map some).length ∧ (cellsM mk ds)[i]? = some c := fun i c hc e => by
    by_cases hi : i < (cellsM mk ds).length
    · rw [List.getElem?_append_left hi] at e
      exact ⟨by rw [← hl]; exact hi, e⟩
    · rw [List.getElem?_append_right (by omega), List.getElem?_replicate] at e
      split at e
      · exact absurd (Option.some.inj e).symm hc
      · cases e
  refine ⟨by simp [hl], s.sub, fun i d e => ?_, fun i d e => ?_, fun i j d e s1 t1 a h1 h2 h3 h4 => ?_⟩
  · obtain ⟨hi, e⟩ := gl i _ (by simp) e
    obtain ⟨v, e1, r⟩ := s.fz i d e
    exact ⟨v, by rw [List.getElem?_append_left hi]; exact e1, r⟩
  · obtain ⟨hi, e⟩ := gl i _ (by simp) e
    obtain ⟨v, e1, r⟩ := s.ow i d e
    exact ⟨v, by rw [List.getElem?_append_left hi]; exact e1, r⟩
  · obtain ⟨hi, h1⟩ := gl i _ (by simp) h1
    obtain ⟨hj, h2⟩ := gl j _ (by simp) h2
    rw [List.getElem?_append_left hi] at h3
    rw [List.getElem?_append_left hj] at h4
    exact s.inj i j d e s1 t1 a h1 h2 h3 h4
theorem OS.start {a : Addr} (hl : (cellsM mk ds).length = vs.length) : OS (cellsM mk ds ++ List.replicate n .un) (vs.map some ++ List.replicate n none) H a ↔ OS (cellsM mk ds) (vs.map some) H a := by
  constructor
  · rintro ⟨i, d, t, e1, e2, e3⟩
    by_cases hi : i < (cellsM mk ds).length
    · rw [List.getElem?_append_left hi] at e1
      rw [List.getElem?_append_left (by simp; omega)] at e2
      exact ⟨i, d, t, e1, e2, e3⟩
    · rw [List.getElem?_append_right (by omega), List.getElem?_replicate] at e1
      split at e1
      · cases e1
      · cases e1
  · rintro ⟨i, d, t, e1, e2, e3⟩
    have hi := (List.getElem?_eq_some_iff.mp e1).1
    exact ⟨i, d, t, by rw [List.getElem?_append_left hi]; exact e1, by rw [List.getElem?_append_left (by simp; omega)]; exact e2, e3⟩
theorem OT.start {t a : Addr} (hl : (cellsM mk ds).length = vs.length) : OT (cellsM mk ds ++ List.replicate n .un) (vs.map some ++ List.replicate n none) H t a → OT (cellsM mk ds) (vs.map some) H t a := by
  rintro ⟨i, d, e1, e2, e3⟩
  by_cases hi : i < (cellsM mk ds).length
  · rw [List.getElem?_append_left hi] at e1
    rw [List.getElem?_append_left (by simp; omega)] at e2
    exact ⟨i, d, e1, e2, e3⟩
  · rw [List.getElem?_append_right (by omega), List.getElem?_replicate] at e1
    split at e1
    · cases e1
    · cases e1
/-- what a body's end is to the caller -/
theorem RS.end_ (s0 : RS K F (cellsM mk ds) (vs.map some) H) (hl : ds.length = mk.length) (b : Fr F (cellsM mk ds ++ List.replicate n .un) (vs.map some ++ List.replicate n none) H F' ρ σ H') (s : RS K F' ρ σ H') (ho : outM mk ρ = some ms)
    (pn : ∀ i : Nat, mk[i]? = some true → σ[i]? = (vs.map some ++ List.replicate n none)[i]?) :
    RS K F' (cellsB mk ds ms) (vs.map some) H' ∧ Fr F (cellsM mk ds) (vs.map some) H F' (cellsB mk ds ms) (vs.map some) H' ∧
      (∀ (i : Nat) (d : D) (t a : Addr), mk.getD i false ≠ true → ρ[i]? = some (.ow d) → σ[i]? = some (some (.ref t)) → In H' t d a → H a = none ∧ ¬ OS (cellsB mk ds ms) (vs.map some) H' a) ∧ ∀ a, OS (cellsB mk ds ms) (vs.map some) H' a → OS ρ σ H' a := by
  have lM : (cellsM mk ds).length = vs.length := by have := s0.len; simpa using this
  have lM2 : (cellsM mk ds).length = mk.length := cellsM_length hl
  obtain ⟨lB, gB⟩ := cellsB_get (ds := ds) hl ho
  have at_ : ∀ (i : Nat) (d : D), (cellsB mk ds ms)[i]? = some (.ow d) → i < vs.length ∧ ρ[i]? = some (.ow d) ∧ mk[i]? = some true ∧ σ[i]? = (vs.map some)[i]? := fun i d e => by
    obtain ⟨e1, e2⟩ := (gB i).1 d e
    have hi : i < vs.length := by
      have := (List.getElem?_eq_some_iff.mp e1).1
      omega
    refine ⟨hi, e2, e1, ?_⟩
    rw [pn i e1, List.getElem?_append_left (by simpa using hi)]
  have noO : ∀ (i : Nat) (d : D) (t a : Addr), mk.getD i false ≠ true → ρ[i]? = some (.ow d) → σ[i]? = some (some (.ref t)) → In H' t d a → ¬ OS (cellsB mk ds ms) (vs.map some) H' a := fun i d t a hi e1 e2 e3 ⟨j, d', t', q1, q2, q6⟩ => by
    obtain ⟨_, q3, q4, q5⟩ := at_ j d' q1
    rw [← q5] at q2
    have := s.inj i j d d' t t' a e1 q3 e2 q2 e3 q6
    subst this
    exact hi (by rw [List.getD_eq_getElem?_getD, q4]; rfl)
  refine ⟨⟨by simp [lB]; omega, s.sub, fun i d e => ?_, fun i d e => ?_, fun i j d e s1 t1 a h1 h2 h3 h4 => ?_⟩, ⟨b.ext, fun a o h n => ?_, b.dom, fun a h => ?_, fun t a h => ?_, fun i h => ?_⟩, fun i d t a hi e1 e2 e3 => ⟨?_, noO i d t a hi e1 e2 e3⟩, fun a ⟨j, d, t, q1, q2, q6⟩ => ?_⟩
  · obtain ⟨e1, e2⟩ := (gB i).2.1 d e
    obtain ⟨v, e3, r⟩ := s0.fz i d ((cellsM_get hl i).2.2 d e1 e2)
    exact ⟨v, e3, r.mono b.ext⟩
  · obtain ⟨_, e1, _, e2⟩ := at_ i d e
    obtain ⟨a, e3, r⟩ := s.ow i d e1
    exact ⟨a, e2 ▸ e3, r⟩
  · obtain ⟨_, q1, _, q2⟩ := at_ i d h1
    obtain ⟨_, q3, _, q4⟩ := at_ j e h2
    exact s.inj i j d e s1 t1 a q1 q3 (q2.trans h3) (q4.trans h4)
  · exact b.keep a o h fun z => n ((OS.start lM).mp z)
  · exact (b.new a h).imp_right fun z => z.imp_right (OS.start lM).mp
  · obtain ⟨j, d, q1, q2, q6⟩ := h
    obtain ⟨hj, q3, q4, q5⟩ := at_ j d q1
    rcases b.ot t a ⟨j, d, q3, q5.trans q2, q6⟩ with z | z
    · exact .inl (OT.start lM z)
    · exact .inr z
  · obtain ⟨d, h⟩ := h
    have hi : i < mk.length := by
      rcases h with h | h <;> (have := (List.getElem?_eq_some_iff.mp h).1; omega)
    have hd : i < ds.length := by omega
    cases q : mk[i] with
    | true =>
      obtain ⟨d', _, e⟩ := (gB i).2.2 (by rw [List.getElem?_eq_getElem hi, q])
      exact ⟨d', .inl e⟩
    | false =>
      cases q2 : (cellsB mk ds ms)[i]? with
      | none =>
        have := List.getElem?_eq_none_iff.mp q2
        omega
      | some c =>
        cases c with
        | un => exact ⟨d, by
            exfalso
            have h3 : ∀ {mk : List Bool} {ds ms : List D} {i : Nat}, (cellsB mk ds ms)[i]? ≠ some .un := by
              intro mk
              induction mk with
              | nil => intro ds ms i h; unfold cellsB at h; simp at h
              | cons x mk ih =>
                intro ds ms i h
                cases x <;> cases ds <;> cases ms <;> unfold cellsB at h <;> first
                  | (simp at h; done)
                  | (cases i with
                     | zero => simp at h
                     | succ i => exact ih (by simpa using h))
            exact h3 q2⟩
        | fz d' => exact ⟨d', .inr q2⟩
        | ow d' => exact ⟨d', .inl q2⟩
  · refine Classical.byContradiction fun h0 => ?_
    have z := (b.ot t a ⟨i, d, e1, e2, e3⟩).resolve_right h0
    obtain ⟨j, d', q1, q2, q6⟩ := OT.start lM z
    obtain ⟨m1, _⟩ := (cellsM_get hl j).1 d' q1
    obtain ⟨d2, m2, m3⟩ := (gB j).2.2 m1
    obtain ⟨_, _, _, q5⟩ := at_ j d2 m3
    have := s.inj i j d d2 t t t e1 m2 e2 (q5.trans q2) .top .top
    subst this
    exact hi (by rw [List.getD_eq_getElem?_getD, m1]; rfl)
  · obtain ⟨_, q3, _, q4⟩ := at_ j d q1
    exact ⟨j, d, t, q3, q4.trans q2, q6⟩
end
/-- a def's body, once called -/
theorem fn_bodyT {P : Program} {w : World} {K : PySem.W.Frag} {mg : Str → Option Value} {base : Heap} {qual : Str} {body : List Stmt} {scope : Scope} {f : Addr} {N ps : List Str} {mk : List Bool} {b : CSt} (hm : mk.length = ps.length)
    {cdv : Value} {A : Around} {outer : List Env} {s : Shared} {H : Hp} {vs : List V} {Q : VK} {E : XK}
    (hj : JSs (cxOf (L2.CX P w) P w K mg base N qual scope f cdv A outer s H E) (fun c d _ H => E c d H) ((List.range mk.length).filter fun i => mk.getD i false) body b)
    (hsp : spOf K mk (runF mk (N.length - ps.length) b) vs H Q E) :
    ∃ t, PSs (cxOf (L2.CX P w) P w K mg base N qual scope f cdv A outer s H E) body t ∧ t { nx := fun _ H' => Q .non H', rt := Q } (L2.start N vs) H := by
  have hvl : vs.length = ps.length := sp_len hm _ _ _ _ hsp
  obtain ⟨Fz, ds, hl, sr, hs⟩ := hsp
  refine ⟨_, hj.pss, Fz, cellsM mk ds ++ List.replicate (N.length - ps.length) .un, ?_, ?_⟩
  · have e : L2.start N vs = vs.map some ++ List.replicate (N.length - ps.length) none := by unfold L2.start; rw [hvl]
    rw [e]
    exact sr.start
  · have e : L2.start N vs = vs.map some ++ List.replicate (N.length - ps.length) none := by unfold L2.start; rw [hvl]
    rw [e]
    have pin : ∀ {σ' : St}, Pin ((List.range mk.length).filter fun i => mk.getD i false) (vs.map some ++ List.replicate (N.length - ps.length) none) σ' → ∀ i : Nat, mk[i]? = some true → σ'[i]? = (vs.map some ++ List.replicate (N.length - ps.length) none)[i]? := fun {σ'} p i hi =>
      p i (List.mem_filter.mpr ⟨List.mem_range.mpr (List.getElem?_eq_some_iff.mp hi).1, by rw [List.getD_eq_getElem?_getD, hi]; rfl⟩)
    unfold runF at hs
    cases q : b (cellsM mk ds ++ List.replicate (N.length - ps.length) .un) with
    | stk => rw [q] at hs; exact hs
    | bk ρ => rw [q] at hs; exact hs.elim
    | ct ρ => rw [q] at hs; exact hs.elim
    | nx ρ =>
      rw [q] at hs
      dsimp only at hs
      cases ho : outM mk ρ with
      | none => rw [ho] at hs; exact hs.elim
      | some ms =>
        rw [ho] at hs
        intro σ' F' H' s' b' p'
        obtain ⟨r1, r2, _⟩ := RS.end_ sr hl b' s' ho (pin p')
        exact hs.2 .non F' H' r1 r2 .non
    | ex c d ρ =>
      rw [q] at hs
      dsimp only at hs
      cases ho : outM mk ρ with
      | none => rw [ho] at hs; exact hs.elim
      | some ms =>
        rw [ho] at hs
        intro dx v σ' F' H' s' b' p' r' hx
        obtain ⟨r1, r2, _⟩ := RS.end_ sr hl b' s' ho (pin p')
        exact hs dx v F' H' r1 r2 r' hx
    | ret o ρ =>
      rw [q] at hs
      dsimp only at hs
      cases ho : outM mk ρ with
      | none => rw [ho] at hs; exact hs.elim
      | some ms =>
        rw [ho] at hs
        intro v σ' F' H' s' b' p' r'
        obtain ⟨r1, r2, r3, r4⟩ := RS.end_ sr hl b' s' ho (pin p')
        cases o with
        | vl d => exact hs.2 v F' H' r1 r2 r'
        | fr d =>
          obtain ⟨a, e, nn, w⟩ := r'
          exact hs.2 v F' H' r1 r2 ⟨a, e, fun c hc => ⟨(nn c hc).1, (nn c hc).2.1, fun z => (nn c hc).2.2 (r4 c z)⟩, w⟩
        | pl i =>
          obtain ⟨hσ, x, hx⟩ := r'
          by_cases hi : mk.getD i false = true
          · dsimp only at hs
            rw [if_pos hi] at hs
            exact hs.elim
          · dsimp only at hs
            rw [if_neg hi] at hs
            rcases hx with hx | hx
            · rw [hx] at hs
              obtain ⟨a, e, n, w⟩ := s'.ow i x hx
              rw [hσ] at e
              cases e
              exact hs.2 _ F' H' r1 r2 ⟨a, rfl, fun c hc => ⟨n c hc, r3 i x a c hi hx hσ hc⟩, w⟩
            · rw [hx] at hs
              obtain ⟨u, e, r⟩ := s'.fz i x hx
              rw [hσ] at e
              cases e
              exact hs.2 _ F' H' r1 r2 r
/-- THE RULE: a def by its body -/
theorem fn_body {P : Program} {w : World} {K : PySem.W.Frag} {mg : Str → Option Value} {base : Heap} {x qual : Str} {params : Arguments} {body : List Stmt} {scope : Scope} {dvs : List V} {kws : List (Str × V)} {f : Addr} {fd : FuncData} {N ps : List Str} {k : Nat} {mk : List Bool} {b : CSt}
    (F : FunD K x qual params body scope dvs kws f fd) (S : FnScope N ps scope) (hm : mk.length = ps.length)
    (hb : ∀ (cdv : Value) (A : Around) (outer : List Env) (s : Shared) (H : Hp) (E : XK), Room k (A.deeper (envOfC qual scope s.heap.objs.size f cdv)) →
      JSs (cxOf (L2.CX P w) P w K mg base N qual scope f cdv A outer s H E) (fun c d _ H => E c d H) ((List.range mk.length).filter fun i => mk.getD i false) body b) :
    FnOk P w K mg base (L2.CX P w) (k + 1) f fd ps (spOf K mk (runF mk (N.length - ps.length) b)) :=
  F.ok S (sp_len hm) fun cdv A outer s H _ _ E hr hsp => fn_bodyT hm (hb cdv A outer s H E hr) hsp
end PL
/-! PL5: a call that changes its first argument; comprehensions -/
namespace PL
open PySem PySem.Spec L2
open PyProof.Rows (envOfC)
/-! ### f(x, e, ..) that changes the container of the name x -/
def afterC (f : Fn) (j : Nat) (ds : List D) (ρ1 : Ev) : Res Opd := match ρ1[j]? with
  | some (.ow d) => match f (d :: ds) with
    | .ret o [m] => match o with
      | .pl _ => .stk
      | o => .ok o (ρ1.set j (.ow m))
    | .ex c e [m] => .ex c e (ρ1.set j (.ow m))
    | _ => .stk
  | _ => .stk
def cCall1 (f : Fn) (j : Nat) (g : Ev → Res (List D)) : CEx := fun ρ => match ρ[j]? with
  | some (.ow _) => (g ρ).bind fun ds ρ1 => afterC f j ds ρ1
  | _ => .stk
section
variable {K : PySem.W.Frag} {W : WX} {F F' H H' : Hp} {ρ : Ev} {σ : St}
theorem cells1 {d : D} {ds : List D} : cellsM (true :: noM ds.length) (d :: ds) = .ow d :: ds.map .fz := congrArg (Cell.ow d :: ·) cells_no
theorem cellsB1 {d m : D} {ds : List D} : cellsB (true :: noM ds.length) (d :: ds) [m] = .ow m :: ds.map .fz := congrArg (Cell.ow m :: ·) cellsB_no
theorem fz_get {ds : List D} {i : Nat} {c : Cell} (h : (ds.map Cell.fz)[i]? = some c) : ∃ d, ds[i]? = some d ∧ c = .fz d := by
  rw [List.getElem?_map] at h
  cases q : ds[i]? with
  | none => rw [q] at h; cases h
  | some x => rw [q] at h; exact ⟨x, rfl, (Option.some.inj h).symm⟩
theorem RS.args1 {a : Addr} {vs : List V} {d : D} {ds : List D} (s : Sub F H) (n : ∀ c, In H a d c → F c = none) (w : Own K F H a d) (r : Rps K F vs ds) : RS K F (.ow d :: ds.map .fz) ((V.ref a :: vs).map some) H := by
  refine ⟨by simp [r.length], s, fun i d' e => ?_, fun i d' e => ?_, fun i j d' e' s1 t1 b h1 h2 _ _ _ _ => ?_⟩
  · cases i with
    | zero => simp at e
    | succ i =>
      obtain ⟨x, e1, e2⟩ := fz_get (show (ds.map Cell.fz)[i]? = some (.fz d') by simpa using e)
      cases e2
      obtain ⟨v, e3, r1⟩ := r.get' e1
      exact ⟨v, by simp [e3], r1⟩
  · cases i with
    | zero => simp at e; subst e; exact ⟨a, rfl, n, w⟩
    | succ i =>
      obtain ⟨x, e1, e2⟩ := fz_get (show (ds.map Cell.fz)[i]? = some (.ow d') by simpa using e)
      cases e2
  · have z : ∀ (k : Nat) (x : D), (Cell.ow d :: ds.map Cell.fz)[k]? = some (.ow x) → k = 0 := fun k x h => by
      cases k with
      | zero => rfl
      | succ k =>
        obtain ⟨y, _, e2⟩ := fz_get (show (ds.map Cell.fz)[k]? = some (.ow x) by simpa using h)
        cases e2
    rw [z i _ h1, z j _ h2]
theorem OS1 {d : D} {ds : List D} {a b : Addr} {vs : List V} (h : OS (.ow d :: ds.map .fz) ((V.ref a :: vs).map some) H b) : In H a d b := by
  obtain ⟨i, x, t, h1, h2, h3⟩ := h
  cases i with
  | zero => simp at h2; simp at h1; subst h1 h2; exact h3
  | succ i =>
    obtain ⟨y, _, e2⟩ := fz_get (show (ds.map Cell.fz)[i]? = some (.ow x) by simpa using h1)
    cases e2
theorem OT1 {d : D} {ds : List D} {a b t : Addr} {vs : List V} (h : OT (.ow d :: ds.map .fz) ((V.ref a :: vs).map some) H t b) : t = a ∧ In H a d b := by
  obtain ⟨i, x, h1, h2, h3⟩ := h
  cases i with
  | zero => simp at h2; simp at h1; subst h1 h2; exact ⟨rfl, h3⟩
  | succ i =>
    obtain ⟨y, _, e2⟩ := fz_get (show (ds.map Cell.fz)[i]? = some (.ow x) by simpa using h1)
    cases e2
/-- a name's own container has turned -/
theorem RS.turn {j : Nat} {a : Addr} {d m : D} (s : RS K F ρ σ H) (hj : ρ[j]? = some (.ow d)) (ha : σ[j]? = some (some (.ref a))) (ext : Sub F F') (sub : Sub F' H') (kp : ∀ c o, H c = some o → ¬ In H a d c → H' c = some o)
    (nw : ∀ c, F' c ≠ none → F c ≠ none ∨ H c = none ∨ In H a d c) (dom : ∀ c, H c ≠ none → H' c ≠ none) (n' : ∀ c, In H' a m c → F' c = none) (fr : ∀ c, In H' a m c → In H a d c ∨ H c = none) (w : Own K F' H' a m) :
    RS K F' (ρ.set j (.ow m)) σ H' ∧ Fr F ρ σ H F' (ρ.set j (.ow m)) σ H' := by
  have hjl : j < ρ.length := (List.getElem?_eq_some_iff.mp hj).1
  have back : ∀ (i : Nat) (x : D), (ρ.set j (.ow m))[i]? = some (.ow x) → (i = j ∧ x = m) ∨ (i ≠ j ∧ ρ[i]? = some (.ow x)) := fun i x h => by
    rcases getElem?_set_some h with ⟨e1, e2⟩ | h
    · exact .inl ⟨e1, by injection e2⟩
    · exact .inr h
  have apart : ∀ (i : Nat) (x : D) (t c : Addr), i ≠ j → ρ[i]? = some (.ow x) → σ[i]? = some (some (.ref t)) → In H t x c → ¬ In H a d c := fun i x t c n h1 h2 h3 z => n (s.inj i j x d t a c h1 hj h2 ha h3 z)
  have top : ∀ (i : Nat) (x : D) (t : Addr), i ≠ j → ρ[i]? = some (.ow x) → σ[i]? = some (some (.ref t)) → H' t = H t := fun i x t n h1 h2 => by
    obtain ⟨t', e, _, w1⟩ := s.ow i x h1
    rw [h2] at e
    cases e
    obtain ⟨o, ho⟩ := some_of (w1.there .top)
    rw [ho]
    exact kp t o ho (apart i x t t n h1 h2 .top)
  have there : ∀ (i : Nat) (x : D) (t c : Addr), ρ[i]? = some (.ow x) → σ[i]? = some (some (.ref t)) → In H t x c → H c ≠ none := fun i x t c h1 h2 h3 => s.osH ⟨i, x, t, h1, h2, h3⟩
  refine ⟨⟨by simp [s.len], sub, fun i x e => ?_, fun i x e => ?_, fun i k x y s1 t1 c h1 h2 h3 h4 h5 h6 => ?_⟩, ⟨ext, fun c o h n => kp c o h fun z => n ⟨j, d, a, hj, ha, z⟩, dom, fun c h => (nw c h).imp_right fun z => z.imp_right fun z => ⟨j, d, a, hj, ha, z⟩, fun t c h => ?_, fun i h => Lv.set ⟨m, .inl rfl⟩ h⟩⟩
  · rcases getElem?_set_some e with ⟨_, e2⟩ | ⟨_, e⟩
    · cases e2
    · obtain ⟨v, e1, r⟩ := s.fz i x e
      exact ⟨v, e1, r.mono ext⟩
  · rcases back i x e with ⟨e1, e2⟩ | ⟨hi, e⟩
    · subst e1; subst e2
      exact ⟨a, ha, n', w⟩
    · obtain ⟨t, e1, n, w1⟩ := s.ow i x e
      refine ⟨t, e1, fun c hc => ?_, w1.mono ext fun c o hc ho => kp c o ho (apart i x t c hi e e1 hc)⟩
      have hc := hc.to (top i x t hi e e1).symm
      exact Classical.byContradiction fun z => (nw c z).elim (fun q => q (n c hc)) fun q => q.elim (there i x t c e e1 hc) (apart i x t c hi e e1 hc)
  · have two : ∀ (k : Nat) (y : D) (t1 : Addr), k ≠ j → ρ[k]? = some (.ow y) → σ[k]? = some (some (.ref t1)) → In H' a m c → In H' t1 y c → False := fun k y t1 n q1 q2 z1 z2 => by
      have z2 := z2.to (top k y t1 n q1 q2).symm
      rcases fr c z1 with z | z
      · exact apart k y t1 c n q1 q2 z2 z
      · exact there k y t1 c q1 q2 z2 z
    rcases back i x h1 with ⟨e1, e3⟩ | ⟨n1, q1⟩
    · rcases back k y h2 with ⟨e2, _⟩ | ⟨n2, q2⟩
      · rw [e1, e2]
      · subst e1 e3
        rw [ha] at h3
        cases h3
        exact (two k y t1 n2 q2 h4 h5 h6).elim
    · rcases back k y h2 with ⟨e2, e3⟩ | ⟨n2, q2⟩
      · subst e2 e3
        rw [ha] at h4
        cases h4
        exact (two i x s1 n1 q1 h3 h6 h5).elim
      · exact s.inj i k x y s1 t1 c q1 q2 h3 h4 (h5.to (top i x s1 n1 q1 h3).symm) (h6.to (top k y t1 n2 q2 h4).symm)
  · obtain ⟨i, x, h1, h2, h3⟩ := h
    rcases back i x h1 with ⟨e1, e2⟩ | ⟨n1, q1⟩
    · subst e1 e2
      rw [ha] at h2
      cases h2
      exact (fr c h3).imp_left fun z => ⟨i, d, hj, ha, z⟩
    · exact .inl ⟨i, x, q1, h2, h3.to (top i x t n1 q1 h2).symm⟩
/-- behind such a call -/
theorem RS.back1 {j : Nat} {a : Addr} {d m : D} {ds : List D} {vs : List V} (s : RS K F ρ σ H) (hj : ρ[j]? = some (.ow d)) (ha : σ[j]? = some (some (.ref a))) (s' : RS K F' (.ow m :: ds.map .fz) ((V.ref a :: vs).map some) H')
    (b : Fr F (.ow d :: ds.map .fz) ((V.ref a :: vs).map some) H F' (.ow m :: ds.map .fz) ((V.ref a :: vs).map some) H') : RS K F' (ρ.set j (.ow m)) σ H' ∧ Fr F ρ σ H F' (ρ.set j (.ow m)) σ H' := by
  obtain ⟨c, q1, n, w⟩ := s'.ow 0 m rfl
  simp at q1
  subst q1
  refine s.turn hj ha b.ext s'.sub (fun c o h n => b.keep c o h fun z => n (OS1 z)) (fun c h => (b.new c h).imp_right fun z => z.imp_right OS1) b.dom n (fun c hc => ?_) w
  exact (b.ot _ c ⟨0, m, rfl, by simp, hc⟩).imp_left fun z => (OT1 z).2
/-- a new container of such a call -/
theorem OR.back1 {j : Nat} {a : Addr} {d m : D} {ds : List D} {vs : List V} {v : V} {z : D} (s : RS K F ρ σ H) (hj : ρ[j]? = some (.ow d)) (ha : σ[j]? = some (some (.ref a)))
    (s' : RS K F' (.ow m :: ds.map .fz) ((V.ref a :: vs).map some) H') (b : Fr F (.ow d :: ds.map .fz) ((V.ref a :: vs).map some) H F' (.ow m :: ds.map .fz) ((V.ref a :: vs).map some) H')
    (h : OR K F' (.ow m :: ds.map .fz) ((V.ref a :: vs).map some) H H' v (.fr z)) : OR K F' (ρ.set j (.ow m)) σ H H' v (.fr z) := by
  obtain ⟨c, e, nn, w⟩ := h
  refine ⟨c, e, fun x hx => ⟨(nn x hx).1, (nn x hx).2.1, fun q => ?_⟩, w⟩
  obtain ⟨i, y, t, h1, h2, h3⟩ := q
  rcases getElem?_set_some h1 with ⟨e1, e2⟩ | ⟨n, h1⟩
  · subst e1
    rw [ha] at h2
    cases e2
    cases h2
    exact (nn x hx).2.2 ⟨0, m, a, rfl, by simp, h3⟩
  · obtain ⟨t', e1, _, w1⟩ := s.ow i y h1
    rw [h2] at e1
    cases e1
    obtain ⟨o, ho⟩ := some_of (w1.there .top)
    have e3 : H' t = H t := ho ▸ b.keep t o ho fun z => n (s.inj i j y d t a t h1 hj h2 ha .top (OS1 z))
    exact s.osH ⟨i, y, t, h1, h2, h3.to e3.symm⟩ (nn x hx).2.1
end
section
variable {X : Cx} {W : WX} {k : Nat} {f : Addr} {fd : FuncData} {ps : List Str} {x y : Str} {p pos vp : Pos} {e : Expr} {es : List Expr}
theorem PE.weak {X : Cx} {e : Expr} {t t' : TE} (h : PE X e t) (c : ∀ σ H Q, t' σ H Q → t σ H Q) : PE X e t' := ⟨fun pins s σ H Q I q => h.run pins s σ H Q I (c σ H Q q)⟩
/-- f(y, e, ..) -/
theorem je_call1 (j : Nat) {fn : Fn} {n : Nat} {g : Ev → Res (List D)} (F : FnOk X.prog X.w X.K X.mg X.base (L2.CX X.prog X.w) k f fd ps (spOf X.K (true :: noM n) fn)) (tk : Takes X W) (hr : Room k X.A) (hm : X.mg x = some (.ref f)) (hk : PySem.W.keepIn X.K (.ref f) = true) (hb : Binds X.K fd ps [])
    (ha : JA X W es g) (hn : ∀ ρ ds ρ', g ρ = .ok ds ρ' → ds.length = n)
    (hN : X.N[j]? = some y := by rfl) (hv : Vis X.env.scope y := by first | exact Or.inl rfl | exact Or.inr (Or.inl rfl) | exact Or.inr (Or.inr rfl)) (hd : (y == ("__debug__" : Str)) = false := by decide) (hcd : (y == ("__classdict__" : Str)) = false := by decide)
    (hg : Gl X x := by rfl) (hdb : (x == ("__debug__" : Str)) = false := by decide) (he : starEach (.Name y vp :: es) X.env = (false, eval (.Name y vp) X.env) :: starEach es X.env := by rfl) (hpl : (backTo pos (starEach es X.env)).any (·.1) = false := by rfl) :
    JE X W (.Call (.Name x p) (.Name y vp :: es) [] pos) (cCall1 fn j g) := by
  refine .by (pe_callS F hr hg hm hk hb (passAt tk) (pa_cons (pe_var (i := j) hN hv hd hcd) ha.pa he) hdb he hpl) fun σ H Q Fz ρ s p => ?_
  unfold cCall1 at p
  cases hj : ρ[j]? with
  | none => rw [hj] at p; exact p.elim
  | some c =>
    cases c with
    | un => rw [hj] at p; exact p.elim
    | fz d => rw [hj] at p; exact p.elim
    | ow d0 =>
      rw [hj] at p
      obtain ⟨a, ha', n0, w0⟩ := s.ow j d0 hj
      refine ⟨.ref a, ha', Fz, ρ, s, ?_⟩
      cases q : g ρ with
      | stk => rw [q] at p; exact p.elim
      | ex c d ρ' => rw [q] at p; exact p
      | ok ds ρ1 =>
        rw [q] at p
        intro vs F1 H1 s1 b1 r1
        have r1 : Rps X.K F1 vs ds := r1
        have p1 : Po X.K W (OR X.K) F1 ρ1 σ H1 Q (afterC fn j ds ρ1) := Po.from (fun _ _ _ _ _ h => OR.back b1 h) b1 p
        have hn' : ds.length = n := hn ρ ds ρ1 q
        subst hn'
        unfold afterC at p1
        cases hj1 : ρ1[j]? with
        | none => rw [hj1] at p1; exact p1.elim
        | some c =>
          cases c with
          | un => rw [hj1] at p1; exact p1.elim
          | fz d => rw [hj1] at p1; exact p1.elim
          | ow d =>
            rw [hj1] at p1
            obtain ⟨a', ha1, n1, w1⟩ := s1.ow j d hj1
            rw [ha'] at ha1
            cases ha1
            show spOf X.K (true :: noM ds.length) fn (.ref a :: vs) H1 Q (WE W σ)
            refine ⟨F1, d :: ds, by simp, by rw [cells1]; exact RS.args1 s1.sub n1 w1 r1, ?_⟩
            dsimp only at p1
            cases q2 : fn (d :: ds) with
            | stk => rw [q2] at p1; exact p1.elim
            | ret o ms =>
              rw [q2] at p1
              cases ms with
              | nil => exact p1.elim
              | cons m ms =>
                cases ms with
                | cons _ _ => exact p1.elim
                | nil =>
                  cases o with
                  | pl i => exact p1.elim
                  | vl z =>
                    refine ⟨trivial, fun v F' H' s' b' r' => ?_⟩
                    rw [cells1, cellsB1] at b'
                    rw [cellsB1] at s'
                    obtain ⟨s2, b2⟩ := s1.back1 hj1 ha' s' b'
                    exact p1 v F' H' s2 b2 r'
                  | fr z =>
                    refine ⟨trivial, fun v F' H' s' b' r' => ?_⟩
                    rw [cells1, cellsB1] at b'
                    rw [cellsB1] at s'
                    obtain ⟨s2, b2⟩ := s1.back1 hj1 ha' s' b'
                    rw [cellsB1] at r'
                    exact p1 v F' H' s2 b2 (OR.back1 s1 hj1 ha' s' b' r')
            | ex c z ms =>
              rw [q2] at p1
              cases ms with
              | nil => exact p1.elim
              | cons m ms =>
                cases ms with
                | cons _ _ => exact p1.elim
                | nil =>
                  intro dx v F' H' s' b' r' hx
                  rw [cells1, cellsB1] at b'
                  rw [cellsB1] at s'
                  obtain ⟨s2, b2⟩ := s1.back1 hj1 ha' s' b'
                  exact p1 dx v F' H' s2 b2 r' hx
end
/-! ### [e for t in it if c] -/
def wipeC (ρ : Ev) : List Nat → Ev
  | [] => ρ
  | v :: vs => (wipeC ρ vs).set v .un
def unwipe (ρ3 ρ : Ev) : List Nat → Ev
  | [] => ρ3
  | v :: vs => (unwipe ρ3 ρ vs).set v (ρ.getD v .un)
def okWipe (ρ : Ev) (vs : List Nat) : Bool := vs.all fun v => match ρ[v]? with
  | some (.ow _) => false
  | _ => true
/-- within a block nothing is let out -/
def Res.calm {α β : Type} (r : Res α) (k : α → Ev → Res β) : Res β := match r with
  | .ok a ρ => k a ρ
  | _ => .stk
def lcR (vs : List Nat) (g : D → Ev → Option Ev) (t : Ev → Res Bool) (e : Ev → Res D) : List D → Ev → Res (List D)
  | [], ρ => .ok [] ρ
  | d :: ds, ρ => match g d (wipeC ρ vs) with
    | none => .stk
    | some ρ1 => (t ρ1).calm fun k ρ2 => if k = true then (e ρ2).calm fun y ρ3 => (lcR vs g t e ds (unwipe ρ3 ρ vs)).calm fun ys ρ4 => .ok (y :: ys) ρ4 else lcR vs g t e ds (unwipe ρ2 ρ vs)
def cLc (it : Ev → Res (List D)) (vs : List Nat) (g : D → Ev → Option Ev) (t : Ev → Res Bool) (e : Ev → Res D) : CEx := fun ρ => (it ρ).bind fun ds ρ1 => if okWipe ρ1 vs = true then (lcR vs g t e ds ρ1).calm fun ys ρ2 => if ys.length ≤ sizeLine then .ok (.fr (.lst ys)) ρ2 else .stk else .stk
section
variable {K : PySem.W.Frag} {W : WX} {F F' H H' : Hp} {ρ : Ev} {σ : St}
theorem wipeC_length (ρ : Ev) : ∀ vs, (wipeC ρ vs).length = ρ.length
  | [] => rfl
  | v :: vs => by unfold wipeC; rw [List.length_set, wipeC_length ρ vs]
theorem wipeC_get {ρ : Ev} {i : Nat} {c : Cell} : ∀ {vs : List Nat}, c ≠ .un → (wipeC ρ vs)[i]? = some c → ρ[i]? = some c ∧ i ∉ vs
  | [], _, h => ⟨h, by simp⟩
  | v :: vs, hc, h => by
    unfold wipeC at h
    rcases getElem?_set_some h with ⟨_, e⟩ | ⟨hi, h⟩
    · exact absurd e hc
    · obtain ⟨h1, h2⟩ := wipeC_get hc h
      exact ⟨h1, by simp only [List.mem_cons, not_or]; exact ⟨hi, h2⟩⟩
theorem wipe_get' {σ : St} {i : Nat} : ∀ {vs : List Nat}, i ∉ vs → (wipe σ vs)[i]? = σ[i]?
  | [], _ => rfl
  | v :: vs, h => by
    unfold wipe
    rw [List.getElem?_set_ne (fun z => h (List.mem_cons.mpr (.inl z.symm))), wipe_get' fun z => h (List.mem_cons_of_mem _ z)]
theorem wipeC_get' {ρ : Ev} {i : Nat} : ∀ {vs : List Nat}, i ∉ vs → (wipeC ρ vs)[i]? = ρ[i]?
  | [], _ => rfl
  | v :: vs, h => by
    unfold wipeC
    rw [List.getElem?_set_ne (fun z => h (List.mem_cons.mpr (.inl z.symm))), wipeC_get' fun z => h (List.mem_cons_of_mem _ z)]
theorem RS.wipe (s : RS K F ρ σ H) (vs : List Nat) : RS K F (wipeC ρ vs) (wipe σ vs) H := by
  refine ⟨by rw [wipeC_length, wipe_length]; exact s.len, s.sub, fun i d e => ?_, fun i d e => ?_, fun i j d e s1 t1 a h1 h2 h3 h4 => ?_⟩
  · obtain ⟨e, hi⟩ := wipeC_get (by simp) e
    rw [wipe_get' hi]
    exact s.fz i d e
  · obtain ⟨e, hi⟩ := wipeC_get (by simp) e
    rw [wipe_get' hi]
    exact s.ow i d e
  · obtain ⟨h1, hi⟩ := wipeC_get (by simp) h1
    obtain ⟨h2, hj⟩ := wipeC_get (by simp) h2
    rw [wipe_get' hi] at h3
    rw [wipe_get' hj] at h4
    exact s.inj i j d e s1 t1 a h1 h2 h3 h4
theorem OT.wipe {vs : List Nat} {t a : Addr} (h : OT (wipeC ρ vs) (wipe σ vs) H t a) : OT ρ σ H t a := by
  obtain ⟨i, d, h1, h2, h3⟩ := h
  obtain ⟨h1, hi⟩ := wipeC_get (by simp) h1
  rw [wipe_get' hi] at h2
  exact ⟨i, d, h1, h2, h3⟩
theorem OS.wipe {vs : List Nat} {a : Addr} (h : OS (wipeC ρ vs) (wipe σ vs) H a) : OS ρ σ H a := by
  obtain ⟨i, d, t, h⟩ := h
  exact (OT.wipe ⟨i, d, h⟩).os
theorem unwipe_length (ρ3 ρ : Ev) : ∀ vs, (unwipe ρ3 ρ vs).length = ρ3.length
  | [] => rfl
  | v :: vs => by unfold unwipe; rw [List.length_set, unwipe_length ρ3 ρ vs]
theorem unwipe_get {ρ3 ρ : Ev} {i : Nat} {c : Cell} (hl : ρ3.length = ρ.length) : ∀ {vs : List Nat}, (unwipe ρ3 ρ vs)[i]? = some c → (i ∈ vs ∧ ρ[i]? = some c) ∨ (i ∉ vs ∧ ρ3[i]? = some c)
  | [], h => .inr ⟨by simp, h⟩
  | v :: vs, h => by
    unfold unwipe at h
    rcases getElem?_set_some h with ⟨e1, e2⟩ | ⟨hi, h⟩
    · subst e1
      have hi : i < ρ.length := by
        have := (List.getElem?_eq_some_iff.mp h).1
        rw [List.length_set, unwipe_length, hl] at this
        exact this
      refine .inl ⟨List.mem_cons_self, ?_⟩
      rw [e2, List.getD_eq_getElem?_getD, List.getElem?_eq_getElem hi]
      rfl
    · rcases unwipe_get hl h with ⟨a, b⟩ | ⟨a, b⟩
      · exact .inl ⟨List.mem_cons_of_mem _ a, b⟩
      · exact .inr ⟨by simp only [List.mem_cons, not_or]; exact ⟨hi, a⟩, b⟩
theorem unwipe_get' {ρ3 ρ : Ev} {i : Nat} : ∀ {vs : List Nat}, i ∉ vs → (unwipe ρ3 ρ vs)[i]? = ρ3[i]?
  | [], _ => rfl
  | v :: vs, h => by
    unfold unwipe
    rw [List.getElem?_set_ne (fun z => h (List.mem_cons.mpr (.inl z.symm))), unwipe_get' fun z => h (List.mem_cons_of_mem _ z)]
theorem unwipe_in {ρ3 ρ : Ev} {i : Nat} (hl : ρ3.length = ρ.length) : ∀ {vs : List Nat}, i ∈ vs → (unwipe ρ3 ρ vs)[i]? = ρ[i]?
  | v :: vs, h => by
    unfold unwipe
    by_cases z : i = v
    · subst z
      by_cases hi : i < ρ.length
      · rw [List.getElem?_set_self (by rw [unwipe_length, hl]; exact hi), List.getD_eq_getElem?_getD, List.getElem?_eq_getElem hi]
        rfl
      · rw [List.getElem?_eq_none (by rw [List.length_set, unwipe_length, hl]; omega), List.getElem?_eq_none (by omega)]
    · rw [List.getElem?_set_ne (Ne.symm z)]
      exact unwipe_in hl ((List.mem_cons.mp h).resolve_left z)
theorem okWipe_at {vs : List Nat} (h : okWipe ρ vs = true) {i : Nat} {d : D} (hi : i ∈ vs) : ρ[i]? ≠ some (.ow d) := fun e => by
  have := List.all_eq_true.mp h i hi
  rw [e] at this
  cases this
/-- behind a turn: the block's own names are as they were ahead of it -/
theorem RS.unwipe {vs : List Nat} {ρ3 : Ev} {σ2 : St} (s : RS K F ρ σ H) (b : Fr F (wipeC ρ vs) (L2.wipe σ vs) H F' ρ3 σ2 H') (s3 : RS K F' ρ3 σ2 H') (ok : okWipe ρ vs = true) (hσ : ∀ j, j ∉ vs → σ2[j]? = σ[j]?) (hl : σ2.length = σ.length) :
    RS K F' (PL.unwipe ρ3 ρ vs) σ H' ∧ Fr F ρ σ H F' (PL.unwipe ρ3 ρ vs) σ H' ∧ okWipe (PL.unwipe ρ3 ρ vs) vs = true := by
  have l3 : ρ3.length = ρ.length := by rw [s3.len, s.len, hl]
  have own : ∀ (i : Nat) (d : D), (PL.unwipe ρ3 ρ vs)[i]? = some (.ow d) → i ∉ vs ∧ ρ3[i]? = some (.ow d) := fun i d e => by
    rcases unwipe_get l3 e with ⟨a, b⟩ | h
    · exact absurd b (okWipe_at ok a)
    · exact h
  have oso : ∀ t c, OT (PL.unwipe ρ3 ρ vs) σ H' t c → OT ρ3 σ2 H' t c := fun t c ⟨i, d, h1, h2, h3⟩ => by
    obtain ⟨a, b⟩ := own i d h1
    exact ⟨i, d, b, by rw [hσ i a]; exact h2, h3⟩
  refine ⟨⟨by rw [unwipe_length, l3]; exact s.len, s3.sub, fun i d e => ?_, fun i d e => ?_, fun i j d e s1 t1 a h1 h2 h3 h4 => ?_⟩, ⟨b.ext, fun a o h n => b.keep a o h fun z => n z.wipe, b.dom, fun a h => (b.new a h).imp_right fun z => z.imp_right OS.wipe, fun t a h => (b.ot t a (oso t a h)).imp_left OT.wipe, fun i h => ?_⟩, ?_⟩
  · rcases unwipe_get l3 e with ⟨a, q⟩ | ⟨a, q⟩
    · obtain ⟨v, e1, r⟩ := s.fz i d q
      exact ⟨v, e1, r.mono b.ext⟩
    · obtain ⟨v, e1, r⟩ := s3.fz i d q
      exact ⟨v, by rw [← hσ i a]; exact e1, r⟩
  · obtain ⟨a, q⟩ := own i d e
    obtain ⟨c, e1, r⟩ := s3.ow i d q
    exact ⟨c, by rw [← hσ i a]; exact e1, r⟩
  · obtain ⟨a1, q1⟩ := own i d h1
    obtain ⟨a2, q2⟩ := own j e h2
    exact s3.inj i j d e s1 t1 a q1 q2 (by rw [hσ i a1]; exact h3) (by rw [hσ j a2]; exact h4)
  · by_cases hi : i ∈ vs
    · obtain ⟨d, h⟩ := h
      refine ⟨d, ?_⟩
      rw [unwipe_in l3 hi]
      exact h
    · have h2 : Lv (wipeC ρ vs) i := by
        obtain ⟨d, h⟩ := h
        refine ⟨d, ?_⟩
        rw [wipeC_get' hi]
        exact h
      obtain ⟨d, h⟩ := b.lv i h2
      refine ⟨d, ?_⟩
      rw [unwipe_get' hi]
      exact h
  · refine List.all_eq_true.mpr fun v hv => ?_
    rw [unwipe_in l3 hv]
    exact List.all_eq_true.mp ok v hv
/-- the list that is being made changes -/
theorem RS.chg (s : RS K F ρ σ H) {a : Addr} {o : HO} (n : F a = none) (nos : ¬ OS ρ σ H a) : RS K F ρ σ (upd H a o) :=
  s.heap (Sub.refl _) (fun b u e => by rw [upd_ne (ne_of_none e n)]; exact s.sub b u e) (fun c u hc h => by rw [upd_ne (fun z => nos (by rw [← z]; exact hc))]; exact h) fun c h => s.osF h
theorem OT.chg (s : RS K F ρ σ H) {a t c : Addr} {o : HO} (nos : ¬ OS ρ σ H a) : OT ρ σ (upd H a o) t c → OT ρ σ H t c := OT.heap s fun c u hc h => by rw [upd_ne (fun z => nos (by rw [← z]; exact hc))]; exact h
theorem OS.chg (s : RS K F ρ σ H) {a c : Addr} {o : HO} (nos : ¬ OS ρ σ H a) : OS ρ σ (upd H a o) c → OS ρ σ H c := OS.heap s fun c u hc h => by rw [upd_ne (fun z => nos (by rw [← z]; exact hc))]; exact h
theorem Fr.chg {F0 H0 : Hp} {ρ0 : Ev} {σ0 : St} (b : Fr F0 ρ0 σ0 H0 F ρ σ H) (s : RS K F ρ σ H) {a : Addr} {o : HO} (nos : ¬ OS ρ σ H a) (h0 : H0 a = none) : Fr F0 ρ0 σ0 H0 F ρ σ (upd H a o) where
  ext := b.ext
  keep := fun c u e n => by rw [upd_ne (ne_of_none e h0)]; exact b.keep c u e n
  dom := fun c e => by
    by_cases z : c = a
    · subst z; rw [upd_same]; simp
    · rw [upd_ne z]; exact b.dom c e
  new := b.new
  ot := fun t c h => b.ot t c (OT.chg s nos h)
  lv := b.lv
end
theorem wipe_wipe {σ σ2 : St} {vs : List Nat} (hl : σ2.length = σ.length) (h : ∀ j, j ∉ vs → σ2[j]? = σ[j]?) : wipe σ2 vs = wipe σ vs := by
  refine List.ext_getElem? fun i => ?_
  by_cases hi : i ∈ vs
  · have key : ∀ (τ : St) (us : List Nat), i ∈ us → i < τ.length → (wipe τ us)[i]? = some none := fun τ us => by
      induction us with
      | nil => intro h; cases h
      | cons u us ih =>
        intro h hl
        unfold wipe
        by_cases z : i = u
        · subst z; rw [List.getElem?_set_self (by rw [wipe_length]; exact hl)]
        · rw [List.getElem?_set_ne (Ne.symm z)]
          exact ih ((List.mem_cons.mp h).resolve_left z) hl
    by_cases hb : i < σ.length
    · rw [key σ2 vs hi (by omega), key σ vs hi hb]
    · rw [List.getElem?_eq_none (by rw [wipe_length]; omega), List.getElem?_eq_none (by rw [wipe_length]; omega)]
  · rw [wipe_get' hi, wipe_get' hi, h i hi]
abbrev W0 : WX := fun _ _ _ _ => False
structure JTs (X : Cx) (W : WX) (ifs : List Expr) (f : Ev → Res Bool) : Prop where pt : PTs X ifs (tT X.K W f)
def cYes : Ev → Res Bool := fun ρ => .ok true ρ
theorem Res.calm_calm {α β γ : Type} {r : Res α} {f : α → Ev → Res β} {g : β → Ev → Res γ} : (r.calm f).calm g = r.calm fun a ρ => (f a ρ).calm g := by
  cases r <;> rfl
section
variable {X : Cx} {W : WX} {elt tg iter c : Expr} {ifs : List Expr} {scope : Scope} {pos : Pos} {ts : List Nat} {g : D → Ev → Option Ev} {t : Ev → Res Bool} {e : Ev → Res D} {it : Ev → Res (List D)}
theorem jts_nil : JTs X W [] cYes := ⟨⟨fun pins s σ H Q I ⟨F, ρ, r, p⟩ => (pts_nil (X := X)).run pins s σ H Q I (p.here r rfl)⟩⟩
theorem jts_one {f : Ev → Res Bool} (h : JT X W c f) : JTs X W [c] f := ⟨⟨fun pins s σ H Q I q => (pts_one h.pt).run pins s σ H Q I q⟩⟩
theorem tLc_ok {vs : List Nat} (hts : ∀ i ∈ ts, i ∈ vs) {σ : St} {H F : Hp} {Q : VK} {ρ : Ev} (s : RS X.K F ρ σ H) (p : Po X.K W (OR X.K) F ρ σ H Q (cLc it vs g t e ρ)) :
    tLc (fun σ H R => ∃ F ρ, RS X.K F ρ σ H ∧ Po X.K W (RI X.K) F ρ σ H R (it ρ)) (gT X.K ts g) (tT X.K W0 t) (tV X.K W0 e) vs σ H Q := by
  refine ⟨F, ρ, s, p.bind (fun _ _ _ _ _ _ b => OR.dom b) fun ds ρ1 J F1 H1 s1 b1 r1 p1 Dl hD => ?_⟩
  have ok : ItOk X.K J F1 ds := r1
  by_cases okw : okWipe ρ1 vs = true
  case neg => rw [if_neg okw] at p1; exact p1.elim
  rw [if_pos okw] at p1
  refine ⟨fun i m H => ∃ F ρ acc dacc, RS X.K F ρ σ H ∧ Fr F1 ρ1 σ H1 F ρ σ H ∧ F Dl = none ∧ ¬ OS ρ σ H Dl ∧ H Dl = some (.lst acc) ∧ Rps X.K F acc dacc ∧ okWipe ρ vs = true ∧ m + i = ds.length ∧
      Po X.K W (OR X.K) F1 ρ1 σ H1 Q ((lcR vs g t e (ds.drop i) ρ).calm fun ys ρ2 => if (dacc ++ ys).length ≤ sizeLine then .ok (.fr (.lst (dacc ++ ys))) ρ2 else .stk),
    ⟨ds.length, F1, ρ1, [], [], s1.newH hD, Fr.newH s1 hD, s1.free hD, fun z => s1.notOS hD (s1.osNew hD z), upd_same, .nil, okw, by omega, p1⟩, fun i m H2 hW => ?_⟩
  obtain ⟨F2, ρ2, acc, dacc, s2, b2, n2, o2, h2, a2, w2, em, p2⟩ := hW
  by_cases hi : i < ds.length
  · have ed : ds.drop i = ds[i] :: ds.drop (i + 1) := (List.drop_eq_getElem_cons hi)
    rw [ed] at p2
    obtain ⟨go, yl⟩ := (ok i F2 H2 b2.ext s2.sub).1 ds[i] (List.getElem?_eq_getElem hi)
    refine .inr ⟨go, fun H => ∃ F ρ acc dacc, RS X.K F ρ σ H ∧ Fr F1 ρ1 σ H1 F ρ σ H ∧ F Dl = none ∧ ¬ OS ρ σ H Dl ∧ H Dl = some (.lst acc) ∧ Rps X.K F acc dacc ∧ okWipe ρ vs = true ∧ (m - 1) + (i + 1) = ds.length ∧
      Po X.K W (OR X.K) F1 ρ1 σ H1 Q ((lcR vs g t e (ds.drop (i + 1)) ρ).calm fun ys ρ2 => if (dacc ++ ys).length ≤ sizeLine then .ok (.fr (.lst (dacc ++ ys))) ρ2 else .stk), fun H' z => ⟨m - 1, by omega, z⟩, fun x H3 y => ?_⟩
    obtain ⟨F3, q1, q2, q3, q4, rx⟩ := yl x H3 y
    obtain ⟨s3, b3⟩ := ItOk.step s2 q1 q2 q3 q4
    have n3 : F3 Dl = none := Classical.byContradiction fun z => (q4 Dl z).elim (fun k => k n2) fun k => by rw [h2] at k; cases k
    have h3 : H3 Dl = some (.lst acc) := q2 _ _ h2
    have o3 : ¬ OS ρ2 σ H3 Dl := fun z => o2 (OS.heap s2 (fun c o _ h => q2 c o h) z)
    have p2' : Po X.K W (OR X.K) F1 ρ1 σ H1 Q (Res.calm (match g ds[i] (wipeC ρ2 vs) with
      | none => .stk
      | some ρ1 => (t ρ1).calm fun k ρ3 => if k = true then (e ρ3).calm fun y ρ4 => (lcR vs g t e (ds.drop (i + 1)) (unwipe ρ4 ρ2 vs)).calm fun ys ρ5 => .ok (y :: ys) ρ5 else lcR vs g t e (ds.drop (i + 1)) (unwipe ρ3 ρ2 vs)) fun ys ρ2 => if (dacc ++ ys).length ≤ sizeLine then .ok (.fr (.lst (dacc ++ ys))) ρ2 else .stk) := p2
    cases qg : g ds[i] (wipeC ρ2 vs) with
    | none => rw [qg] at p2'; exact p2'.elim
    | some ρ4 =>
      rw [qg] at p2'
      dsimp only at p2'
      refine ⟨F3, wipeC ρ2 vs, ds[i], ρ4, s3.wipe vs, rx, qg, fun σ4 s4 b4 k4 l4 => ?_⟩
      have hσ4 : ∀ j, j ∉ vs → σ4[j]? = σ[j]? := fun j hj => (k4 j fun z => hj (hts j z)).trans (wipe_get' hj)
      have hl4 : σ4.length = σ.length := l4.trans (wipe_length σ vs)
      refine ⟨wipe_wipe hl4 hσ4, F3, ρ4, s4, ?_⟩
      cases qt : t ρ4 with
      | stk => rw [qt] at p2'; exact p2'.elim
      | ex _ _ _ => rw [qt] at p2'; exact p2'.elim
      | ok k ρ5 =>
        rw [qt] at p2'
        intro v F5 H5 s5 b5 r5
        have e5 : v = k := r5
        subst e5
        have p3 : Po X.K W (OR X.K) F1 ρ1 σ H1 Q (Res.calm (if v = true then (e ρ5).calm fun y ρ4 => (lcR vs g t e (ds.drop (i + 1)) (unwipe ρ4 ρ2 vs)).calm fun ys ρ5 => .ok (y :: ys) ρ5 else lcR vs g t e (ds.drop (i + 1)) (unwipe ρ5 ρ2 vs)) fun ys ρ2 => if (dacc ++ ys).length ≤ sizeLine then .ok (.fr (.lst (dacc ++ ys))) ρ2 else .stk) := p2'
        -- what stays true of the new list
        have stay : ∀ {F' H' : Hp} {ρ' : Ev}, Fr F3 (wipeC ρ2 vs) (wipe σ vs) H3 F' ρ' σ4 H' → RS X.K F' ρ' σ4 H' → F' Dl = none ∧ H' Dl = some (.lst acc) ∧ RS X.K F' (unwipe ρ' ρ2 vs) σ H' ∧ Fr F1 ρ1 σ H1 F' (unwipe ρ' ρ2 vs) σ H' ∧ okWipe (unwipe ρ' ρ2 vs) vs = true ∧ ¬ OS (unwipe ρ' ρ2 vs) σ H' Dl := fun {F' H' ρ'} b s => by
          obtain ⟨u1, u2, u3⟩ := RS.unwipe s3 b s w2 hσ4 hl4
          refine ⟨Classical.byContradiction fun z => ?_, b.keep _ _ h3 fun z => o3 z.wipe, u1, b2.trans (b3.trans u2), u3, fun z => ?_⟩
          · rcases b.new Dl z with k | k | k
            · exact k n3
            · rw [h3] at k; cases k
            · exact o3 k.wipe
          · rcases u2.os Dl z with k | k
            · exact o3 k
            · rw [h3] at k; cases k
        cases v with
        | false =>
          rw [if_neg Bool.false_ne_true] at p3
          show if false = true then _ else _
          rw [if_neg Bool.false_ne_true]
          obtain ⟨c1, c2, c3, c4, c5, c6⟩ := stay (b4.trans b5) s5
          exact ⟨F5, _, acc, dacc, c3, c4, c1, c6, c2, a2.mono (q1.trans (b4.trans b5).ext), c5, by omega, p3⟩
        | true =>
          rw [if_pos rfl] at p3
          show if true = true then _ else _
          rw [if_pos rfl]
          refine ⟨F5, ρ5, s5, ?_⟩
          cases qe : e ρ5 with
          | stk => rw [qe] at p3; exact p3.elim
          | ex _ _ _ => rw [qe] at p3; exact p3.elim
          | ok y ρ6 =>
            rw [qe] at p3
            intro yv F6 H6 s6 b6 r6
            have r6 : Rp X.K F6 yv y := r6
            obtain ⟨c1, c2, c3, c4, c5, c6⟩ := stay ((b4.trans b5).trans b6) s6
            have aa : Rps X.K F6 acc dacc := a2.mono (q1.trans ((b4.trans b5).trans b6).ext)
            have p4 : Po X.K W (OR X.K) F1 ρ1 σ H1 Q (((lcR vs g t e (ds.drop (i + 1)) (unwipe ρ6 ρ2 vs)).calm fun ys ρ5 => Res.ok (y :: ys) ρ5).calm fun ys ρ2 => if (dacc ++ ys).length ≤ sizeLine then .ok (.fr (.lst (dacc ++ ys))) ρ2 else .stk) := p3
            rw [Res.calm_calm] at p4
            refine ⟨acc, c2, ?_, F6, _, acc ++ [yv], dacc ++ [y], c3.chg c1 c6, c4.chg c3 c6 hD, c1, fun z => c6 (OS.heap c3 (fun c u hc h => by rw [upd_ne (fun z => c6 (by rw [← z]; exact hc))]; exact h) z), upd_same, aa.append (.cons r6 .nil), c5, by omega, ?_⟩
            · cases qr : lcR vs g t e (ds.drop (i + 1)) (unwipe ρ6 ρ2 vs) with
              | stk => rw [qr] at p4; exact p4.elim
              | ex _ _ _ => rw [qr] at p4; exact p4.elim
              | ok ys ρ7 =>
                rw [qr] at p4
                have p5 : Po X.K W (OR X.K) F1 ρ1 σ H1 Q (if (dacc ++ (y :: ys)).length ≤ sizeLine then .ok (.fr (.lst (dacc ++ (y :: ys)))) ρ7 else .stk) := p4
                by_cases hz : (dacc ++ (y :: ys)).length ≤ sizeLine
                · rw [aa.length]
                  simp only [List.length_append, List.length_cons] at hz
                  omega
                · rw [if_neg hz] at p5; exact p5.elim
            · have ef : (fun (ys : List D) (ρ2 : Ev) => if ((dacc ++ [y]) ++ ys).length ≤ sizeLine then Res.ok (Opd.fr (.lst ((dacc ++ [y]) ++ ys))) ρ2 else .stk) = fun ys ρ2 => (Res.ok (y :: ys) ρ2).calm fun ys ρ2 => if (dacc ++ ys).length ≤ sizeLine then Res.ok (Opd.fr (.lst (dacc ++ ys))) ρ2 else .stk := by
                funext ys ρ2
                rw [List.append_assoc]
                rfl
              rw [ef]
              exact p4
  · have ed : ds.drop i = [] := List.drop_eq_nil_of_le (by omega)
    rw [ed] at p2
    refine .inl ⟨(ok i F2 H2 b2.ext s2.sub).2 (by omega), ?_⟩
    have p3 : Po X.K W (OR X.K) F1 ρ1 σ H1 Q (if (dacc ++ []).length ≤ sizeLine then .ok (.fr (.lst (dacc ++ []))) ρ2 else .stk) := p2
    rw [List.append_nil] at p3
    by_cases hz : dacc.length ≤ sizeLine
    · rw [if_pos hz] at p3
      exact p3 (.ref Dl) F2 H2 s2 b2 ⟨Dl, rfl, fun c hc => by rw [In.one rfl hc]; exact ⟨n2, hD, o2⟩, acc, h2, a2⟩
    · rw [if_neg hz] at p3; exact p3.elim
theorem cLc_new {it : Ev → Res (List D)} {vs : List Nat} {g : D → Ev → Option Ev} {t : Ev → Res Bool} {e : Ev → Res D} {ρ ρ' : Ev} {o : Opd} (h : cLc it vs g t e ρ = .ok o ρ') : isNew o := by
  unfold cLc at h
  cases q : it ρ with
  | stk => rw [q] at h; cases h
  | ex _ _ _ => rw [q] at h; cases h
  | ok ds ρ1 =>
    rw [q] at h
    have h1 : (if okWipe ρ1 vs = true then (lcR vs g t e ds ρ1).calm fun ys ρ2 => if ys.length ≤ sizeLine then Res.ok (.fr (.lst ys)) ρ2 else .stk else .stk) = Res.ok o ρ' := h
    split at h1
    · cases q2 : lcR vs g t e ds ρ1 with
      | stk => rw [q2] at h1; cases h1
      | ex _ _ _ => rw [q2] at h1; cases h1
      | ok ys ρ2 =>
        rw [q2] at h1
        have h2 : (if ys.length ≤ sizeLine then Res.ok (.fr (.lst ys)) ρ2 else .stk) = Res.ok o ρ' := h1
        split at h2
        · cases h2; trivial
        · cases h2
    · cases h1
theorem je_lc (own : List (Str × Nat)) (hc : X.calm = true) (hN : X.N.Nodup) (hi : JI X W tg iter it) (ok : BlkOk X.N X.env.scope scope own)
    (hg : ∀ (s : Shared) (H : Hp) (C : Addr) (cl : List (Str × Addr)) (fp : List Addr), JG (X.blk s H scope (compEnvC scope cl C X.env) fp) tg ts g) (hts : ∀ i ∈ ts, i ∈ own.map (·.2))
    (ht : ∀ (s : Shared) (H : Hp) (C : Addr) (cl : List (Str × Addr)) (fp : List Addr), JTs (X.blk s H scope (compEnvC scope cl C X.env) fp) W0 ifs t)
    (he : ∀ (s : Shared) (H : Hp) (C : Addr) (cl : List (Str × Addr)) (fp : List Addr), JV (X.blk s H scope (compEnvC scope cl C X.env) fp) W0 elt e) (hs : ∀ x, foldedSetIterable iter X.env x = pure x := by intro _; rfl) :
    JE X W (.ListComp elt [⟨tg, iter, ifs, 0⟩] scope pos) (cLc it (own.map (·.2)) g t e) :=
  .by (pe_lc hc hN hi.pi ok (fun s H C cl fp => (hg s H C cl fp).pg) (fun s H C cl fp => (ht s H C cl fp).pt) (fun s H C cl fp => (he s H C cl fp).pe) hs) fun σ H Q F ρ s p => tLc_ok hts s p
/-- name = [..] on one line -/
theorem js_setLc (i : Nat) {P : List Nat} {y : Str} {py spos : Pos} (own : List (Str × Nat)) (hc : X.calm = true) (hN : X.N.Nodup) (hi : JI X W tg iter it) (ok : BlkOk X.N X.env.scope scope own)
    (hg : ∀ (s : Shared) (H : Hp) (C : Addr) (cl : List (Str × Addr)) (fp : List Addr), JG (X.blk s H scope (compEnvC scope cl C X.env) fp) tg ts g) (hts : ∀ i ∈ ts, i ∈ own.map (·.2))
    (ht : ∀ (s : Shared) (H : Hp) (C : Addr) (cl : List (Str × Addr)) (fp : List Addr), JTs (X.blk s H scope (compEnvC scope cl C X.env) fp) W0 ifs t)
    (he : ∀ (s : Shared) (H : Hp) (C : Addr) (cl : List (Str × Addr)) (fp : List Addr), JV (X.blk s H scope (compEnvC scope cl C X.env) fp) W0 elt e)
    (hsw : swapsWith (.ListComp elt [⟨tg, iter, ifs, 0⟩] scope pos) (some (.Name y py)) spos.line X.env = pure true) (hy : X.N[i]? = some y := by rfl) (hyl : X.env.scope.names.lookup y = some .local := by rfl) (hP : i ∉ P := by decide)
    (hs : ∀ x, foldedSetIterable iter X.env x = pure x := by intro _; rfl) :
    JS X W P (.Assign [.Name y py] (.ListComp elt [⟨tg, iter, ifs, 0⟩] scope pos) spos) (cSet i (cLc it (own.map (·.2)) g t e)) :=
  .by (ps_setLc hc hN hy hyl hsw hi.pi ok (fun s H C cl fp => (hg s H C cl fp).pg) (fun s H C cl fp => (ht s H C cl fp).pt) (fun s H C cl fp => (he s H C cl fp).pe) hs) fun D σ H F ρ s p => by
    refine tLc_ok (W := W) (g := g) (t := t) (e := e) (it := it) hts s ?_
    unfold cSet at p
    cases q : cLc it (own.map (·.2)) g t e ρ with
    | stk => rw [q] at p; exact p
    | ex c d ρ' => rw [q] at p; exact fun dx v F' H' s r' => p dx v σ F' H' s r' (Pin.refl _ _)
    | ok o ρ' =>
      rw [q] at p
      intro v F' H' s' b' r'
      have p' : Ps X.K W P F ρ σ H D (optS (setC i o ρ')) := p
      cases e1 : setC i o ρ' with
      | none => rw [e1] at p'; exact p'.elim
      | some ρ2 =>
        rw [e1] at p'
        obtain ⟨s2, b2⟩ := set_new (cLc_new q) s' b' r' e1
        exact p' _ F' H' s2 b2 fun j hj => List.getElem?_set_ne fun z => hP (by rw [z]; exact hj)
end
end PL
/-! PL6: operators on plain data -/
namespace PL
open PySem PySem.Spec L2
open PyProof.Rows (envOfC)
/-! ### arithmetic -/
def orO (g g' : D → D → Option Opd) : D → D → Option Opd := fun x y => match g x y with
  | some o => some o
  | none => g' x y
def dII (C : Int → Int → Bool) (k : Int → Int → D) : D → D → Option Opd := fun x y => match x, y with
  | .int a, .int b => if C a b = true then some (.vl (k a b)) else none
  | _, _ => none
def dSS (C : List Nat → List Nat → Bool) (k : List Nat → List Nat → D) : D → D → Option Opd := fun x y => match x, y with
  | .str a, .str b => if C a b = true then some (.vl (k a b)) else none
  | _, _ => none
def yes2 {α β : Type} : α → β → Bool := fun _ _ => true
section
variable {K : PySem.W.Frag} {W : WX} {X : Cx}
theorem sm_or {r r' : R2} {g g' : D → D → Option Opd} (h : Sem2 K r g) (h' : Sem2 K r' g') : Sem2 K (fun x y H Q => r x y H Q ∨ r' x y H Q) (orO g g') := Sem2.or h h'
theorem sm_II {r : R2} {C : Int → Int → Bool} {k : Int → Int → D} (v : Int → Int → V) (hv : ∀ F a b, Rp K F (v a b) (k a b)) (hr : ∀ a b H Q, C a b = true → Q (v a b) H → r (.int a) (.int b) H Q) : Sem2 K r (dII C k) :=
  fun W F ρ σ H x y dx dy o Q s ax ay e p => by
    unfold dII at e
    split at e
    · split at e
      · rename_i a b hc
        cases e
        rw [ax.int, ay.int]
        exact hr a b H Q hc (p.here s (hv F a b))
      · cases e
    · cases e
theorem sm_SS {r : R2} {C : List Nat → List Nat → Bool} {k : List Nat → List Nat → D} (v : List Nat → List Nat → V) (hv : ∀ F a b, Rp K F (v a b) (k a b)) (hr : ∀ a b H Q, C a b = true → Q (v a b) H → r (.str ⟨a.toArray⟩) (.str ⟨b.toArray⟩) H Q) : Sem2 K r (dSS C k) :=
  fun W F ρ σ H x y dx dy o Q s ax ay e p => by
    unfold dSS at e
    split at e
    · split at e
      · rename_i a b hc
        cases e
        rw [ax.str, ay.str]
        exact hr a b H Q hc (p.here s (hv F a b))
      · cases e
    · cases e
theorem str_len (a : List Nat) : (Str.mk a.toArray).length = a.length := by
  show a.toArray.size = _
  simp
theorem str_app (a b : List Nat) : (Str.mk a.toArray) ++ (Str.mk b.toArray) = Str.mk (a ++ b).toArray := by
  show Str.mk (a.toArray ++ b.toArray) = _
  simp
/-- lists -/
def dLL : D → D → Option Opd := fun x y => match x, y with
  | .lst a, .lst b => if a.length + b.length ≤ sizeLine then some (.fr (.lst (a ++ b))) else none
  | _, _ => none
def dTT : D → D → Option Opd := fun x y => match x, y with
  | .tup a, .tup b => if a.length + b.length ≤ sizeLine then some (.vl (.tup (a ++ b))) else none
  | _, _ => none
theorem sm_cat : Sem2 K rCat dLL := fun W F ρ σ H x y dx dy o Q s ax ay e p => by
  unfold dLL at e
  split at e
  · split at e
    · rename_i a b hc
      cases e
      obtain ⟨p1, xs, rfl, h1, r1⟩ := ax.lst s.sub
      obtain ⟨p2, ys, rfl, h2, r2⟩ := ay.lst s.sub
      exact ⟨p1, p2, xs, ys, rfl, rfl, h1, h2, by rw [r1.length, r2.length]; exact hc, fun q hq => PoX.newL s p hq (r1.append r2)⟩
    · cases e
  · cases e
theorem sm_catT : Sem2 K (rCatA K) dTT := fun W F ρ σ H x y dx dy o Q s ax ay e p => by
  unfold dTT at e
  split at e
  · split at e
    · rename_i a b hc
      cases e
      obtain ⟨p1, xs, rfl, f1, h1, r1⟩ := ax.tup s.sub
      obtain ⟨p2, ys, rfl, f2, h2, r2⟩ := ay.tup s.sub
      refine ⟨p1, p2, xs, ys, rfl, rfl, h1, h2, by rw [r1.length, r2.length]; exact hc, fun e => ?_, fun _ e => ?_, fun _ _ q hq => PoX.newT s p hq (r1.append r2)⟩
      · subst e
        cases r1
        exact p.here s (.tup f2 r2)
      · subst e
        cases r2
        rw [List.append_nil] at p
        exact p.here s (.tup f1 r1)
    · cases e
  · cases e
def dAdd : D → D → Option Opd := orO (dII yes2 fun a b => .int (a + b)) (orO (dSS (fun a b => decide (a.length + b.length ≤ sizeLine)) fun a b => .str (a ++ b)) (orO dLL dTT))
theorem op_dAdd : OpR X (binaryOp .Add) (fun x y H Q => rI0 (fun i j => .int (i + j)) x y H Q ∨ (fun x y H Q => (∃ i j, x = .str i ∧ y = .str j ∧ i.length + j.length ≤ sizeLine ∧ Q (.str (i ++ j)) H) ∨ (fun x y H Q => rCat x y H Q ∨ rCatA X.K x y H Q) x y H Q) x y H Q) := L2.op_add.or (op_add_str.or (op_cat.or op_catA))
theorem sm_dAdd : Sem2 K (fun x y H Q => rI0 (fun i j => .int (i + j)) x y H Q ∨ (fun x y H Q => (∃ i j, x = .str i ∧ y = .str j ∧ i.length + j.length ≤ sizeLine ∧ Q (.str (i ++ j)) H) ∨ (fun x y H Q => rCat x y H Q ∨ rCatA K x y H Q) x y H Q) x y H Q) dAdd :=
  sm_or (sm_II (fun a b => .int (a + b)) (fun _ _ _ => .int _) fun a b H Q _ h => ⟨a, b, rfl, rfl, h⟩) (sm_or (sm_SS (fun a b => .str ⟨(a ++ b).toArray⟩) (fun _ _ _ => .str _) fun a b H Q hc h => ⟨_, _, rfl, rfl, by rw [str_len, str_len]; exact of_decide_eq_true hc, by rw [str_app]; exact h⟩) (sm_or sm_cat sm_catT))
def dSub : D → D → Option Opd := dII yes2 fun a b => .int (a - b)
theorem sm_dSub : Sem2 K (rI0 fun i j => .int (i - j)) dSub := sm_II (fun a b => .int (a - b)) (fun _ _ _ => .int _) fun a b H Q _ h => ⟨a, b, rfl, rfl, h⟩
/-- one side below 2 ^ 64 -/
def mulOk (a b : Int) : Bool := (decide (-(2 ^ 64) < a) && decide (a < 2 ^ 64)) || (decide (-(2 ^ 64) < b) && decide (b < 2 ^ 64))
def repL {α : Type} (xs : List α) (k : Int) : List α := (List.replicate k.toNat xs).flatten
def in63 (k : Int) : Bool := decide (-(2 ^ 63) ≤ k) && decide (k < 2 ^ 63)
def dRepL : D → D → Option Opd := fun x y => match x, y with
  | .lst a, .int k => if in63 k && decide (a.length * k.toNat ≤ sizeLine) then some (.fr (.lst (repL a k))) else none
  | _, _ => none
def dRepS : D → D → Option Opd := fun x y => match x, y with
  | .str a, .int k => if in63 k && decide (a.length * k.toNat ≤ sizeLine) then some (.vl (.str (repL a k))) else none
  | _, _ => none
def dMul : D → D → Option Opd := orO (dII mulOk fun a b => .int (a * b)) (orO dRepL dRepS)
theorem mulOk_ok {a b : Int} (h : mulOk a b = true) : CMul a b := by
  rcases Bool.or_eq_true_iff.mp h with h | h
  · obtain ⟨h1, h2⟩ := Bool.and_eq_true_iff.mp h
    exact .inl ⟨of_decide_eq_true h1, of_decide_eq_true h2⟩
  · obtain ⟨h1, h2⟩ := Bool.and_eq_true_iff.mp h
    exact .inr ⟨of_decide_eq_true h1, of_decide_eq_true h2⟩
theorem Rps.rep {F : Hp} {xs : List V} {ds : List D} (r : Rps K F xs ds) : ∀ n : Nat, Rps K F (List.replicate n xs).flatten (List.replicate n ds).flatten
  | 0 => .nil
  | n + 1 => by rw [List.replicate_succ, List.replicate_succ, List.flatten_cons, List.flatten_cons]; exact r.append (Rps.rep r n)
theorem sm_repL : Sem2 K rRep dRepL := fun W F ρ σ H x y dx dy o Q s ax ay e p => by
  unfold dRepL at e
  split at e
  · split at e
    · rename_i a k hc
      cases e
      obtain ⟨h0, hz⟩ := Bool.and_eq_true_iff.mp hc
      obtain ⟨h1, h2⟩ := Bool.and_eq_true_iff.mp h0
      obtain ⟨p1, xs, rfl, hh, r1⟩ := ax.lst s.sub
      rw [ay.int]
      exact ⟨p1, k, xs, rfl, rfl, hh, of_decide_eq_true h1, of_decide_eq_true h2, by rw [r1.length]; exact of_decide_eq_true hz, fun q hq => PoX.newL s p hq (r1.rep _)⟩
    · cases e
  · cases e
/-- text * int -/
def rRepS : R2 := fun x y H Q => ∃ (a : List Nat) (k : Int), x = .str ⟨a.toArray⟩ ∧ y = .int k ∧ in63 k = true ∧ a.length * k.toNat ≤ sizeLine ∧ Q (.str ⟨(repL a k).toArray⟩) H
theorem sm_repS : Sem2 K rRepS dRepS := fun W F ρ σ H x y dx dy o Q s ax ay e p => by
  unfold dRepS at e
  split at e
  · split at e
    · rename_i a k hc
      cases e
      obtain ⟨h0, hz⟩ := Bool.and_eq_true_iff.mp hc
      exact ⟨a, k, ax.str, ay.int, h0, of_decide_eq_true hz, p.here s (.str _)⟩
    · cases e
  · cases e
/-- // and % by a positive number -/
def dDiv : D → D → Option Opd := dII (fun _ b => decide (0 < b) && decide (b < 1073741824)) fun a b => .int (a / b)
theorem sm_dDiv : Sem2 K (rI CDiv fun i j => .int (i / j)) dDiv := sm_II (fun a b => .int (a / b)) (fun _ _ _ => .int _) fun a b H Q hc h => by
  obtain ⟨h1, h2⟩ := Bool.and_eq_true_iff.mp hc
  exact ⟨a, b, rfl, rfl, ⟨of_decide_eq_true h1, of_decide_eq_true h2⟩, h⟩
def dMod : D → D → Option Opd := dII (fun _ b => decide (0 < b)) fun a b => .int (a % b)
theorem sm_dMod : Sem2 K (rI (fun _ j => 0 < j) fun i j => .int (i % j)) dMod := sm_II (fun a b => .int (a % b)) (fun _ _ _ => .int _) fun a b H Q hc h => ⟨a, b, rfl, rfl, of_decide_eq_true hc, h⟩
def powOk (a b : Int) : Bool := decide (0 ≤ b) && (decide (b ≤ 1000000) && decide (a.natAbs < 2 ^ 64))
def dPow : D → D → Option Opd := dII powOk fun a b => .int (a ^ b.toNat)
theorem sm_dPow : Sem2 K (rI CPow fun i j => .int (i ^ j.toNat)) dPow := sm_II (fun a b => .int (a ^ b.toNat)) (fun _ _ _ => .int _) fun a b H Q hc h => by
  obtain ⟨h1, h2⟩ := Bool.and_eq_true_iff.mp hc
  obtain ⟨h2, h3⟩ := Bool.and_eq_true_iff.mp h2
  exact ⟨a, b, rfl, rfl, ⟨of_decide_eq_true h1, of_decide_eq_true h2, of_decide_eq_true h3⟩, h⟩
def dNeg : D → Option Opd := fun x => match x with
  | .int a => some (.vl (.int (-a)))
  | _ => none
theorem sm_dNeg : Sem1 K (rU fun i => .int (-i)) dNeg := fun W F ρ σ H x dx o Q s ax e p => by
  unfold dNeg at e
  split at e
  · cases e
    exact ⟨_, ax.int, p.here s (.int _)⟩
  · cases e
/-! ### order of ints and texts -/
def dLt : D → D → Option Opd := orO (dII yes2 fun a b => .bl (decide (a < b))) (dSS yes2 fun a b => .bl (decide (a < b)))
def dLe : D → D → Option Opd := dII yes2 fun a b => .bl (decide (a ≤ b))
def dGt : D → D → Option Opd := dII yes2 fun a b => .bl (decide (b < a))
def dGe : D → D → Option Opd := dII yes2 fun a b => .bl (decide (b ≤ a))
theorem sm_dLe : Sem2 K (rI0 fun i j => .bl (decide (i ≤ j))) dLe := sm_II (fun a b => .bl (decide (a ≤ b))) (fun _ _ _ => .bl _) fun a b H Q _ h => ⟨a, b, rfl, rfl, h⟩
theorem sm_dGt : Sem2 K (rI0 fun i j => .bl (decide (j < i))) dGt := sm_II (fun a b => .bl (decide (b < a))) (fun _ _ _ => .bl _) fun a b H Q _ h => ⟨a, b, rfl, rfl, h⟩
theorem sm_dGe : Sem2 K (rI0 fun i j => .bl (decide (j ≤ i))) dGe := sm_II (fun a b => .bl (decide (b ≤ a))) (fun _ _ _ => .bl _) fun a b H Q _ h => ⟨a, b, rfl, rfl, h⟩
theorem op_dLt : OpR X (compareOp .Lt) (fun x y H Q => rI0 (fun i j => .bl (decide (i < j))) x y H Q ∨ (fun x y H Q => ∃ i j, x = .str i ∧ y = .str j ∧ Q (.bl (decide (i.cps.toList < j.cps.toList))) H) x y H Q) := L2.op_lt.or op_lt_str
theorem sm_dLt : Sem2 K (fun x y H Q => rI0 (fun i j => .bl (decide (i < j))) x y H Q ∨ (fun x y H Q => ∃ i j, x = .str i ∧ y = .str j ∧ Q (.bl (decide (i.cps.toList < j.cps.toList))) H) x y H Q) dLt :=
  sm_or (sm_II (fun a b => .bl (decide (a < b))) (fun _ _ _ => .bl _) fun a b H Q _ h => ⟨a, b, rfl, rfl, h⟩) (sm_SS (fun a b => .bl (decide (a < b))) (fun _ _ _ => .bl _) fun a b H Q _ h => ⟨_, _, rfl, rfl, h⟩)
/-! ### == -/
mutual
/-- as the library's data -/
def toP : D → Option PyData
  | .non => some .none
  | .bl b => some (.bool b)
  | .int i => some (.int i)
  | .str s => some (.str ⟨s.toArray⟩)
  | .tup xs => (toPs xs).map .tuple
  | .lst xs => (toPs xs).map .list
  | .scr _ => none
  | .dct _ _ => none
  | .set _ => none
  | .err _ _ => none
  | .dtt _ _ => none
  | .rws _ => none
  | .dls _ _ => none
def toPs : List D → Option (List PyData)
  | [] => some []
  | d :: ds => match toP d with
    | some p => (toPs ds).map (p :: ·)
    | none => none
end
mutual
theorem toP_ok {F H : Hp} (s : Sub F H) : ∀ {v : V} {d : D} {p : PyData}, Rp K F v d → toP d = some p → Dp K H v p
  | _, _, _, .non, e => by cases e; exact .non
  | _, _, _, .bl b, e => by cases e; exact .bl b
  | _, _, _, .int i, e => by cases e; exact .int i
  | _, _, _, .str x, e => by cases e; exact .str _
  | _, .tup ds, _, .tup h r, e => by
    have e' : (toPs ds).map PyData.tuple = some _ := e
    cases q : toPs ds with
    | none => rw [q] at e'; cases e'
    | some ps => rw [q] at e'; cases e'; exact .tup (s.t (.inl (.inl h))) (toPs_ok s r q)
  | _, .lst ds, _, .lst h r, e => by
    have e' : (toPs ds).map PyData.list = some _ := e
    cases q : toPs ds with
    | none => rw [q] at e'; cases e'
    | some ps => rw [q] at e'; cases e'; exact .lst (.of (s _ _ h)) (toPs_ok s r q)
  | _, .scr ds, _, .scr h r, e => by cases e
  | _, _, _, .dct h r, e => by cases e
  | _, _, _, .dtt h r, e => by cases e
theorem toPs_ok {F H : Hp} (s : Sub F H) : ∀ {vs : List V} {ds : List D} {ps : List PyData}, Rps K F vs ds → toPs ds = some ps → DpAll K H vs ps
  | _, _, _, .nil, e => by cases e; exact .nil
  | _, d :: ds, _, .cons h r, e => by
    unfold toPs at e
    cases q : toP d with
    | none => rw [q] at e; cases e
    | some p =>
      rw [q] at e
      have e' : (toPs ds).map (p :: ·) = some _ := e
      cases q2 : toPs ds with
      | none => rw [q2] at e'; cases e'
      | some ps => rw [q2] at e'; cases e'; exact .cons (toP_ok s h q) (toPs_ok s r q2)
end
/-- what == asks of both -/
def eqP (x y : D) : Option Bool := match toP x, toP y with
  | some p, some q => if SeqAt.shaped p && SeqAt.shaped q then some (PyData.eqv p q) else none
  | _, _ => none
def dEq : D → D → Option Opd := orO (dII yes2 fun a b => .bl (decide (a = b))) (orO (dSS yes2 fun a b => .bl (decide (a = b))) fun x y => (eqP x y).map fun k => .vl (.bl k))
def dNe : D → D → Option Opd := orO (dII yes2 fun a b => .bl (!decide (a = b))) (orO (dSS yes2 fun a b => .bl (!decide (a = b))) fun x y => (eqP x y).map fun k => .vl (.bl (!k)))
theorem V_int_iff (a b : Int) : decide (V.int a = V.int b) = decide (a = b) := by
  by_cases h : a = b
  · subst h; simp
  · rw [decide_eq_false h, decide_eq_false fun z => h (V.int.inj z)]
theorem V_str_iff (a b : List Nat) : decide (V.str ⟨a.toArray⟩ = V.str ⟨b.toArray⟩) = decide (a = b) := by
  by_cases h : a = b
  · subst h; simp
  · rw [decide_eq_false h, decide_eq_false fun z => h (by
      have := V.str.inj z
      have := congrArg Str.cps this
      simpa using this)]
theorem AR.dp {F H : Hp} {v : V} {d : D} {p : PyData} (s : Sub F H) (h : AR K F H v d) (e : toP d = some p) : Dp K H v p := toP_ok (Sub.refl H) (h.rpK s (by cases d <;> first | rfl | cases e)) e
theorem sm_eqD {r : R2} {k : Bool → Bool} (hr : ∀ x y H Q p q, Dp K H x p → Dp K H y q → SeqAt.shaped p = true → SeqAt.shaped q = true → Q (.bl (k (PyData.eqv p q))) H → r x y H Q) : Sem2 K r (fun x y => (eqP x y).map fun b => .vl (.bl (k b))) :=
  fun W F ρ σ H x y dx dy o Q s ax ay e p => by
    dsimp only at e
    cases q : eqP dx dy with
    | none => rw [q] at e; cases e
    | some b =>
      rw [q] at e
      cases e
      unfold eqP at q
      cases q1 : toP dx with
      | none => rw [q1] at q; cases q
      | some px =>
        cases q2 : toP dy with
        | none => rw [q1, q2] at q; cases q
        | some py =>
          rw [q1, q2] at q
          dsimp only at q
          split at q
          · rename_i hc
            cases q
            obtain ⟨h1, h2⟩ := Bool.and_eq_true_iff.mp hc
            exact hr x y H Q px py (ax.dp s.sub q1) (ay.dp s.sub q2) h1 h2 (p.here s (.bl _))
          · cases q
theorem op_dEq (hu : X.A.units + 64 < cLine) : OpR X (compareOp .Eq) (fun x y H Q => rEq x y H Q ∨ (fun x y H Q => rEq x y H Q ∨ rEqD X.K x y H Q) x y H Q) := L2.op_eq.or (L2.op_eq.or (op_eqD hu))
theorem sm_dEq : Sem2 K (fun x y H Q => rEq x y H Q ∨ (fun x y H Q => rEq x y H Q ∨ rEqD K x y H Q) x y H Q) dEq :=
  sm_or (sm_II (fun a b => .bl (decide (a = b))) (fun _ _ _ => .bl _) fun a b H Q _ h => ⟨rfl, by rw [V_int_iff]; exact h⟩) (sm_or (sm_SS (fun a b => .bl (decide (a = b))) (fun _ _ _ => .bl _) fun a b H Q _ h => ⟨rfl, by rw [V_str_iff]; exact h⟩)
    (sm_eqD (k := id) fun x y H Q p q h1 h2 h3 h4 h => ⟨p, q, h1, h2, h3, h4, h⟩))
theorem op_dNe (hu : X.A.units + 64 < cLine) : OpR X (compareOp .NotEq) (fun x y H Q => rNe x y H Q ∨ (fun x y H Q => rNe x y H Q ∨ rNeD X.K x y H Q) x y H Q) := L2.op_ne.or (L2.op_ne.or (op_neD hu))
theorem sm_dNe : Sem2 K (fun x y H Q => rNe x y H Q ∨ (fun x y H Q => rNe x y H Q ∨ rNeD K x y H Q) x y H Q) dNe :=
  sm_or (sm_II (fun a b => .bl (!decide (a = b))) (fun _ _ _ => .bl _) fun a b H Q _ h => ⟨rfl, by rw [V_int_iff]; exact h⟩) (sm_or (sm_SS (fun a b => .bl (!decide (a = b))) (fun _ _ _ => .bl _) fun a b H Q _ h => ⟨rfl, by rw [V_str_iff]; exact h⟩)
    (sm_eqD (k := (!·)) fun x y H Q p q h1 h2 h3 h4 h => ⟨p, q, h1, h2, h3, h4, h⟩))
/-- is None -/
def isNon : D → Bool
  | .non => true
  | _ => false
def dIsN : D → D → Option Opd := fun x y => match y with
  | .non => some (.vl (.bl (isNon x)))
  | _ => none
def dNotN : D → D → Option Opd := fun x y => match y with
  | .non => some (.vl (.bl (!isNon x)))
  | _ => none
theorem isNon_iff {F H : Hp} {x : V} {d : D} (h : AR K F H x d) : decide (x = .non) = isNon d := by
  rcases h with h | ⟨a, rfl, h⟩
  · cases h <;> rfl
  · cases d with
    | non => exact h.elim
    | _ => rfl
theorem sm_dIsN : Sem2 K (fun x y H Q => y = .non ∧ Q (.bl (decide (x = .non))) H) dIsN := fun W F ρ σ H x y dx dy o Q s ax ay e p => by
  cases dy with
  | non => cases e; exact ⟨ay.non, by rw [isNon_iff ax]; exact p.here s (.bl _)⟩
  | _ => cases e
theorem sm_dNotN : Sem2 K (fun x y H Q => y = .non ∧ Q (.bl (!decide (x = .non))) H) dNotN := fun W F ρ σ H x y dx dy o Q s ax ay e p => by
  cases dy with
  | non => cases e; exact ⟨ay.non, by rw [isNon_iff ax]; exact p.here s (.bl _)⟩
  | _ => cases e
/-! ### in -/
/-- one sign in a text; a flat value in a list or tuple of such -/
def flatD : D → Bool
  | .non => true
  | .bl _ => true
  | .int _ => true
  | .str _ => true
  | _ => false
def eqF : D → D → Bool
  | .non, .non => true
  | .bl a, .bl b => a == b
  | .bl a, .int b => (if a then 1 else 0) == b
  | .int a, .bl b => a == (if b then 1 else 0)
  | .int a, .int b => a == b
  | .str a, .str b => a == b
  | _, _ => false
def inF (x : D) (xs : List D) : Bool := xs.any fun y => eqF y x
/-- any data in a list of such -/
def inP (x : D) (xs : List D) : Option Bool := match toP x, toPs xs with
  | some p, some ps => if SeqAt.shaped p && SeqAt.shaped (.list ps) then some (ps.any fun z => PyData.eqv z p) else none
  | _, _ => none
def seqOf : D → Option (List D)
  | .lst ds => some ds
  | .scr ds => some ds
  | .tup ds => some ds
  | _ => none
def inD (x y : D) : Option Bool := match x, y with
  | .str [c], .str s => some (decide (c ∈ s))
  | x, y => match seqOf y with
    | some xs => if flatD x && xs.all flatD then some (inF x xs) else match y with
      | .lst ys => inP x ys
      | _ => none
    | none => none
def dIn : D → D → Option Opd := fun x y => (inD x y).map fun k => .vl (.bl k)
def dNotIn : D → D → Option Opd := fun x y => (inD x y).map fun k => .vl (.bl (!k))
theorem eqF_ok {F : Hp} {v w : V} {d e : D} (h : Rp K F v d) (h' : Rp K F w e) (f : flatD d = true) (f' : flatD e = true) : flatV v = true ∧ flatV w = true ∧ eqV v w = eqF d e := by
  cases h <;> first
    | (cases f; done)
    | (cases h' <;> first
        | (cases f'; done)
        | exact ⟨rfl, rfl, rfl⟩
        | (refine ⟨rfl, rfl, ?_⟩
           rename_i a b
           show (Str.mk a.toArray == Str.mk b.toArray) = (a == b)
           by_cases z : a = b
           · subst z; simp
           · have z' : Str.mk a.toArray ≠ Str.mk b.toArray := fun q => z (by simpa using congrArg Str.cps q)
             rw [beq_eq_false_iff_ne.mpr z', beq_eq_false_iff_ne.mpr z]))
theorem inF_ok {F : Hp} {v : V} {d : D} (h : Rp K F v d) (f : flatD d = true) : ∀ {vs : List V} {ds : List D}, Rps K F vs ds → ds.all flatD = true → flatV v = true ∧ vs.all flatV = true ∧ inV v vs = inF d ds
  | _, _, .nil, _ => ⟨(eqF_ok h h f f).1, rfl, rfl⟩
  | _, _, .cons h1 r, g => by
    obtain ⟨g1, g2⟩ := Bool.and_eq_true_iff.mp g
    obtain ⟨a1, a2, a3⟩ := inF_ok h f r g2
    obtain ⟨b1, b2, b3⟩ := eqF_ok h1 h g1 f
    refine ⟨a1, by simp [b1, a2], ?_⟩
    show (eqV _ v || inV v _) = (eqF _ d || inF d _)
    rw [b3, a3]
theorem AR.seq {F H : Hp} {v : V} {d : D} {ds : List D} (s : Sub F H) (h : AR K F H v d) (e : seqOf d = some ds) : ∃ a xs, v = .ref a ∧ (SqL K H a xs ∨ SqT K H a xs) ∧ Rps K F xs ds := by
  cases d with
  | lst _ => cases e; obtain ⟨a, xs, e, h, r⟩ := h.lst s; exact ⟨a, xs, e, .inl (.of h), r⟩
  | scr _ => cases e; obtain ⟨a, xs, e, h, r⟩ := h.scr s; exact ⟨a, xs, e, .inl h, r⟩
  | tup _ => cases e; obtain ⟨a, xs, e, _, h, r⟩ := h.tup s; exact ⟨a, xs, e, .inr h, r⟩
  | _ => cases e
theorem sm_in {r : R2} {k : Bool → Bool} (h1 : ∀ (c : Nat) (s : List Nat) H Q, Q (.bl (k (decide (c ∈ s)))) H → r (.str ⟨#[c]⟩) (.str ⟨s.toArray⟩) H Q)
    (h2 : ∀ x p xs H Q, (SqL K H p xs ∨ SqT K H p xs) → flatV x = true → xs.all flatV = true → Q (.bl (k (inV x xs))) H → r x (.ref p) H Q)
    (h3 : ∀ x y H Q p ps, Dp K H x p → Dp K H y (.list ps) → SeqAt.shaped p = true → SeqAt.shaped (.list ps) = true → Q (.bl (k (ps.any fun z => PyData.eqv z p))) H → r x y H Q) : Sem2 K r (fun x y => (inD x y).map fun b => .vl (.bl (k b))) :=
  fun W F ρ σ H x y dx dy o Q s ax ay e p => by
    dsimp only at e
    cases q : inD dx dy with
    | none => rw [q] at e; cases e
    | some b =>
      rw [q] at e
      cases e
      unfold inD at q
      split at q
      · cases q
        rw [ax.str, ay.str]
        exact h1 _ _ H Q (p.here s (.bl _))
      · cases qs : seqOf dy with
        | none => rw [qs] at q; cases q
        | some xs =>
          rw [qs] at q
          dsimp only at q
          split at q
          · rename_i hc
            cases q
            obtain ⟨f1, f2⟩ := Bool.and_eq_true_iff.mp hc
            obtain ⟨a, vs, rfl, hs, r1⟩ := ay.seq s.sub qs
            have rx := ax.rpK s.sub (by cases dx <;> first | rfl | cases f1)
            obtain ⟨g1, g2, g3⟩ := inF_ok rx f1 (r1.mono s.sub) f2
            exact h2 x a vs H Q hs g1 g2 (by rw [g3]; exact p.here s (.bl _))
          · cases dy with
            | lst ys =>
              cases qs
              dsimp only at q
              unfold inP at q
              cases q1 : toP dx with
              | none => rw [q1] at q; cases q
              | some px =>
                cases q2 : toPs xs with
                | none => rw [q1, q2] at q; cases q
                | some py =>
                  rw [q1, q2] at q
                  dsimp only at q
                  split at q
                  · rename_i hc
                    cases q
                    obtain ⟨g1, g2⟩ := Bool.and_eq_true_iff.mp hc
                    refine h3 x y H Q px py (ax.dp s.sub q1) (ay.dp s.sub ?_) g1 g2 (p.here s (.bl _))
                    show (toPs xs).map PyData.list = _
                    rw [q2]
                    rfl
                  · cases q
            | _ => cases q
theorem op_dIn (hu : X.A.units + 65 < cLine) : OpR X (compareOp .In) (fun x y H Q => (∃ (c : Nat) (z : Str), x = .str ⟨#[c]⟩ ∧ y = .str z ∧ Q (.bl (decide (c ∈ z.cps.toList))) H) ∨ (fun x y H Q => rIn X.K false x y H Q ∨ rInD X.K x y H Q) x y H Q) := op_in_sign.or (op_in_seq.or (op_inD hu))
theorem sm_dIn : Sem2 K (fun x y H Q => (∃ (c : Nat) (z : Str), x = .str ⟨#[c]⟩ ∧ y = .str z ∧ Q (.bl (decide (c ∈ z.cps.toList))) H) ∨ (fun x y H Q => rIn K false x y H Q ∨ rInD K x y H Q) x y H Q) dIn :=
  sm_in (k := id) (fun c s H Q h => .inl ⟨c, _, rfl, rfl, h⟩) (fun x p xs H Q h f g q => .inr (.inl ⟨p, xs, rfl, h, f, g, q⟩)) fun x y H Q p ps a b c d q => .inr (.inr ⟨p, ps, a, b, c, d, q⟩)
theorem op_dNotIn (hu : X.A.units + 65 < cLine) : OpR X (compareOp .NotIn) (fun x y H Q => (∃ (c : Nat) (z : Str), x = .str ⟨#[c]⟩ ∧ y = .str z ∧ Q (.bl (!decide (c ∈ z.cps.toList))) H) ∨ (fun x y H Q => rIn X.K true x y H Q ∨ rNotInD X.K x y H Q) x y H Q) := op_notIn_sign.or (op_notIn_seq.or (op_notInD hu))
theorem sm_dNotIn : Sem2 K (fun x y H Q => (∃ (c : Nat) (z : Str), x = .str ⟨#[c]⟩ ∧ y = .str z ∧ Q (.bl (!decide (c ∈ z.cps.toList))) H) ∨ (fun x y H Q => rIn K true x y H Q ∨ rNotInD K x y H Q) x y H Q) dNotIn :=
  sm_in (k := (!·)) (fun c s H Q h => .inl ⟨c, _, rfl, rfl, h⟩) (fun x p xs H Q h f g q => .inr (.inl ⟨p, xs, rfl, h, f, g, q⟩)) fun x y H Q p ps a b c d q => .inr (.inr ⟨p, ps, a, b, c, d, q⟩)
end
end PL
/-! PL7: subscripts, slices, stores, built-ins and methods -/
namespace PL
open PySem PySem.Spec L2
open PyProof.Rows (envOfC)
section
variable {K : PySem.W.Frag} {W : WX} {X : Cx} {a b e : Expr} {es : List Expr} {fa fb : CEx} {pos p apos : Pos} {x : Str}
/-! ### calls of built-ins by values -/
theorem je_b1 {id : String} {r : List V → Hp → VK → Prop} {g : D → Option Opd} (hc : CallR X (.builtin id) r) (sm : Sem1 X.K (fun x H Q => r [x] H Q) g) (hm : X.mg x = none) (hv : bootBuiltins x = some (.builtin id)) (ha : JE X W a fa)
    (hg : Gl X x := by rfl) (hn : x ≠ "__name__" := by decide) (hdb : (x == ("__debug__" : Str)) = false := by decide) (he : starEach (a :: []) X.env = (false, eval a X.env) :: starEach [] X.env := by rfl) (hpl : (backTo pos (starEach [] X.env)).any (·.1) = false := by rfl) :
    JE X W (.Call (.Name x p) [a] [] pos) (cOp1 g fa) :=
  .by (pe_callB hc hg hm hv (pa_cons ha.pe pa_nil he) hn hdb he hpl) fun _ _ _ _ _ s p => tUn_ok sm s p
theorem je_t1 {T : String} {r : List V → Hp → VK → Prop} {g : D → Option Opd} (hc : CallR X (.type T) r) (sm : Sem1 X.K (fun x H Q => r [x] H Q) g) (hm : X.mg x = none) (hv : bootBuiltins x = some (.type T)) (ha : JE X W a fa)
    (hg : Gl X x := by rfl) (hn : x ≠ "__name__" := by decide) (hdb : (x == ("__debug__" : Str)) = false := by decide) (he : starEach (a :: []) X.env = (false, eval a X.env) :: starEach [] X.env := by rfl) (hpl : (backTo pos (starEach [] X.env)).any (·.1) = false := by rfl) :
    JE X W (.Call (.Name x p) [a] [] pos) (cOp1 g fa) :=
  .by (pe_callTy hc hg hm hv (pa_cons ha.pe pa_nil he) hn hdb he hpl) fun _ _ _ _ _ s p => tUn_ok sm s p
theorem je_b2 {id : String} {r : List V → Hp → VK → Prop} {g : D → D → Option Opd} (hc : CallR X (.builtin id) r) (sm : Sem2 X.K (fun x y H Q => r [x, y] H Q) g) (hm : X.mg x = none) (hv : bootBuiltins x = some (.builtin id)) (ha : JE X W a fa) (hb : JE X W b fb)
    (hg : Gl X x := by rfl) (hn : x ≠ "__name__" := by decide) (hdb : (x == ("__debug__" : Str)) = false := by decide) (he : starEach [a, b] X.env = (false, eval a X.env) :: starEach [b] X.env := by rfl) (he2 : starEach [b] X.env = (false, eval b X.env) :: starEach [] X.env := by rfl) (hpl : (backTo pos (starEach [b] X.env)).any (·.1) = false := by rfl) :
    JE X W (.Call (.Name x p) [a, b] [] pos) (cOp2 g fa fb) :=
  .by (pe_callB hc hg hm hv (pa_cons ha.pe (pa_cons hb.pe pa_nil he2) he) hn hdb he hpl) fun _ _ _ _ _ s p => tOp_ok sm s p
/-- len -/
def dLen : D → Option Opd := fun d => match d with
  | .str s => if s.length ≤ sizeLine then some (.vl (.int (s.length : Nat))) else none
  | .lst xs => some (.vl (.int (xs.length : Nat)))
  | .scr xs => some (.vl (.int (xs.length : Nat)))
  | .tup xs => some (.vl (.int (xs.length : Nat)))
  | _ => none
theorem sm_len : Sem1 K (fun x H Q => ∃ x' n, [x] = [x'] ∧ LenV K x' H n ∧ Q (.int (n : Nat)) H) dLen := fun W F ρ σ H x dx o Q s ax e p => by
  cases dx with
  | str z =>
    have e' : (if z.length ≤ sizeLine then some (Opd.vl (.int (z.length : Nat))) else none) = some o := e
    by_cases h : z.length ≤ sizeLine
    · rw [if_pos h] at e'
      cases e'
      rw [ax.str]
      exact ⟨_, z.length, rfl, ⟨by rw [str_len]; exact h, (str_len z).symm⟩, p.here s (.int _)⟩
    · rw [if_neg h] at e'; cases e'
  | lst zs =>
    cases e
    obtain ⟨a, xs, rfl, h, r⟩ := ax.lst s.sub
    exact ⟨_, zs.length, rfl, .inl ⟨xs, .of h, r.length.symm⟩, p.here s (.int _)⟩
  | scr zs =>
    cases e
    obtain ⟨a, xs, rfl, h, r⟩ := ax.scr s.sub
    exact ⟨_, zs.length, rfl, .inl ⟨xs, h, r.length.symm⟩, p.here s (.int _)⟩
  | tup zs =>
    cases e
    obtain ⟨a, xs, rfl, _, h, r⟩ := ax.tup s.sub
    exact ⟨_, zs.length, rfl, .inr ⟨xs, h, r.length.symm⟩, p.here s (.int _)⟩
  | _ => cases e
/-- list, tuple, int, abs of one argument -/
def dList : D → Option Opd := fun d => (seqOf d).map fun xs => .fr (.lst xs)
theorem sm_list : Sem1 K (fun x H Q => ∃ p ys, [x] = [V.ref p] ∧ (SqL K H p ys ∨ SqT K H p ys) ∧ ∀ l, H l = none → Q (.ref l) (upd H l (.lst ys))) dList := fun W F ρ σ H x dx o Q s ax e p => by
  unfold dList at e
  cases q : seqOf dx with
  | none => rw [q] at e; cases e
  | some zs =>
    rw [q] at e
    cases e
    obtain ⟨a, xs, rfl, h, r⟩ := ax.seq s.sub q
    exact ⟨a, xs, rfl, h, fun l hl => PoX.newL s p hl r⟩
def dTuple : D → Option Opd := fun d => (seqOf d).map fun xs => .vl (.tup xs)
theorem sm_tuple : Sem1 K (fun x H Q => ∃ p ys, [x] = [V.ref p] ∧ ((SqL K H p ys ∧ ∀ l, H l = none → Q (.ref l) (upd H l (.tup ys))) ∨ (SqT K H p ys ∧ Q (.ref p) H))) dTuple := fun W F ρ σ H x dx o Q s ax e p => by
  cases dx with
  | lst zs =>
    cases e
    obtain ⟨a, xs, rfl, h, r⟩ := ax.lst s.sub
    exact ⟨a, xs, rfl, .inl ⟨.of h, fun l hl => PoX.newT s p hl r⟩⟩
  | scr zs =>
    cases e
    obtain ⟨a, xs, rfl, h, r⟩ := ax.scr s.sub
    exact ⟨a, xs, rfl, .inl ⟨h, fun l hl => PoX.newT s p hl r⟩⟩
  | tup zs =>
    cases e
    obtain ⟨a, xs, rfl, f, h, r⟩ := ax.tup s.sub
    exact ⟨a, xs, rfl, .inr ⟨h, p.here s (.tup f r)⟩⟩
  | _ => cases e
def dInt : D → Option Opd := fun d => match d with
  | .int i => some (.vl (.int i))
  | .bl b => some (.vl (.int (if b then 1 else 0)))
  | _ => none
theorem sm_int : Sem1 K (fun x H Q => (∃ i, [x] = [V.int i] ∧ Q (.int i) H) ∨ ∃ k, [x] = [V.bl k] ∧ Q (.int (if k then 1 else 0)) H) dInt := fun W F ρ σ H x dx o Q s ax e p => by
  cases dx with
  | int i => cases e; exact .inl ⟨i, by rw [ax.int], p.here s (.int _)⟩
  | bl k => cases e; exact .inr ⟨k, by rw [ax.bl], p.here s (.int _)⟩
  | _ => cases e
def dAbs : D → Option Opd := fun d => match d with
  | .int i => some (.vl (.int (if i < 0 then -i else i)))
  | _ => none
theorem sm_abs : Sem1 K (fun x H Q => ∃ i, [x] = [V.int i] ∧ Q (.int (if i < 0 then -i else i)) H) dAbs := fun W F ρ σ H x dx o Q s ax e p => by
  cases dx with
  | int i => cases e; exact ⟨i, by rw [ax.int], p.here s (.int _)⟩
  | _ => cases e
/-- all, any of a list of bools; sum of ints -/
def blsOf : List D → Option (List Bool)
  | [] => some []
  | .bl b :: ds => (blsOf ds).map (b :: ·)
  | _ :: _ => none
def intsOf : List D → Option (List Int)
  | [] => some []
  | .int b :: ds => (intsOf ds).map (b :: ·)
  | _ :: _ => none
def strsOf : List D → Option (List (List Nat))
  | [] => some []
  | .str b :: ds => (strsOf ds).map (b :: ·)
  | _ :: _ => none
theorem blsOf_ok {F : Hp} : ∀ {xs : List V} {ds : List D} {bs : List Bool}, Rps K F xs ds → blsOf ds = some bs → xs = bs.map V.bl ∧ ds = bs.map D.bl
  | _, _, _, .nil, e => by cases e; exact ⟨rfl, rfl⟩
  | _, d :: ds, bs, .cons h r, e => by
    cases d with
    | bl b =>
      have e' : (blsOf ds).map (b :: ·) = some bs := e
      cases q : blsOf ds with
      | none => rw [q] at e'; cases e'
      | some zs =>
        rw [q] at e'
        cases e'
        obtain ⟨e1, e2⟩ := blsOf_ok r q
        cases h
        exact ⟨by rw [e1]; rfl, by rw [e2]; rfl⟩
    | _ => cases e
theorem intsOf_ok {F : Hp} : ∀ {xs : List V} {ds : List D} {bs : List Int}, Rps K F xs ds → intsOf ds = some bs → xs = bs.map V.int ∧ ds = bs.map D.int
  | _, _, _, .nil, e => by cases e; exact ⟨rfl, rfl⟩
  | _, d :: ds, bs, .cons h r, e => by
    cases d with
    | int b =>
      have e' : (intsOf ds).map (b :: ·) = some bs := e
      cases q : intsOf ds with
      | none => rw [q] at e'; cases e'
      | some zs =>
        rw [q] at e'
        cases e'
        obtain ⟨e1, e2⟩ := intsOf_ok r q
        cases h
        exact ⟨by rw [e1]; rfl, by rw [e2]; rfl⟩
    | _ => cases e
theorem strsOf_ok {F : Hp} : ∀ {xs : List V} {ds : List D} {bs : List (List Nat)}, Rps K F xs ds → strsOf ds = some bs → xs = bs.map (fun b => V.str ⟨b.toArray⟩) ∧ ds = bs.map D.str
  | _, _, _, .nil, e => by cases e; exact ⟨rfl, rfl⟩
  | _, d :: ds, bs, .cons h r, e => by
    cases d with
    | str b =>
      have e' : (strsOf ds).map (b :: ·) = some bs := e
      cases q : strsOf ds with
      | none => rw [q] at e'; cases e'
      | some zs =>
        rw [q] at e'
        cases e'
        obtain ⟨e1, e2⟩ := strsOf_ok r q
        cases h
        exact ⟨by rw [e1]; rfl, by rw [e2]; rfl⟩
    | _ => cases e
def dAll : D → Option Opd := fun d => ((lstOf d).bind blsOf).map fun bs => .vl (.bl (bs.all id))
def dAny : D → Option Opd := fun d => ((lstOf d).bind blsOf).map fun bs => .vl (.bl (bs.any id))
def dSum : D → Option Opd := fun d => ((lstOf d).bind intsOf).map fun bs => .vl (.int bs.sum)
theorem sm_all : Sem1 K (fun x H Q => rAll K [x] H Q) dAll := fun W F ρ σ H x dx o Q s ax e p => by
  unfold dAll at e
  cases q : lstOf dx with
  | none => rw [q] at e; cases e
  | some ds =>
    rw [q] at e
    cases q2 : blsOf ds with
    | none => simp [q2] at e
    | some bs =>
      simp [q2] at e
      subst e
      obtain ⟨a, xs, rfl, h, r⟩ := ax.seqL s.sub q
      obtain ⟨e1, _⟩ := blsOf_ok r q2
      subst e1
      exact ⟨a, bs, rfl, h, p.here s (.bl _)⟩
theorem sm_any : Sem1 K (fun x H Q => rAny K [x] H Q) dAny := fun W F ρ σ H x dx o Q s ax e p => by
  unfold dAny at e
  cases q : lstOf dx with
  | none => rw [q] at e; cases e
  | some ds =>
    rw [q] at e
    cases q2 : blsOf ds with
    | none => simp [q2] at e
    | some bs =>
      simp [q2] at e
      subst e
      obtain ⟨a, xs, rfl, h, r⟩ := ax.seqL s.sub q
      obtain ⟨e1, _⟩ := blsOf_ok r q2
      subst e1
      exact ⟨a, bs, rfl, h, p.here s (.bl _)⟩
theorem sm_sum : Sem1 K (fun x H Q => rSum K [x] H Q) dSum := fun W F ρ σ H x dx o Q s ax e p => by
  unfold dSum at e
  cases q : lstOf dx with
  | none => rw [q] at e; cases e
  | some ds =>
    rw [q] at e
    cases q2 : intsOf ds with
    | none => simp [q2] at e
    | some bs =>
      simp [q2] at e
      subst e
      obtain ⟨a, xs, rfl, h, r⟩ := ax.seqL s.sub q
      obtain ⟨e1, _⟩ := intsOf_ok r q2
      subst e1
      exact ⟨a, bs, rfl, h, p.here s (.int _)⟩
/-- max, min of two ints -/
def dMax2 : D → D → Option Opd := dII yes2 fun i j => .int (if j > i then j else i)
def dMin2 : D → D → Option Opd := dII yes2 fun i j => .int (if j < i then j else i)
theorem sm_max2 : Sem2 K (fun x y H Q => ∃ i j, [x, y] = [V.int i, V.int j] ∧ Q (.int (if j > i then j else i)) H) dMax2 := sm_II (fun i j => .int (if j > i then j else i)) (fun _ _ _ => .int _) fun a b H Q _ h => ⟨a, b, rfl, h⟩
theorem sm_min2 : Sem2 K (fun x y H Q => ∃ i j, [x, y] = [V.int i, V.int j] ∧ Q (.int (if j < i then j else i)) H) dMin2 := sm_II (fun i j => .int (if j < i then j else i)) (fun _ _ _ => .int _) fun a b H Q _ h => ⟨a, b, rfl, h⟩
/-! ### isinstance -/
def kindOf : D → String
  | .non => "NoneType"
  | .bl _ => "bool"
  | .int _ => "int"
  | .str _ => "str"
  | .tup _ => "tuple"
  | .lst _ => "list"
  | .scr _ => "list"
  | .dct _ _ => "dict"
  | .set _ => "set"
  | .err _ _ => "NoneType"
  | .dtt _ _ => "dict"
  | .rws _ => "list"
  | .dls _ _ => "dict"
def isK (d : D) (T : String) : Bool := kindOf d == T || (kindOf d == "bool" && T == "int")
inductive Ty5 : String → Prop
  | int : Ty5 "int" | bool : Ty5 "bool" | str : Ty5 "str" | tuple : Ty5 "tuple" | list : Ty5 "list"
theorem kit_of {d : D} {T : String} (h : Ty5 T) : PySem.W.kitOne K (.type (kindOf d)) (.type T) = some (isK d T) := by
  cases h <;> cases d <;> rfl
def isE : D → Bool
  | .err _ _ => true
  | .dct _ _ => true
  | .dtt _ _ => true
  | .rws _ => true
  | .dls _ _ => true
  | _ => false
theorem tyx_of {F H : Hp} {v : V} {d : D} (s : Sub F H) (h : AR K F H v d) (ne : isE d = false) : TyX K H v (.type (kindOf d)) := by
  have r := h.rpK s (by cases d <;> first | rfl | cases ne)
  have go : ∀ {v : V} {d : D}, isE d = false → Rp K H v d → TyX K H v (.type (kindOf d)) := fun {v d} ne r => by
    cases r with
    | err _ _ _ => cases ne
    | dct _ _ => cases ne
    | dtt _ _ => cases ne
    | non => exact .base .non
    | bl b => exact .base (.bl b)
    | int i => exact .base (.int i)
    | str z => exact .base (.str _)
    | tup h _ => exact .base (.tup h)
    | lst h _ => exact .base (.lst h)
    | scr h _ =>
      rcases h with (h | ⟨o, h⟩) | ⟨o, its, n, hk, hc, _⟩
      · exact .base (.lst h)
      · exact .base (.frz h)
      · exact .kList hk hc
  exact go ne r
def dIsi (T : String) : D → Option Opd
  | .err _ _ => none
  | .dct _ _ => none
  | .dtt _ _ => none
  | .rws _ => none
  | .dls _ _ => none
  | d => some (.vl (.bl (isK d T)))
theorem dIsi_ne {T : String} {d : D} {o : Opd} (e : dIsi T d = some o) : isE d = false ∧ o = .vl (.bl (isK d T)) := by
  cases d <;> first | (cases e; exact ⟨rfl, rfl⟩) | cases e
theorem je_isi (T : String) {y : Str} {q : Pos} (h5 : Ty5 T) (hm : X.mg x = none) (hv : bootBuiltins x = some (.builtin "isinstance")) (hmy : X.mg y = none) (hvy : bootBuiltins y = some (.type T)) (ha : JE X W a fa)
    (hg : Gl X x := by rfl) (hgy : Gl X y := by rfl) (hn : x ≠ "__name__" := by decide) (hdb : (x == ("__debug__" : Str)) = false := by decide) (hny : y ≠ "__name__" := by decide) (hdy : (y == ("__debug__" : Str)) = false := by decide)
    (he : starEach [a, .Name y q] X.env = (false, eval a X.env) :: starEach [.Name y q] X.env := by rfl) (hpl : (backTo pos (starEach [.Name y q] X.env)).any (·.1) = false := by rfl) :
    JE X W (.Call (.Name x p) [a, .Name y q] [] pos) (cOp1 (dIsi T) fa) :=
  .by (pe_callB call_isi hg hm hv (pa_cons ha.pe (pa_cons (pe_bltn hgy hmy hvy (v := .ty T) rfl hny hdy) pa_nil) he) hn hdb he hpl) fun σ H Q F ρ s p => by
    have sm : Sem1 X.K (fun x H Q => rIsi X.K [x, .ty T] H Q) (dIsi T) := fun W F ρ σ H x dx o Q s ax e p => by
      obtain ⟨ne, rfl⟩ := dIsi_ne e
      exact ⟨x, .ty T, _, _, _, rfl, .ty T, tyx_of s.sub ax ne, kit_of h5, p.here s (.bl _)⟩
    exact tUn_ok sm s p
/-- isinstance(x, (T1, T2)) -/
def dIsi2 (T U : String) : D → Option Opd
  | .err _ _ => none
  | .dct _ _ => none
  | .dtt _ _ => none
  | .rws _ => none
  | .dls _ _ => none
  | d => some (.vl (.bl (isK d T || isK d U)))
theorem dIsi2_ne {T U : String} {d : D} {o : Opd} (e : dIsi2 T U d = some o) : isE d = false ∧ o = .vl (.bl (isK d T || isK d U)) := by
  cases d <;> first | (cases e; exact ⟨rfl, rfl⟩) | cases e
theorem je_isi2 (T U : String) {y z : Str} {q q2 tp : Pos} {tk : Nat} (h5 : Ty5 T) (h6 : Ty5 U) (hm : X.mg x = none) (hv : bootBuiltins x = some (.builtin "isinstance")) (hmy : X.mg y = none) (hvy : bootBuiltins y = some (.type T)) (hmz : X.mg z = none) (hvz : bootBuiltins z = some (.type U)) (ha : JE X W a fa)
    (hg : Gl X x := by rfl) (hgy : Gl X y := by rfl) (hgz : Gl X z := by rfl) (hn : x ≠ "__name__" := by decide) (hdb : (x == ("__debug__" : Str)) = false := by decide) (hny : y ≠ "__name__" := by decide) (hdy : (y == ("__debug__" : Str)) = false := by decide) (hnz : z ≠ "__name__" := by decide) (hdz : (z == ("__debug__" : Str)) = false := by decide)
    (he : starEach [a, .Tuple [.Name y q, .Name z q2] tk tp] X.env = (false, eval a X.env) :: starEach [.Tuple [.Name y q, .Name z q2] tk tp] X.env := by rfl) (hpl : (backTo pos (starEach [.Tuple [.Name y q, .Name z q2] tk tp] X.env)).any (·.1) = false := by rfl) :
    JE X W (.Call (.Name x p) [a, .Tuple [.Name y q, .Name z q2] tk tp] [] pos) (cOp1 (dIsi2 T U) fa) :=
  .by (pe_callB call_isiT hg hm hv (pa_cons ha.pe (pa_cons (pe_tup (pa_cons (pe_bltn hgy hmy hvy (v := .ty T) rfl hny hdy) (pa_cons (pe_bltn hgz hmz hvz (v := .ty U) rfl hnz hdz) pa_nil))) pa_nil) he) hn hdb he hpl) fun σ H Q F ρ s p => by
    have sm : Sem1 X.K (fun x H Q => 2 ≤ sizeLine ∧ ∀ q, H q = none → rIsiT X.K [x, .ref q] (upd H q (.tup [.ty T, .ty U])) Q) (dIsi2 T U) := fun W F ρ σ H x dx o Q s ax e p => by
      obtain ⟨ne, rfl⟩ := dIsi2_ne e
      refine ⟨by decide, fun q hq => ⟨x, q, _, _, _, _, rfl, upd_same, .cons (.ty T) (.cons (.ty U) .nil), tyx_of (s.newH hq).sub (?_ : AR X.K F _ x dx) ne, ?_, p (.bl _) F _ (s.newH hq) (Fr.newH s hq) (.bl _)⟩⟩
      · rcases ax with h | ⟨a, e, w⟩
        · exact .inl h
        · exact .inr ⟨a, e, w.mono (Sub.refl _) fun _ o _ ho => by rw [upd_ne (ne_of_none ho hq)]; exact ho⟩
      · show (match PySem.W.kitOne X.K _ (.type T) with
          | some true => some true
          | some false => (match PySem.W.kitOne X.K _ (.type U) with
            | some true => some true
            | some false => some false
            | none => none)
          | none => none) = _
        rw [kit_of h5, kit_of h6]
        cases isK dx T <;> cases isK dx U <;> rfl
    exact tUn_ok sm s p
/-! ### subscripts -/
def dIdx : D → D → Option Opd := fun x y => match y with
  | .int i => match x with
    | .lst ds => (atI ds i).map .vl
    | .scr ds => (atI ds i).map .vl
    | .tup ds => (atI ds i).map .vl
    | .str z => if z.length ≤ sizeLine then (atI z i).map fun c => .vl (.str [c]) else none
    | _ => none
  | _ => none
theorem atI_rps {F : Hp} {xs : List V} {ds : List D} {i : Int} {d : D} (r : Rps K F xs ds) (h : atI ds i = some d) : ∃ v, atI xs i = some v ∧ Rp K F v d := by
  unfold atI at h ⊢
  rw [r.length]
  cases q : ixN ds.length i with
  | none => rw [q] at h; cases h
  | some j =>
    rw [q] at h
    exact r.get' h
theorem sm_idx : Sem2 K (rIx K) dIdx := fun W F ρ σ H x y dx dy o Q s ax ay e p => by
  cases dy with
  | int i =>
    rw [ay.int]
    cases dx with
    | lst ds =>
      obtain ⟨a, xs, rfl, h, r⟩ := ax.lst s.sub
      have e' : (atI ds i).map Opd.vl = some o := e
      cases q : atI ds i with
      | none => rw [q] at e'; cases e'
      | some d =>
        rw [q] at e'
        cases e'
        obtain ⟨v, h1, h2⟩ := atI_rps r q
        exact .inl ⟨a, xs, i, v, rfl, rfl, .of h, h1, p.here s h2⟩
    | scr ds =>
      obtain ⟨a, xs, rfl, h, r⟩ := ax.scr s.sub
      have e' : (atI ds i).map Opd.vl = some o := e
      cases q : atI ds i with
      | none => rw [q] at e'; cases e'
      | some d =>
        rw [q] at e'
        cases e'
        obtain ⟨v, h1, h2⟩ := atI_rps r q
        exact .inl ⟨a, xs, i, v, rfl, rfl, h, h1, p.here s h2⟩
    | tup ds =>
      obtain ⟨a, xs, rfl, _, h, r⟩ := ax.tup s.sub
      have e' : (atI ds i).map Opd.vl = some o := e
      cases q : atI ds i with
      | none => rw [q] at e'; cases e'
      | some d =>
        rw [q] at e'
        cases e'
        obtain ⟨v, h1, h2⟩ := atI_rps r q
        exact .inr (.inl ⟨a, xs, i, v, rfl, rfl, h, h1, p.here s h2⟩)
    | str z =>
      have e' : (if z.length ≤ sizeLine then (atI z i).map fun c => Opd.vl (.str [c]) else none) = some o := e
      by_cases hz : z.length ≤ sizeLine
      · rw [if_pos hz] at e'
        cases q : atI z i with
        | none => rw [q] at e'; cases e'
        | some c =>
          rw [q] at e'
          cases e'
          rw [ax.str]
          exact .inr (.inr ⟨_, i, c, rfl, rfl, by rw [str_len]; exact hz, q, p.here s (.str [c])⟩)
      · rw [if_neg hz] at e'; cases e'
    | _ => cases e
  | _ => cases e
theorem je_ix (ha : JE X W a fa) (hb : JE X W b fb) (hs : PlainIx b := by exact fun _ _ => rfl) : JE X W (.Subscript a b pos) (cOp2 dIdx fa fb) :=
  .by (pe_ix ix_seq ha.pe hb.pe hs) fun _ _ _ _ _ s p => tOp_ok sm_idx s p
/-! ### slices -/
structure JP (X : Cx) (W : WX) (e : Option Expr) (f : Ev → Res (Option Int)) : Prop where po : PO X e (fun σ H Q => ∃ F ρ, RS X.K F ρ σ H ∧ Po X.K W (fun _ _ _ _ _ v o => v = o) F ρ σ H Q (f ρ))
def cNoP : Ev → Res (Option Int) := fun ρ => .ok none ρ
def cP (f : CEx) : Ev → Res (Option Int) := fun ρ => (f ρ).bind fun o ρ' => match o with
  | .vl (.int i) => .ok (some i) ρ'
  | _ => .stk
theorem PO.weak {X : Cx} {e : Option Expr} {t t' : TO} (h : PO X e t) (c : ∀ σ H Q, t' σ H Q → t σ H Q) : PO X e t' := ⟨fun pins s σ H Q I q => h.run pins s σ H Q I (c σ H Q q)⟩
theorem jp_none : JP X W none cNoP := ⟨PO.weak po_none fun σ H Q ⟨F, ρ, s, p⟩ => p.here s rfl⟩
theorem jp_some (h : JE X W a fa) : JP X W (some a) (cP fa) := ⟨PO.weak (po_some h.pe) fun σ H Q ⟨F, ρ, s, p⟩ => ⟨F, ρ, s, p.bind (fun _ _ _ _ _ _ _ h => h) fun o ρ' v F' H' s' b' r' p' => by
  cases o with
  | vl d =>
    cases d with
    | int i =>
      have e : v = .int i := by cases r'; rfl
      exact ⟨i, e, p'.here s' rfl⟩
    | _ => exact p'.elim
  | _ => exact p'.elim⟩⟩
def sIx := HT.sIx
def cutD {α : Type} (xs : List α) (lo hi : Option Int) : List α := (xs.drop (HT.sIx xs.length 0 lo)).take (HT.sIx xs.length xs.length hi - HT.sIx xs.length 0 lo)
def dSlc (d : D) (lo hi : Option Int) : Option Opd := match d with
  | .lst ds => some (.fr (.lst (cutD ds lo hi)))
  | .scr ds => some (.fr (.lst (cutD ds lo hi)))
  | .tup ds => some (.vl (.tup (cutD ds lo hi)))
  | .str z => if z.length ≤ sizeLine then some (.vl (.str (cutD z lo hi))) else none
  | _ => none
def cSlc (fa : CEx) (fl fh : Ev → Res (Option Int)) : CEx := fun ρ => (fa ρ).bind fun oa ρ1 => (fl ρ1).bind fun l ρ2 => (fh ρ2).bind fun u ρ3 => f1 (fun d => dSlc d l u) oa ρ3
theorem Rps.cut {F : Hp} {xs : List V} {ds : List D} (r : Rps K F xs ds) (lo hi : Option Int) : Rps K F (cutV xs lo hi) (cutD ds lo hi) := by
  unfold cutV cutD
  rw [r.length]
  exact (r.drop _).take _
theorem cutS_eq (z : List Nat) (lo hi : Option Int) : cutS ⟨z.toArray⟩ lo hi = ⟨(cutD z lo hi).toArray⟩ := by
  unfold cutS cutD
  rw [str_len]
theorem sm_slc (l u : Option Int) : Sem1 K (fun x H Q => (fun x lo hi H Q => rSlL K x lo hi H Q ∨ (fun x lo hi H Q => rSlA K x lo hi H Q ∨ rSlS x lo hi H Q) x lo hi H Q) x l u H Q) (fun d => dSlc d l u) := fun W F ρ σ H x dx o Q s ax e p => by
  cases dx with
  | lst ds =>
    cases e
    obtain ⟨a, xs, rfl, h, r⟩ := ax.lst s.sub
    exact .inl ⟨a, xs, rfl, .of h, fun q hq => PoX.newL s p hq (r.cut l u)⟩
  | scr ds =>
    cases e
    obtain ⟨a, xs, rfl, h, r⟩ := ax.scr s.sub
    exact .inl ⟨a, xs, rfl, h, fun q hq => PoX.newL s p hq (r.cut l u)⟩
  | tup ds =>
    cases e
    obtain ⟨a, xs, rfl, f, h, r⟩ := ax.tup s.sub
    refine .inr (.inl ⟨a, xs, rfl, h, fun ⟨h1, h2⟩ => ?_, fun _ q hq => PoX.newT s p hq (r.cut l u)⟩)
    have e : cutD ds l u = ds := by
      unfold cutD
      rw [← r.length, h1, h2, List.drop_zero, Nat.sub_zero, r.length, List.take_length]
    rw [e] at p
    exact p.here s (.tup f r)
  | str z =>
    have e' : (if z.length ≤ sizeLine then some (Opd.vl (.str (cutD z l u))) else none) = some o := e
    by_cases hz : z.length ≤ sizeLine
    · rw [if_pos hz] at e'
      cases e'
      rw [ax.str]
      exact .inr (.inr ⟨_, rfl, by rw [str_len]; exact hz, by rw [cutS_eq]; exact p.here s (.str _)⟩)
    · rw [if_neg hz] at e'; cases e'
  | _ => cases e
theorem je_slc {lo hi : Option Expr} {fl fh : Ev → Res (Option Int)} {p2 : Pos} (ha : JE X W a fa) (hl : JP X W lo fl) (hh : JP X W hi fh) : JE X W (.Subscript a (.Slice lo hi none p2) pos) (cSlc fa fl fh) :=
  .by (pe_slice (sl_list.or (sl_tupA.or sl_str)) ha.pe hl.po hh.po) fun σ H Q F ρ s p => ⟨F, ρ, s, p.bind (fun _ _ _ _ _ _ b => OR.dom b) fun oa ρ1 va F1 H1 s1 b1 r1 p1 => ⟨F1, ρ1, s1, p1.bind (fun _ _ _ _ _ _ b => OR.dom b) fun l ρ2 vl F2 H2 s2 b2 r2 p2 =>
    ⟨F2, ρ2, s2, p2.bind (fun _ _ _ _ _ _ b => OR.dom b) fun u ρ3 vu F3 H3 s3 b3 r3 p3 => by
      have e1 : vl = l := r2
      have e2 : vu = u := r3
      subst e1 e2
      have r1' := (r1.step b2).step b3
      unfold f1 at p3
      cases e1 : useO ρ3 oa with
      | none => rw [e1] at p3; exact p3.elim
      | some d =>
        rw [e1] at p3
        dsimp only at p3
        cases e3 : dSlc d vl vu with
        | none => rw [e3] at p3; exact p3.elim
        | some o =>
          rw [e3] at p3
          exact sm_slc vl vu W F3 ρ3 σ H3 va d o Q s3 (.of s3 r1' e1) e3 p3⟩⟩⟩
end
end PL
/-! PL8: a name's own list changes; stores; several targets; methods of values -/
namespace PL
open PySem PySem.Spec L2
open PyProof.Rows (envOfC)
section
variable {K : PySem.W.Frag} {W : WX} {F H F0 H0 : Hp} {ρ ρ0 : Ev} {σ σ0 : St}
/-- the container of the name at i becomes d' -/
theorem RS.ownT (s : RS K F ρ σ H) {i : Nat} {d d' : D} {a : Addr} {o : HO} (hi : ρ[i]? = some (.ow d)) (ha : σ[i]? = some (some (.ref a))) (k : kids d' = false) (w : Own K F (upd H a o) a d') : RS K F (ρ.set i (.ow d')) σ (upd H a o) ∧ Fr F ρ σ H F (ρ.set i (.ow d')) σ (upd H a o) := by
  obtain ⟨a', e1, n, w0⟩ := s.ow i d hi
  rw [ha] at e1
  cases e1
  refine s.turn hi ha (Sub.refl _) (fun b u q => ?_) (fun c u h nc => ?_) (fun c h => .inl h) (fun c h => ?_) (fun c hc => ?_) (fun c hc => ?_) w
  · rw [upd_ne (ne_of_none q (n a .top))]; exact s.sub b u q
  · rw [upd_ne (fun z => nc (.inl z))]; exact h
  · by_cases z : c = a
    · subst z; rw [upd_same]; simp
    · rw [upd_ne z]; exact h
  · rw [In.one k hc]; exact n a .top
  · rw [In.one k hc]; exact .inl .top
theorem RS.own (s : RS K F ρ σ H) {i : Nat} {d d' : D} {a : Addr} {o : HO} (hi : ρ[i]? = some (.ow d)) (ha : σ[i]? = some (some (.ref a))) (k : kids d' = false) (w : Own K F (upd H a o) a d') : RS K F (ρ.set i (.ow d')) σ (upd H a o) := (s.ownT hi ha k w).1
theorem Fr.own (s : RS K F ρ σ H) {i : Nat} {d d' : D} {a : Addr} {o : HO} (hi : ρ[i]? = some (.ow d)) (ha : σ[i]? = some (some (.ref a))) (k : kids d' = false) (w : Own K F (upd H a o) a d') : Fr F ρ σ H F (ρ.set i (.ow d')) σ (upd H a o) := (s.ownT hi ha k w).2
end
/-! ### x.m(e, ..) of a name's own list -/
def SemM (K : PySem.W.Frag) (r : V → List V → Hp → VK → Prop) (m : List D → List D → Option (D × List D)) : Prop :=
  ∀ (F H : Hp) (a : Addr) (xs : List V) (ds : List D) (vs : List V) (es : List D) (d : D) (ds' : List D) (Q : VK), Sub F H → H a = some (.lst xs) → Rps K F xs ds → Rps K F vs es → m ds es = some (d, ds') →
    (∀ v xs', Rp K F v d → Rps K F xs' ds' → Q v (upd H a (.lst xs'))) → r (.ref a) vs H Q
def cOwn (i : Nat) (m : List D → List D → Option (D × List D)) (g : Ev → Res (List D)) : CEx := fun ρ => match ρ[i]? with
  | some (.ow (.lst _)) => (g ρ).bind fun es ρ1 => match ρ1[i]? with
    | some (.ow (.lst ds)) => match m ds es with
      | some r => .ok (.vl r.1) (ρ1.set i (.ow (.lst r.2)))
      | none => .stk
    | _ => .stk
  | _ => .stk
theorem Own.isL {K : PySem.W.Frag} {F H : Hp} {a : Addr} {ds : List D} (h : Own K F H a (.lst ds)) : ∃ xs, H a = some (.lst xs) := ⟨h.choose, h.choose_spec.1⟩
section
variable {X : Cx} {W : WX} {e : Expr} {es : List Expr} {g : Ev → Res (List D)} {p apos cpos : Pos} {x name : Str} {id : String} {r : V → List V → Hp → VK → Prop} {m : List D → List D → Option (D × List D)}
theorem own_ok (i : Nat) (sm : SemM X.K r m) {σ : St} {H Fz : Hp} {Q : VK} {ρ ρ1 : Ev} {ds : List D} {F1 H1 : Hp} {vs : List V} {es : List D} {a : Addr} (ha : σ[i]? = some (some (.ref a))) (s1 : RS X.K F1 ρ1 σ H1) (r1 : Rps X.K F1 vs es)
    (p1 : Po X.K W (OR X.K) F1 ρ1 σ H1 Q (match ρ1[i]? with
    | some (.ow (.lst ds)) => match m ds es with
      | some r => .ok (.vl r.1) (ρ1.set i (.ow (.lst r.2)))
      | none => .stk
    | _ => .stk)) : r (.ref a) vs H1 Q := by
  split at p1
  · rename_i ds hj
    split at p1
    · rename_i rr hm
      obtain ⟨a', ha', n, w⟩ := s1.ow i _ hj
      rw [ha] at ha'
      cases ha'
      obtain ⟨xs, hx, rx⟩ := w
      refine sm F1 H1 a xs ds vs es rr.1 rr.2 Q s1.sub hx rx r1 hm fun v xs' rv rxs => ?_
      exact p1 v F1 _ (s1.own hj ha rfl ⟨xs', upd_same, rxs⟩) (Fr.own s1 hj ha rfl ⟨xs', upd_same, rxs⟩) rv
    · exact p1.elim
  · exact p1.elim
theorem je_own (i : Nat) (sm : SemM X.K r m) (hm : MtM X id r) (slot : Slot "list" name id) (hty : typeOf (.builtin id) = pure (.type "method_descriptor")) (ha : JA X W (e :: es) g)
    (hN : X.N[i]? = some x := by rfl) (hv : Vis X.env.scope x := by first | exact Or.inl rfl | exact Or.inr (Or.inl rfl) | exact Or.inr (Or.inr rfl)) (hd : (x == ("__debug__" : Str)) = false := by decide) (hcd : (x == ("__classdict__" : Str)) = false := by decide)
    (hbase : attributeBase (.Name x p) name X.env (eval (.Name x p) X.env) = eval (.Name x p) X.env := by rfl)
    (hfew : ((backTo cpos (starEach (e :: es) X.env)).all (fun x => !x.1) && (backToKw cpos (keywordEach [] X.env)).all (fun x => x.1.isSome)
      && decide ((e :: es).length + ([] : List Keyword).length + (if ([] : List Keyword).isEmpty then 0 else 1) < 30)) = true := by rfl)
    (hline : (apos.endLine == cpos.line) = true := by rfl) (hs : starEach (e :: es) X.env = (false, eval e X.env) :: starEach es X.env := by rfl) (hplain : (backTo cpos (starEach es X.env)).any (·.1) = false := by rfl) :
    JE X W (.Call (.Attribute (.Name x p) name apos) (e :: es) [] cpos) (cOwn i m g) :=
  .by (pe_bm PySem.F.plainAttrs_list slot hty hm (pe_var (i := i) hN hv hd hcd) ha.pa hbase hfew hline hs hplain) fun σ H Q Fz ρ s p => by
    unfold cOwn at p
    split at p
    · rename_i d0 hj
      obtain ⟨a, e1, n, w⟩ := s.ow i _ hj
      obtain ⟨xs, hx⟩ := w.isL
      refine ⟨.ref a, e1, .inl ⟨rfl, xs, .of hx⟩, Fz, ρ, s, ?_⟩
      refine p.bind (fun _ _ _ _ _ _ b => OR.dom b) fun es ρ1 vs F1 H1 s1 b1 r1 p1 => ?_
      exact own_ok (Fz := Fz) (H := H) (ρ := ρ) (ds := []) i sm e1 s1 r1 p1
    · exact p.elim
theorem je_own0 (i : Nat) (sm : SemM X.K r m) (hm : MtM X id r) (slot : Slot "list" name id) (hty : typeOf (.builtin id) = pure (.type "method_descriptor"))
    (hN : X.N[i]? = some x := by rfl) (hv : Vis X.env.scope x := by first | exact Or.inl rfl | exact Or.inr (Or.inl rfl) | exact Or.inr (Or.inr rfl)) (hd : (x == ("__debug__" : Str)) = false := by decide) (hcd : (x == ("__classdict__" : Str)) = false := by decide)
    (hbase : attributeBase (.Name x p) name X.env (eval (.Name x p) X.env) = eval (.Name x p) X.env := by rfl) (hline : (apos.endLine == cpos.line) = true := by rfl) :
    JE X W (.Call (.Attribute (.Name x p) name apos) [] [] cpos) (cOwn i m cNilA) :=
  .by (pe_bm0 PySem.F.plainAttrs_list slot hty hm (pe_var (i := i) hN hv hd hcd) hbase hline) fun σ H Q Fz ρ s p => by
    unfold cOwn at p
    split at p
    · rename_i d0 hj
      obtain ⟨a, e1, n, w⟩ := s.ow i _ hj
      obtain ⟨xs, hx⟩ := w.isL
      refine ⟨.ref a, e1, .inl ⟨rfl, xs, .of hx⟩, ?_⟩
      exact own_ok (Fz := Fz) (H := H) (ρ := ρ) (ds := []) i sm e1 s .nil p
    · exact p.elim
end
def mAppend : List D → List D → Option (D × List D) := fun ds es => match es with
  | [d] => if ds.length < sizeLine then some (.non, ds ++ [d]) else none
  | _ => none
theorem sm_append {K : PySem.W.Frag} : SemM K rAppend mAppend := fun F H a xs ds vs es d ds' Q s hx rx rv e q => by
  unfold mAppend at e
  split at e
  · split at e
    · rename_i hl
      cases e
      cases rv with
      | cons r1 r2 =>
        cases r2
        exact ⟨a, xs, _, rfl, rfl, hx, by rw [rx.length]; exact hl, q _ _ .non (rx.append (.cons r1 .nil))⟩
    · cases e
  · cases e
def mExtend : List D → List D → Option (D × List D) := fun ds es => match es with
  | [.lst zs] => if ds.length + zs.length ≤ sizeLine then some (.non, ds ++ zs) else none
  | _ => none
theorem sm_extend {K : PySem.W.Frag} : SemM K rExtend mExtend := fun F H a xs ds vs es d ds' Q s hx rx rv e q => by
  unfold mExtend at e
  split at e
  · split at e
    · rename_i hl
      cases e
      cases rv with
      | cons r1 r2 =>
        cases r2
        cases r1 with
        | lst hb rb => exact ⟨a, _, xs, _, rfl, rfl, hx, s _ _ hb, by rw [rx.length, rb.length]; exact hl, q _ _ .non (rx.append rb)⟩
    · cases e
  · cases e
def mPop : List D → List D → Option (D × List D) := fun ds es => match es with
  | [] => (ds[ds.length - 1]?).map fun d => (d, ds.dropLast)
  | _ => none
theorem Rps.dropLast {K : PySem.W.Frag} {F : Hp} : ∀ {vs : List V} {ds : List D}, Rps K F vs ds → Rps K F vs.dropLast ds.dropLast
  | _, _, .nil => .nil
  | _, _, .cons _ .nil => .nil
  | _, _, .cons h (.cons h2 r) => .cons h (Rps.dropLast (.cons h2 r))
theorem Rps.eraseIdx {K : PySem.W.Frag} {F : Hp} : ∀ {vs : List V} {ds : List D} (i : Nat), Rps K F vs ds → Rps K F (vs.eraseIdx i) (ds.eraseIdx i)
  | _, _, _, .nil => .nil
  | _, _, 0, .cons _ r => r
  | _, _, i + 1, .cons h r => .cons h (Rps.eraseIdx i r)
theorem Rps.reverse {K : PySem.W.Frag} {F : Hp} : ∀ {vs : List V} {ds : List D}, Rps K F vs ds → Rps K F vs.reverse ds.reverse
  | _, _, .nil => .nil
  | _, _, .cons h r => by rw [List.reverse_cons, List.reverse_cons]; exact (Rps.reverse r).append (.cons h .nil)
theorem sm_pop {K : PySem.W.Frag} : SemM K rPop mPop := fun F H a xs ds vs es d ds' Q s hx rx rv e q => by
  cases rv with
  | cons _ _ => cases e
  | nil =>
    have e' : (ds[ds.length - 1]?).map (fun d => (d, ds.dropLast)) = some (d, ds') := e
    cases z : ds[ds.length - 1]? with
    | none => rw [z] at e'; cases e'
    | some y =>
      rw [z] at e'
      cases e'
      obtain ⟨v, h1, h2⟩ := rx.get' z
      exact ⟨a, xs, v, rfl, rfl, hx, by rw [rx.length]; exact h1, q v _ h2 rx.dropLast⟩
def mPopAt : List D → List D → Option (D × List D) := fun ds es => match es with
  | [.int i] => if in63 i then match seqIndex? i ds.length with
    | some k => (ds[k]?).map fun d => (d, ds.eraseIdx k)
    | none => none
    else none
  | _ => none
theorem in63_ok {i : Int} (h : in63 i = true) : -(2 ^ 63) ≤ i ∧ i < 2 ^ 63 := by
  obtain ⟨a, b⟩ := Bool.and_eq_true_iff.mp h
  exact ⟨of_decide_eq_true a, of_decide_eq_true b⟩
theorem sm_popAt {K : PySem.W.Frag} : SemM K rPopAt mPopAt := fun F H a xs ds vs es d ds' Q s hx rx rv e q => by
  unfold mPopAt at e
  split at e
  · rename_i i
    split at e
    · rename_i hi
      obtain ⟨l1, l2⟩ := in63_ok hi
      split at e
      · rename_i k hk
        cases z : ds[k]? with
        | none => rw [z] at e; cases e
        | some y =>
          rw [z] at e
          cases e
          obtain ⟨v, h1, h2⟩ := rx.get' z
          cases rv with
          | cons r1 r2 =>
            cases r1
            cases r2
            exact ⟨a, xs, i, k, v, rfl, rfl, hx, l1, l2, by rw [rx.length]; exact hk, h1, q v _ h2 (rx.eraseIdx k)⟩
      · cases e
    · cases e
  · cases e
def mReverse : List D → List D → Option (D × List D) := fun ds es => match es with
  | [] => some (.non, ds.reverse)
  | _ => none
theorem sm_reverse {K : PySem.W.Frag} : SemM K rReverse mReverse := fun F H a xs ds vs es d ds' Q s hx rx rv e q => by
  cases rv with
  | cons _ _ => cases e
  | nil => cases e; exact ⟨a, xs, rfl, rfl, hx, q _ _ .non rx.reverse⟩
/-! ### x[e] = e of a name's own list -/
def putAt (i : Nat) (d : D) (o : Opd) (ρ : Ev) : Option Ev := match o with
  | .vl (.int k) => match ρ[i]? with
    | some (.ow (.lst ds)) => (ixN ds.length k).map fun j => ρ.set i (.ow (.lst (ds.set j d)))
    | _ => none
  | _ => none
def cSetIx (i : Nat) (f : Ev → Res D) (fi : CEx) : CSt := fun ρ => (f ρ).sbind fun d ρ1 => match ρ1[i]? with
  | some (.ow _) => (fi ρ1).sbind fun o ρ2 => optS (putAt i d o ρ2)
  | _ => .stk
section
variable {X : Cx} {W : WX} {P : List Nat} {a b e : Expr} {fa fb fe : CEx} {f : Ev → Res D} {p pos tpos : Pos} {x : Str}
theorem put_ok {i : Nat} {d : D} {o : Opd} {K : PySem.W.Frag} {F H : Hp} {ρ ρ' : Ev} {σ : St} {k v : V} {Q : Hp → Prop} {c : Addr} (s : RS K F ρ σ H) (hc : σ[i]? = some (some (.ref c))) (rv : Rp K F v d) {H0 : Hp} (ro : OR K F ρ σ H0 H k o) (e : putAt i d o ρ = some ρ')
    (q : ∀ H', RS K F ρ' σ H' → Fr F ρ σ H F ρ' σ H' → Q H') : rSetL (.ref c) k v H Q := by
  unfold putAt at e
  split at e
  · rename_i k
    split at e
    · rename_i ds hj
      cases z : ixN ds.length k with
      | none => rw [z] at e; cases e
      | some j =>
        rw [z] at e
        cases e
        obtain ⟨a', ha', n, xs, hx, rx⟩ := s.ow i _ hj
        rw [hc] at ha'
        cases ha'
        cases ro
        exact ⟨c, xs, k, j, rfl, rfl, hx, by rw [rx.length]; exact z, q _ (s.own hj hc rfl ⟨_, upd_same, rx.set j rv⟩) (Fr.own s hj hc rfl ⟨_, upd_same, rx.set j rv⟩)⟩
    · cases e
  · cases e
theorem js_setIx (i : Nat) (he : JV X W e f) (hb : JE X W b fb)
    (hN : X.N[i]? = some x := by rfl) (hv : Vis X.env.scope x := by first | exact Or.inl rfl | exact Or.inr (Or.inl rfl) | exact Or.inr (Or.inr rfl)) (hd : (x == ("__debug__" : Str)) = false := by decide) (hcd : (x == ("__classdict__" : Str)) = false := by decide)
    (ha : ∀ v, assign (.Subscript (.Name x p) b tpos) X.env v = (do
      let ov ← holding [v] (eval (.Name x p) X.env)
      let iv ← holding [v, ov] (eval b X.env)
      standAt tpos
      holding [v, ov, iv] (setItem ov iv v)
      release [v, ov, iv] []) := by intro _; rfl)
    (hs : swapsWithSole [.Subscript (.Name x p) b tpos] e pos.line X.env = pure false := by rfl) (hw : swappedStores [.Subscript (.Name x p) b tpos] e X.env = pure none := by rfl) (h1 : (assignEach [.Subscript (.Name x p) b tpos] X.env).map (·.2) = [assign (.Subscript (.Name x p) b tpos) X.env] := by rfl) :
    JS X W P (.Assign [.Subscript (.Name x p) b tpos] e pos) (cSetIx i f fb) :=
  .by (ps_asg he.pe (pg_sub (pe_var (i := i) hN hv hd hcd) hb.pe set_list ha) hs hw h1) fun D σ H F ρ s p => ⟨F, ρ, s, by
    unfold cSetIx at p
    refine Ps.ebind p fun d ρ1 v F1 H1 s1 b1 r1 p1 => ?_
    split at p1
    · rename_i d0 hj
      obtain ⟨c, e1, n, w⟩ := s1.ow i _ hj
      refine ⟨.ref c, e1, F1, ρ1, s1, Ps.ebind p1 fun o ρ2 k F2 H2 s2 b2 r2 p2 => ?_⟩
      cases q : putAt i d o ρ2 with
      | none => rw [q] at p2; exact p2.elim
      | some ρ3 =>
        rw [q] at p2
        exact put_ok s2 e1 (Rp.mono b2.ext r1) r2 q fun H' s3 b3 => p2 σ F2 H' s3 b3 (Pin.refl _ _)
    · exact p1.elim⟩
theorem get_list : PGet X (rIxL X.K) := by
  intro pins s σ H x y v u Q I rx ry h
  obtain ⟨p, xs, i, z, rfl, rfl, hq, he, q⟩ := h
  cases rx
  obtain ⟨t, rfl⟩ := ry
  obtain ⟨its, r, pl, hz⟩ := I.list hq
  obtain ⟨j, h1, h2, h3, h4, h5⟩ := atI_get he
  obtain ⟨w, ew, rw'⟩ := r.get h2
  have hl := r.length
  have hn := line63
  have fin : EP X pins σ Q w s := ⟨z, H, I, rw', q⟩
  by_cases h0 : 0 ≤ i
  · have hj : i.toNat = j := by
      rw [seqIndex_of h0 h5] at h1
      exact Option.some.inj h1
    exact wpAny_getItem_list pl.isList h0 (by omega) (by rw [hj]; simpa using ew) fin
  · have hj : (i + (its.toArray.size : Int)).toNat = j := by
      rw [seqIndex_neg (by omega) h4] at h1
      rw [List.size_toArray, ← hl]
      exact Option.some.inj h1
    exact wpAny_getItem_list_neg pl.isList (by omega) (by rw [List.size_toArray] <;> omega) (by omega) (by rw [hj]; simpa using ew) fin
/-- x[e] op= e -/
def getAt (i : Nat) (o : Opd) (ρ : Ev) : Option D := match o with
  | .vl (.int k) => match ρ[i]? with
    | some (.ow (.lst ds)) => atI ds k
    | _ => none
  | _ => none
def cAugIx (i : Nat) (g : D → D → Option Opd) (fi fe : CEx) : CSt := fun ρ => match ρ[i]? with
  | some (.ow _) => (fi ρ).sbind fun o ρ1 => match getAt i o ρ1 with
    | some x => (fe ρ1).sbind fun oe ρ2 => match useO ρ2 oe with
      | some y => match g x y with
        | some (.vl z) => optS (putAt i z o ρ2)
        | _ => .stk
      | none => .stk
    | none => .stk
  | _ => .stk
theorem js_augIx (i : Nat) {op : Operator} {r : R2} {g : D → D → Option Opd} (ho : OpR X (inplaceOp op) r) (sm : Sem2 X.K r g) (hb : JE X W b fb) (he : JE X W e fe)
    (hN : X.N[i]? = some x := by rfl) (hv : Vis X.env.scope x := by first | exact Or.inl rfl | exact Or.inr (Or.inl rfl) | exact Or.inr (Or.inr rfl)) (hd : (x == ("__debug__" : Str)) = false := by decide) (hcd : (x == ("__classdict__" : Str)) = false := by decide)
    (ha : ∀ ov iv new, augStore b ov iv new = (do holding [new, ov, iv] (setItem ov iv new); release [new, ov, iv] []; pure .next) := by intros; rfl) :
    JS X W P (.AugAssign (.Subscript (.Name x p) b tpos) op e pos) (cAugIx i g fb fe) :=
  .by (ps_augS (pe_var (i := i) hN hv hd hcd) hb.pe get_list he.pe ho set_list ha) fun D σ H F ρ s p => by
    unfold cAugIx at p
    split at p
    · rename_i d0 hj
      obtain ⟨c, e1, n, w⟩ := s.ow i _ hj
      refine ⟨.ref c, e1, F, ρ, s, Ps.ebind p fun o ρ1 k F1 H1 s1 b1 r1 p1 => ?_⟩
      cases q1 : getAt i o ρ1 with
      | none => rw [q1] at p1; exact p1.elim
      | some dx =>
        rw [q1] at p1
        have hget : ∃ kk ds xs v, o = .vl (.int kk) ∧ k = .int kk ∧ ρ1[i]? = some (.ow (.lst ds)) ∧ H1 c = some (.lst xs) ∧ Rps X.K F1 xs ds ∧ atI xs kk = some v ∧ Rp X.K F1 v dx := by
          unfold getAt at q1
          split at q1
          · rename_i kk
            split at q1
            · rename_i ds hj1
              obtain ⟨a', ha', n, xs, hx, rx⟩ := s1.ow i _ hj1
              rw [e1] at ha'
              cases ha'
              obtain ⟨v, h1, h2⟩ := atI_rps rx q1
              cases r1
              exact ⟨kk, ds, xs, v, rfl, rfl, hj1, hx, rx, h1, h2⟩
            · cases q1
          · cases q1
        obtain ⟨kk, ds, xs, v, rfl, rfl, hj1, hx, rx, hat, rv⟩ := hget
        refine ⟨c, xs, kk, v, rfl, rfl, .of hx, hat, F1, ρ1, s1, Ps.ebind p1 fun oe ρ2 y F2 H2 s2 b2 r2 p2 => ?_⟩
        cases q2 : useO ρ2 oe with
        | none => rw [q2] at p2; exact p2.elim
        | some dy =>
          rw [q2] at p2
          dsimp only at p2
          cases q3 : g dx dy with
          | none => rw [q3] at p2; exact p2.elim
          | some oz =>
            rw [q3] at p2
            cases oz with
            | pl _ => exact p2.elim
            | fr _ => exact p2.elim
            | vl dz =>
              dsimp only at p2
              refine sm W F2 ρ2 σ H2 v y dx dy (.vl dz) _ s2 (.inl (rv.mono b2.ext)) (.of s2 r2 q2) q3 fun z F3 H3 s3 b3 r3 => ?_
              cases q4 : putAt i dz (.vl (.int kk)) ρ2 with
              | none => rw [q4] at p2; exact p2.elim
              | some ρ3 =>
                rw [q4] at p2
                exact put_ok (H0 := H3) s3 e1 r3 (o := .vl (.int kk)) (Rp.int kk) q4 fun H' s4 b4 => p2 σ F3 H' s4 (b3.trans b4) (Pin.refl _ _)
    · exact p.elim
/-- what a name gets, but not what another name holds -/
def setN (i : Nat) (o : Opd) (ρ : Ev) : Option Ev := match o with
  | .pl _ => none
  | o => setC i o ρ
/-- name op= e, by values -/
def cAug (i : Nat) (g : D → D → Option Opd) (fe : CEx) : CSt := fun ρ => match ρ[i]? with
  | some (.fz x) => (fe ρ).sbind fun oe ρ1 => match useO ρ1 oe with
    | some y => match g x y with
      | some o => optS (setN i o ρ1)
      | none => .stk
    | none => .stk
  | _ => .stk
theorem js_aug (i : Nat) {op : Operator} {r : R2} {g : D → D → Option Opd} (hN : X.N.Nodup) (ho : OpR X (inplaceOp op) r) (sm : Sem2 X.K r g) (he : JE X W e fe) (hP : i ∉ P := by decide) (hi : X.N[i]? = some x := by rfl) (hx : Loc X.env.scope x := by first | exact .inl rfl | exact .inr rfl)
    (hf : X.fn x = true ∨ X.env.scope.names.lookup x = some .local := by first | exact .inl rfl | exact .inr rfl | assumption) : JS X W P (.AugAssign (.Name x tpos) op e pos) (cAug i g fe) :=
  .by (ps_aug hN hi hx he.pe ho hf) fun D σ H F ρ s p => by
    unfold cAug at p
    split at p
    · rename_i dx hj
      obtain ⟨v, e1, rv⟩ := s.fz i _ hj
      refine ⟨v, e1, F, ρ, s, Ps.ebind p fun oe ρ1 y F1 H1 s1 b1 r1 p1 => ?_⟩
      cases q2 : useO ρ1 oe with
      | none => rw [q2] at p1; exact p1.elim
      | some dy =>
        rw [q2] at p1
        dsimp only at p1
        cases q3 : g dx dy with
        | none => rw [q3] at p1; exact p1.elim
        | some oz =>
          rw [q3] at p1
          dsimp only at p1
          refine sm W F1 ρ1 σ H1 v y dx dy oz _ s1 (.inl (rv.mono b1.ext)) (.of s1 r1 q2) q3 fun z F3 H3 s3 b3 r3 => ?_
          have hn : isNew oz := by
            cases oz with
            | pl _ => exact p1.elim
            | _ => trivial
          have p1 : Ps X.K W P F1 ρ1 σ H1 D (optS (setC i oz ρ1)) := by cases oz <;> first | exact p1 | exact hn.elim
          cases q4 : setC i oz ρ1 with
          | none => rw [q4] at p1; exact p1.elim
          | some ρ3 =>
            rw [q4] at p1
            obtain ⟨s4, b4⟩ := set_new hn s3 b3 r3 q4
            exact p1 _ F3 H3 s4 b4 fun j hj => List.getElem?_set_ne fun z => hP (by rw [z]; exact hj)
    · exact p.elim
/-! ### a, b = x, y -/
/-- both values are let go, or new containers -/
def set2 (i j : Nat) (oa ob : Opd) (ρ : Ev) : Option Ev := match oa, ob with
  | .pl _, _ => none
  | _, .pl _ => none
  | oa, ob => (setC i oa ρ).bind fun ρ1 => setC j ob ρ1
def cPar (i j : Nat) (fa fb : CEx) : CSt := fun ρ => (fa ρ).sbind fun oa ρ1 => (fb ρ1).sbind fun ob ρ2 => optS (set2 i j oa ob ρ2)
/-- a value let go, as an operand -/
def cFz (f : Ev → Res D) : CEx := fun ρ => (f ρ).bind fun d ρ' => .ok (.vl d) ρ'
theorem JV.op (h : JV X W e f) : JE X W e (cFz f) := .by h.pe fun σ H Q F ρ s p => ⟨F, ρ, s, p.bind (fun _ _ _ _ _ _ b => OR.dom b) fun d ρ' v F' H' s' b' r' p' => p'.here s' r'⟩
end
section
variable {K : PySem.W.Frag} {W : WX} {P : List Nat} {F F0 H H0 : Hp} {ρ ρ0 : Ev} {σ σ0 : St}
theorem OS.set {i : Nat} {o : Opd} {v : V} {ρ' : Ev} {a : Addr} (hn : isNew o) (e : setC i o ρ = some ρ') (h : OS ρ' (σ.set i (some v)) H a) : OS ρ σ H a ∨ ∃ d t, o = .fr d ∧ v = .ref t ∧ In H t d a := by
  obtain ⟨j, x, t, h1, h2, h3⟩ := h
  by_cases z : j = i
  · subst z
    have hl : j < σ.length := by
      have := (List.getElem?_eq_some_iff.mp h2).1
      rw [List.length_set] at this
      exact this
    rw [List.getElem?_set_self hl] at h2
    cases h2
    cases o with
    | vl d => cases e; rcases getElem?_set_some h1 with ⟨_, q⟩ | ⟨q, _⟩; cases q; exact absurd rfl q
    | fr d =>
      cases e
      rcases getElem?_set_some h1 with ⟨_, q⟩ | ⟨q, _⟩
      · cases q; exact .inr ⟨x, t, rfl, rfl, h3⟩
      · exact absurd rfl q
    | pl j => exact hn.elim
  · rw [List.getElem?_set_ne (Ne.symm z)] at h2
    refine .inl ⟨j, x, t, ?_, h2, h3⟩
    cases o with
    | vl d => cases e; rw [List.getElem?_set_ne (Ne.symm z)] at h1; exact h1
    | fr d => cases e; rw [List.getElem?_set_ne (Ne.symm z)] at h1; exact h1
    | pl j => exact hn.elim
theorem OR.set {i : Nat} {o o2 : Opd} {v v2 : V} {ρ' : Ev} {H1 : Hp} (hn : isNew o) (hn2 : isNew o2) (e : setC i o ρ = some ρ') (h : OR K F ρ σ H0 H v o) (h2 : OR K F ρ σ H1 H v2 o2) (old : ∀ d t c, o = .fr d → v = .ref t → In H t d c → H1 c ≠ none) : OR K F ρ' (σ.set i (some v)) H1 H v2 o2 := by
  cases o2 with
  | vl d => exact h2
  | fr d =>
    obtain ⟨a, rfl, nn, w⟩ := h2
    refine ⟨a, rfl, fun c hc => ⟨(nn c hc).1, (nn c hc).2.1, fun z => ?_⟩, w⟩
    rcases OS.set hn e z with z | ⟨d', t, e1, e2, e3⟩
    · exact (nn c hc).2.2 z
    · exact old d' t c e1 e2 e3 (nn c hc).2.1
  | pl j => exact hn2.elim
end
section
variable {X : Cx} {W : WX} {P : List Nat} {a b e : Expr} {fa fb fe : CEx} {f : Ev → Res D} {p pos tpos : Pos} {x : Str}
theorem js_par (i j : Nat) {x y : Str} {px py pt : Pos} {kt k2 pt2} (hc : X.calm = true) (hN : X.N.Nodup) (ha : JE X W a fa) (hb : JE X W b fb)
    (hw : swappedStores [.Tuple [.Name x px, .Name y py] kt pt] (.Tuple [a, b] k2 pt2) X.env = pure (some [x, y])) (hi : X.N[i]? = some x := by rfl) (hj : X.N[j]? = some y := by rfl) (hij : i ≠ j := by decide) (hPi : i ∉ P := by decide) (hPj : j ∉ P := by decide)
    (hx : X.env.scope.names.lookup x = some .local := by rfl) (hy : X.env.scope.names.lookup y = some .local := by rfl)
    (hs : swapsWithSole [.Tuple [.Name x px, .Name y py] kt pt] (.Tuple [a, b] k2 pt2) pos.line X.env = pure false := by rfl) (hs1 : starEach [a, b] X.env = (false, eval a X.env) :: starEach [b] X.env := by rfl) (hs2 : starEach [b] X.env = (false, eval b X.env) :: starEach [] X.env := by rfl) :
    JS X W P (.Assign [.Tuple [.Name x px, .Name y py] kt pt] (.Tuple [a, b] k2 pt2) pos) (cPar i j fa fb) :=
  .by (ps_par hc hN hi hj hij hx hy (pa_cons ha.pe (pa_cons hb.pe pa_nil hs2) hs1) hw hs) fun D σ H F ρ s p => ⟨F, ρ, s, by
    unfold cPar at p
    cases qa : fa ρ with
    | stk => rw [qa] at p; exact p
    | ex c d ρ' => rw [qa] at p; exact fun dx v F' H' s' r' => p dx v σ F' H' s' r' (Pin.refl _ _)
    | ok oa ρ1 =>
      rw [qa] at p
      intro v F1 H1 s1 b1 r1
      refine ⟨F1, ρ1, s1, ?_⟩
      have p1 : Ps X.K W P F ρ σ H D ((fb ρ1).sbind fun ob ρ2 => optS (set2 i j oa ob ρ2)) := p
      cases qb : fb ρ1 with
      | stk => rw [qb] at p1; exact p1
      | ex c d ρ' => rw [qb] at p1; exact fun dx v F' H' s' r' => p1 dx v σ F' H' s' (b1.trans r') (Pin.refl _ _)
      | ok ob ρ2 =>
        rw [qb] at p1
        intro w F2 H2 s2 b2 r2
        refine ⟨v, w, rfl, ?_⟩
        have p2 : Ps X.K W P F ρ σ H D (optS (set2 i j oa ob ρ2)) := p1
        have ha : isNew oa := by
          cases oa with
          | pl _ => exact p2.elim
          | _ => trivial
        have hb : isNew ob := by
          cases oa <;> cases ob <;> first
            | exact p2.elim
            | trivial
        have e : set2 i j oa ob ρ2 = (setC i oa ρ2).bind fun ρ1 => setC j ob ρ1 := by cases oa <;> cases ob <;> first | exact ha.elim | exact hb.elim | rfl
        rw [e] at p2
        cases q1 : setC i oa ρ2 with
        | none => rw [q1] at p2; exact p2.elim
        | some ρ3 =>
          rw [q1] at p2
          have p3 : Ps X.K W P F ρ σ H D (optS (setC j ob ρ3)) := p2
          cases q2 : setC j ob ρ3 with
          | none => rw [q2] at p3; exact p3.elim
          | some ρ4 =>
            rw [q2] at p3
            have r1 : OR X.K F1 ρ1 σ H H1 v oa := r1
            have r2 : OR X.K F2 ρ2 σ H1 H2 w ob := r2
            have r1' : OR X.K F2 ρ2 σ H H2 v oa := OR.step r1 b2
            obtain ⟨s3, b3⟩ := set_new ha s2 (b1.trans b2) r1' q1
            have r2' := OR.set ha hb q1 r1' r2 fun d t c e1 e2 hc => by
              subst e1
              obtain ⟨a', e3, nn3, w3⟩ := r1
              rw [e2] at e3
              cases e3
              exact w3.there (In.keep w3 (fun c hc => (nn3 c hc).2.2) b2 hc)
            obtain ⟨s4, b4⟩ := set_new hb s3 b3 (OR.backS (fun a z => b1.dom a z) r2') q2
            refine p3 _ F2 H2 s4 b4 fun k hk => ?_
            rw [List.getElem?_set_ne (fun (z : j = k) => hPj (by rw [z]; exact hk)), List.getElem?_set_ne (fun (z : i = k) => hPi (by rw [z]; exact hk))]⟩
/-- (a, b, ..) = a tuple or a list of that length -/
def gSq (n : Nat) (h : List D → Ev → Option Ev) : D → Ev → Option Ev := fun d ρ => match seqOf d with
  | some ds => if ds.length = n then h ds ρ else none
  | none => none
theorem PG.or {e : Expr} {t t' : TG} (h : PG X e t) (h' : PG X e t') : PG X e (fun v σ H Q => t v σ H Q ∨ t' v σ H Q) := ⟨fun pins s σ H v u Q I r q => q.elim (h.run pins s σ H v u Q I r) (h'.run pins s σ H v u Q I r)⟩
theorem jg_seq {es : List Expr} {ts : List Nat} {h : List D → Ev → Option Ev} {k n : Nat} (hc : X.calm = true) (h1 : JGs X es ts h) (hn : (assignEach es X.env).length = n := by rfl) (hst : (assignEach es X.env).findIdx? (·.1) = none := by rfl) : JG X (.Tuple es k pos) ts (gSq n h) :=
  ⟨PG.weak (PG.or (pg_tup hc h1.pgs hn hst) (pg_lst hc h1.pgs hn hst)) fun v σ H Q q => by
    obtain ⟨F, ρ, d, ρ', s, r, e, c⟩ := q
    unfold gSq at e
    cases qs : seqOf d with
    | none => rw [qs] at e; cases e
    | some ds =>
      rw [qs] at e
      have e' : (if ds.length = n then h ds ρ else none) = some ρ' := e
      by_cases hl : ds.length = n
      · rw [if_pos hl] at e'
        cases r with
        | tup hq r => cases qs; exact .inl ⟨_, _, rfl, s.sub.t (.inl (.inl hq)), r.length.trans hl, F, ρ, ds, ρ', s, r, e', c⟩
        | lst hq r => cases qs; exact .inr ⟨_, _, rfl, .of (s.sub _ _ hq), r.length.trans hl, F, ρ, ds, ρ', s, r, e', c⟩
        | scr hq r => cases qs; exact .inr ⟨_, _, rfl, s.sub.l hq, r.length.trans hl, F, ρ, ds, ρ', s, r, e', c⟩
        | _ => cases qs
      · rw [if_neg hl] at e'; cases e'⟩
end
end PL
/-! PL9: methods of values; texts; chains -/
namespace PL
open PySem PySem.Spec L2
open PyProof.Rows (envOfC Subscript_ subscriptTail tail_any)
def tyD (T : String) : D → Bool
  | .str _ => T == "str"
  | .lst _ => T == "list"
  | .scr _ => T == "list"
  | .int _ => T == "int"
  | _ => false
theorem tyD_ok {K : PySem.W.Frag} {F H : Hp} {T : String} {v : V} {d : D} (s : Sub F H) (h : AR K F H v d) (e : tyD T d = true) : tyV K T v H := by
  cases d with
  | str z => rw [h.str]; exact eq_of_beq e
  | int i => rw [h.int]; exact eq_of_beq e
  | lst ds => obtain ⟨a, xs, rfl, hx, _⟩ := h.lst s; exact .inl ⟨eq_of_beq e, xs, .of hx⟩
  | scr ds => obtain ⟨a, xs, rfl, hx, _⟩ := h.scr s; exact .inl ⟨eq_of_beq e, xs, hx⟩
  | _ => cases e
def cM0 (T : String) (g : D → Option Opd) (fa : CEx) : CEx := cOp1 (fun d => if tyD T d = true then g d else none) fa
def cM1 (T : String) (g : D → D → Option Opd) (fa fb : CEx) : CEx := fun ρ => (fa ρ).bind fun oa ρ1 => match useO ρ1 oa with
  | some d => if tyD T d = true then (fb ρ1).bind fun ob ρ2 => f2 g oa ob ρ2 else .stk
  | none => .stk
section
variable {X : Cx} {W : WX} {o e : Expr} {fa fb : CEx} {name : Str} {apos cpos : Pos} {T id : String} {r : V → List V → Hp → VK → Prop}
theorem je_m0 {g : D → Option Opd} (pa : PlainAttrs T) (slot : Slot T name id) (hty : typeOf (.builtin id) = pure (.type "method_descriptor")) (hm : MtR X id r) (sm : Sem1 X.K (fun x H Q => r x [] H Q) g) (ho : JE X W o fa)
    (hbase : attributeBase o name X.env (eval o X.env) = eval o X.env := by rfl) (hline : (apos.endLine == cpos.line) = true := by rfl) : JE X W (.Call (.Attribute o name apos) [] [] cpos) (cM0 T g fa) :=
  .by (pe_bm0 pa slot hty hm ho.pe hbase hline) fun σ H Q F ρ s p => ⟨F, ρ, s, p.bind (fun _ _ _ _ _ _ b => OR.dom b) fun oa ρ1 va F1 H1 s1 b1 r1 p1 => by
    unfold f1 at p1
    cases e1 : useO ρ1 oa with
    | none => rw [e1] at p1; exact p1.elim
    | some x =>
      rw [e1] at p1
      dsimp only at p1
      by_cases hT : tyD T x = true
      · rw [if_pos hT] at p1
        refine ⟨tyD_ok s1.sub (.of s1 r1 e1) hT, ?_⟩
        cases e3 : g x with
        | none => rw [e3] at p1; exact p1.elim
        | some o => rw [e3] at p1; exact sm W F1 ρ1 σ H1 va x o Q s1 (.of s1 r1 e1) e3 p1
      · rw [if_neg hT] at p1; exact p1.elim⟩
theorem je_m1 {g : D → D → Option Opd} (pa : PlainAttrs T) (slot : Slot T name id) (hty : typeOf (.builtin id) = pure (.type "method_descriptor")) (hm : MtR X id r) (sm : Sem2 X.K (fun x y H Q => r x [y] H Q) g) (ho : JE X W o fa) (he : JE X W e fb)
    (hbase : attributeBase o name X.env (eval o X.env) = eval o X.env := by rfl)
    (hfew : ((backTo cpos (starEach (e :: []) X.env)).all (fun x => !x.1) && (backToKw cpos (keywordEach [] X.env)).all (fun x => x.1.isSome)
      && decide ((e :: []).length + ([] : List Keyword).length + (if ([] : List Keyword).isEmpty then 0 else 1) < 30)) = true := by rfl)
    (hline : (apos.endLine == cpos.line) = true := by rfl) (hs : starEach (e :: []) X.env = (false, eval e X.env) :: starEach [] X.env := by rfl) (hplain : (backTo cpos (starEach [] X.env)).any (·.1) = false := by rfl) :
    JE X W (.Call (.Attribute o name apos) [e] [] cpos) (cM1 T g fa fb) :=
  .by (pe_bm pa slot hty hm ho.pe (pa_cons he.pe pa_nil hs) hbase hfew hline hs hplain) fun σ H Q F ρ s p => ⟨F, ρ, s, p.bind (fun _ _ _ _ _ _ b => OR.dom b) fun oa ρ1 va F1 H1 s1 b1 r1 p1 => by
    cases e1 : useO ρ1 oa with
    | none => rw [e1] at p1; exact p1.elim
    | some x =>
      rw [e1] at p1
      dsimp only at p1
      by_cases hT : tyD T x = true
      · rw [if_pos hT] at p1
        refine ⟨tyD_ok s1.sub (.of s1 r1 e1) hT, F1, ρ1, s1, p1.bind (fun _ _ _ _ _ _ b => OR.dom b) fun ob ρ2 vb F2 H2 s2 b2 r2 p2 => ?_⟩
        have r1' := r1.step b2
        unfold f2 at p2
        cases e1 : useO ρ2 oa with
        | none => rw [e1] at p2; exact p2.elim
        | some x =>
          cases e2 : useO ρ2 ob with
          | none => rw [e1, e2] at p2; exact p2.elim
          | some y =>
            rw [e1, e2] at p2
            cases e3 : g x y with
            | none => simp only [e3] at p2; exact p2.elim
            | some o =>
              simp only [e3] at p2
              exact sm W F2 ρ2 σ H2 va vb x y o Q s2 (.of s2 r1' e1) (.of s2 r2 e2) e3 p2
      · rw [if_neg hT] at p1; exact p1.elim⟩
end
/-! ### texts of ASCII signs -/
def ascii (s : List Nat) : Bool := s.all (· < 128)
def lo1 (c : Nat) : Nat := if 65 ≤ c ∧ c ≤ 90 then c + 32 else c
def up1 (c : Nat) : Nat := if 97 ≤ c ∧ c ≤ 122 then c - 32 else c
def sw1 (c : Nat) : Nat := if 65 ≤ c ∧ c ≤ 90 then c + 32 else if 97 ≤ c ∧ c ≤ 122 then c - 32 else c
def dMap (h : Nat → Nat) : D → Option Opd := fun d => match d with
  | .str s => if ascii s && decide (s.length ≤ 5592405) then some (.vl (.str (s.map h))) else none
  | _ => none
def dLower := dMap lo1
def dUpper := dMap up1
def dSwap := dMap sw1
theorem ascii_ok {s : List Nat} (h : ascii s = true) : ∀ c ∈ (Str.mk s.toArray).cps.toList, c < 128 := fun c hc => of_decide_eq_true (List.all_eq_true.mp h c (by simpa using hc))
theorem swap_lo : ∀ c, c < 128 → Unicode.isUpper c = true → Unicode.lowerOf c = [sw1 c] := by decide +kernel
theorem swap_up : ∀ c, c < 128 → Unicode.isUpper c = false → Unicode.isLower c = true → Unicode.upperOf c = [sw1 c] := by decide +kernel
theorem swap_no : ∀ c, c < 128 → Unicode.isUpper c = false → Unicode.isLower c = false → sw1 c = c := by decide +kernel
theorem swapcase_ascii {x : Str} (hA : ∀ c ∈ x.cps.toList, c < 128) : Txt.swapcase x = ⟨x.cps.map sw1⟩ := by
  unfold Txt.swapcase
  rw [PyProof.Rows.placed_single x _ sw1 fun i c hc => by
    have hc' : x.cps[i]? = some c := by simpa using hc
    have hlt := hA c (List.mem_of_getElem? hc)
    by_cases h1 : Unicode.isUpper c = true
    · rw [if_pos h1]
      unfold Unicode.lowerAt
      rw [hc']
      have hne : (c == 0x3A3) = false := by rw [beq_eq_false_iff_ne]; omega
      simp only [hne, Bool.false_and, Bool.false_eq_true, if_false]
      exact swap_lo c hlt h1
    · rw [if_neg h1]
      have h1' : Unicode.isUpper c = false := by simpa using h1
      by_cases h2 : Unicode.isLower c = true
      · rw [if_pos h2]; exact swap_up c hlt h1' h2
      · rw [if_neg h2, swap_no c hlt h1' (by simpa using h2)]]
section
variable {K : PySem.W.Frag} {X : Cx}
theorem sm_map {r : V → List V → Hp → VK → Prop} {h : Nat → Nat} (hr : ∀ (s : List Nat) H Q, ascii s = true → s.length ≤ 5592405 → Q (.str ⟨(s.map h).toArray⟩) H → r (.str ⟨s.toArray⟩) [] H Q) : Sem1 K (fun x H Q => r x [] H Q) (dMap h) := fun W F ρ σ H x dx o Q s ax e p => by
  unfold dMap at e
  split at e
  · split at e
    · rename_i z hc
      cases e
      obtain ⟨h1, h2⟩ := Bool.and_eq_true_iff.mp hc
      rw [ax.str]
      exact hr z H Q h1 (of_decide_eq_true h2) (p.here s (.str _))
    · cases e
  · cases e
theorem sm_lower : Sem1 K (fun x H Q => (fun x xs H Q => ∃ a, x = .str a ∧ xs = [] ∧ a.length ≤ 5592405 ∧ Q (.str (Txt.lower a)) H) x ([] : List V) H Q) dLower := sm_map (r := fun x xs H Q => ∃ a, x = .str a ∧ xs = [] ∧ a.length ≤ 5592405 ∧ Q (.str (Txt.lower a)) H) fun s H Q h1 h2 q => ⟨_, rfl, rfl, by rw [str_len]; exact h2, by
  rw [PyProof.Rows.lower_ascii (ascii_ok h1)]
  have e : (Array.map PyProof.Rows.lo1 s.toArray) = (s.map lo1).toArray := by rw [List.map_toArray]; rfl
  rw [e]; exact q⟩
theorem sm_upper : Sem1 K (fun x H Q => (fun x xs H Q => ∃ a, x = .str a ∧ xs = [] ∧ a.length ≤ 5592405 ∧ Q (.str (Txt.upper a)) H) x ([] : List V) H Q) dUpper := sm_map (r := fun x xs H Q => ∃ a, x = .str a ∧ xs = [] ∧ a.length ≤ 5592405 ∧ Q (.str (Txt.upper a)) H) fun s H Q h1 h2 q => ⟨_, rfl, rfl, by rw [str_len]; exact h2, by
  rw [PyProof.Rows.upper_ascii (ascii_ok h1)]
  have e : (Array.map PyProof.Rows.up1 s.toArray) = (s.map up1).toArray := by rw [List.map_toArray]; rfl
  rw [e]; exact q⟩
theorem mt_swapcase : MtR X "str.swapcase" (fun x xs H Q => ∃ a, x = .str a ∧ xs = [] ∧ a.length ≤ 5592405 ∧ Q (.str (Txt.swapcase a)) H) :=
  mt0 (C := fun a => a.length ≤ 5592405) (g := fun a => .str (Txt.swapcase a)) fun a _ s _ hc h =>
    PySem.SC.swapcase (PyProof.Rows.short24 (by have h1 : a.length ≤ 5592405 := hc; have := PyProof.Rows.len_swapcase a; omega)) (h _ (s.toks + 1) ⟨_, rfl⟩)
theorem sm_swap : Sem1 K (fun x H Q => (fun x xs H Q => ∃ a, x = .str a ∧ xs = [] ∧ a.length ≤ 5592405 ∧ Q (.str (Txt.swapcase a)) H) x ([] : List V) H Q) dSwap := sm_map (r := fun x xs H Q => ∃ a, x = .str a ∧ xs = [] ∧ a.length ≤ 5592405 ∧ Q (.str (Txt.swapcase a)) H) fun s H Q h1 h2 q => ⟨_, rfl, rfl, by rw [str_len]; exact h2, by
  rw [swapcase_ascii (ascii_ok h1)]
  have e : (Array.map sw1 s.toArray) = (s.map sw1).toArray := by rw [List.map_toArray]
  rw [e]; exact q⟩
/-- s.isupper(), s.islower() -/
def dIsUp : D → Option Opd := fun d => match d with
  | .str s => if ascii s then some (.vl (.bl (s.any (fun c => decide (65 ≤ c ∧ c ≤ 90)) && !s.any fun c => decide (97 ≤ c ∧ c ≤ 122)))) else none
  | _ => none
def dIsLo : D → Option Opd := fun d => match d with
  | .str s => if ascii s then some (.vl (.bl (s.any (fun c => decide (97 ≤ c ∧ c ≤ 122)) && !s.any fun c => decide (65 ≤ c ∧ c ≤ 90)))) else none
  | _ => none
theorem isUp_ascii : ∀ c, c < 128 → Unicode.isUpper c = decide (65 ≤ c ∧ c ≤ 90) := by decide +kernel
theorem isLo_ascii : ∀ c, c < 128 → Unicode.isLower c = decide (97 ≤ c ∧ c ≤ 122) := by decide +kernel
theorem isTi_ascii : ∀ c, c < 128 → Unicode.isTitle c = false := by decide +kernel
theorem any_ascii {s : List Nat} (h : ascii s = true) {f g : Nat → Bool} (e : ∀ c, c < 128 → f c = g c) : s.any f = s.any g := by
  induction s with
  | nil => rfl
  | cons c s ih =>
    obtain ⟨h1, h2⟩ := Bool.and_eq_true_iff.mp (show (decide (c < 128) && ascii s) = true from h)
    show (f c || s.any f) = (g c || s.any g)
    rw [e c (of_decide_eq_true h1), ih h2]
theorem sm_isupper : Sem1 K (fun x H Q => (fun x xs H Q => ∃ a, x = .str a ∧ xs = [] ∧ True ∧ Q (.bl (Txt.isupper a)) H) x ([] : List V) H Q) dIsUp := fun W F ρ σ H x dx o Q s ax e p => by
  unfold dIsUp at e
  split at e
  · split at e
    · rename_i z hc
      cases e
      rw [ax.str]
      refine ⟨_, rfl, rfl, trivial, ?_⟩
      have e1 : Txt.isupper ⟨z.toArray⟩ = (z.any (fun c => decide (65 ≤ c ∧ c ≤ 90)) && !z.any fun c => decide (97 ≤ c ∧ c ≤ 122)) := by
        show (z.toArray.any Unicode.isUpper && !z.toArray.any fun c => Unicode.isLower c || Unicode.isTitle c) = _
        have a2 : z.any (fun c => Unicode.isLower c || Unicode.isTitle c) = z.any fun c => decide (97 ≤ c ∧ c ≤ 122) := any_ascii hc fun c h => by rw [isLo_ascii c h, isTi_ascii c h, Bool.or_false]
        rw [List.any_toArray, List.any_toArray, any_ascii hc isUp_ascii, a2]
      rw [e1]
      exact p.here s (.bl _)
    · cases e
  · cases e
theorem sm_islower : Sem1 K (fun x H Q => (fun x xs H Q => ∃ a, x = .str a ∧ xs = [] ∧ True ∧ Q (.bl (Txt.islower a)) H) x ([] : List V) H Q) dIsLo := fun W F ρ σ H x dx o Q s ax e p => by
  unfold dIsLo at e
  split at e
  · split at e
    · rename_i z hc
      cases e
      rw [ax.str]
      refine ⟨_, rfl, rfl, trivial, ?_⟩
      have e1 : Txt.islower ⟨z.toArray⟩ = (z.any (fun c => decide (97 ≤ c ∧ c ≤ 122)) && !z.any fun c => decide (65 ≤ c ∧ c ≤ 90)) := by
        show (z.toArray.any Unicode.isLower && !z.toArray.any fun c => Unicode.isUpper c || Unicode.isTitle c) = _
        have a2 : z.any (fun c => Unicode.isUpper c || Unicode.isTitle c) = z.any fun c => decide (65 ≤ c ∧ c ≤ 90) := any_ascii hc fun c h => by rw [isUp_ascii c h, isTi_ascii c h, Bool.or_false]
        rw [List.any_toArray, List.any_toArray, any_ascii hc isLo_ascii, a2]
      rw [e1]
      exact p.here s (.bl _)
    · cases e
  · cases e
/-! ### join, count -/
def joinL (sep : List Nat) : List (List Nat) → List Nat
  | [] => []
  | [x] => x
  | x :: y :: r => x ++ sep ++ joinL sep (y :: r)
theorem joinL_nil : ∀ xs, joinL [] xs = xs.flatten
  | [] => rfl
  | [x] => by simp [joinL]
  | x :: y :: r => by
    show x ++ [] ++ joinL [] (y :: r) = _
    rw [joinL_nil (y :: r), List.append_nil]
    rfl
def dJoin : D → D → Option Opd := fun x y => match x with
  | .str sep => match (seqOf y).bind strsOf with
    | some xs => if (xs.map (·.length)).sum + xs.length * sep.length ≤ 16777216 then some (.vl (.str (joinL sep xs))) else none
    | none => none
  | _ => none
theorem join_eq (sep : List Nat) : ∀ xs : List (List Nat), Txt.join ⟨sep.toArray⟩ (xs.map fun b => ⟨b.toArray⟩) = ⟨(joinL sep xs).toArray⟩ := fun xs => by
  unfold Txt.join
  rw [StrLaws.glued_eq_join]
  induction xs with
  | nil => rfl
  | cons x xs ih =>
    cases xs with
    | nil => rfl
    | cons y r =>
      rw [List.map_cons, List.map_cons, PyProof.Rows.join_cons_cons]
      rw [List.map_cons] at ih
      rw [ih, str_app, str_app]
      rfl
theorem sm_join : Sem2 K (fun x y H Q => (fun x xs H Q => ∃ a p, ∃ ys : List Str, x = .str a ∧ xs = [.ref p] ∧ (SqL K H p (ys.map V.str) ∨ SqT K H p (ys.map V.str)) ∧
    (ys.map (·.length)).sum + ys.length * a.length ≤ 16777216 ∧ Q (.str (Txt.join a ys)) H) x [y] H Q) dJoin := fun W F ρ σ H x y dx dy o Q s ax ay e p => by
  unfold dJoin at e
  split at e
  · rename_i sep
    split at e
    · rename_i xs hx
      split at e
      · rename_i hc
        cases e
        cases q1 : seqOf dy with
        | none => rw [q1] at hx; cases hx
        | some ds =>
          rw [q1] at hx
          have hx : strsOf ds = some xs := hx
          obtain ⟨a, vs, rfl, hs, r⟩ := ay.seq s.sub q1
          obtain ⟨e1, _⟩ := strsOf_ok r hx
          subst e1
          have em : (xs.map fun b => V.str ⟨b.toArray⟩) = (xs.map fun b => Str.mk b.toArray).map V.str := by rw [List.map_map]; rfl
          rw [em] at hs
          rw [ax.str]
          refine ⟨_, a, _, rfl, rfl, hs, ?_, ?_⟩
          · rw [List.map_map, List.length_map, str_len]
            have e2 : ((fun x : Str => x.length) ∘ fun b : List Nat => Str.mk b.toArray) = fun b => b.length := by funext b; exact str_len b
            rw [e2]
            exact hc
          · rw [join_eq]; exact p.here s (.str _)
      · cases e
    · cases e
  · cases e
theorem je_join {W : WX} {o e : Expr} {fa fb : CEx} {apos cpos : Pos} (ho : JE X W o fa) (he : JE X W e fb)
    (hbase : attributeBase o "join" X.env (eval o X.env) = eval o X.env := by rfl)
    (hfew : ((backTo cpos (starEach (e :: []) X.env)).all (fun x => !x.1) && (backToKw cpos (keywordEach [] X.env)).all (fun x => x.1.isSome)
      && decide ((e :: []).length + ([] : List Keyword).length + (if ([] : List Keyword).isEmpty then 0 else 1) < 30)) = true := by rfl)
    (hline : (apos.endLine == cpos.line) = true := by rfl) (hs : starEach (e :: []) X.env = (false, eval e X.env) :: starEach [] X.env := by rfl) (hplain : (backTo cpos (starEach [] X.env)).any (·.1) = false := by rfl) :
    JE X W (.Call (.Attribute o "join" apos) [e] [] cpos) (cM1 "str" dJoin fa fb) := je_m1 PySem.F.plainAttrs_str PySem.F.slot_str_join PySem.F.type_str_join mt_join sm_join ho he hbase hfew hline hs hplain
/-- s.count of one sign -/
def dCount : D → D → Option Opd := fun x y => match x, y with
  | .str s, .str [c] => some (.vl (.int (s.count c : Nat)))
  | _, _ => none
theorem cnt_eq (c : Nat) : ∀ s : List Nat, PyProof.Rows.cnt c s = (s.count c : Nat)
  | [] => rfl
  | n :: r => by
    rw [PyProof.Rows.cnt_cons, cnt_eq c r, List.count_cons]
    by_cases h : n = c
    · subst h; simp; omega
    · have : (n == c) = false := beq_eq_false_iff_ne.mpr h
      rw [if_neg h, this]; simp
theorem sm_count : Sem2 K (fun x y H Q => (fun x xs H Q => ∃ a b, x = .str a ∧ xs = [.str b] ∧ Q (.int (Txt.count a b)) H) x [y] H Q) dCount := fun W F ρ σ H x y dx dy o Q s ax ay e p => by
  unfold dCount at e
  split at e
  · rename_i z c
    cases e
    rw [ax.str, ay.str]
    refine ⟨_, _, rfl, rfl, ?_⟩
    rw [PyProof.Rows.count_cnt, cnt_eq]
    exact p.here s (.int _)
  · cases e
/-! ### text * int -/
theorem mul_eq (a : List Nat) (k : Int) : Txt.mul ⟨a.toArray⟩ k = ⟨(repL a k).toArray⟩ := by
  unfold Txt.mul repL
  by_cases h : k < 1
  · rw [if_pos h]
    have : k.toNat = 0 := by omega
    rw [this]
    rfl
  · rw [if_neg h]
    by_cases h2 : (k == 1 || (Str.mk a.toArray).length == 0) = true
    · rw [if_pos h2]
      rcases Bool.or_eq_true_iff.mp h2 with h3 | h3
      · have : k = 1 := eq_of_beq h3
        subst this
        simp
      · have : a.length = 0 := by have := eq_of_beq h3; rwa [str_len] at this
        have : a = [] := List.length_eq_zero_iff.mp this
        subst this
        simp
    · rw [if_neg h2]
      have go : ∀ (n : Nat) (acc : List Nat), (List.replicate n a.toArray).foldl (· ++ ·) acc.toArray = (acc ++ (List.replicate n a).flatten).toArray := by
        intro n
        induction n with
        | zero => intro acc; simp
        | succ n ih =>
          intro acc
          rw [List.replicate_succ, List.foldl_cons]
          have e : acc.toArray ++ a.toArray = (acc ++ a).toArray := by simp
          rw [e, ih, List.replicate_succ, List.flatten_cons, List.append_assoc]
      have := go k.toNat []
      simp only [List.nil_append] at this
      exact congrArg Str.mk this
theorem op_repS : OpR X (binaryOp .Mult) rRepS := by
  intro pins s σ H x y v u Q I rx ry h
  obtain ⟨a, k, rfl, rfl, h63, hz, q⟩ := h
  obtain ⟨t, rfl⟩ := rx
  obtain ⟨t', rfl⟩ := ry
  obtain ⟨h1, h2⟩ := Bool.and_eq_true_iff.mp h63
  have h1 : -(2 ^ 63) ≤ k := of_decide_eq_true h1
  have h2 : k < 2 ^ 63 := of_decide_eq_true h2
  refine PySem.SB.mul ⟨?_, fun h3 h4 => ?_, fun h3 h4 => ?_⟩ fun t' k' => ⟨.str _, H, I.tok _, ⟨_, rfl⟩, by rw [mul_eq]; exact q⟩
  · rw [decide_eq_false (by omega), decide_eq_false (by omega)]; rfl
  · rw [str_len]
    intro h5
    have hk : 0 < k := by omega
    have h6 : ((2 ^ 63 - 1) / k) * k < (a.length : Int) * k := Int.mul_lt_mul_of_pos_right h5 hk
    have h7 : (2 ^ 63 - 1 : Int) < ((2 ^ 63 - 1) / k + 1) * k := Int.lt_ediv_add_one_mul_self _ hk
    have h8 : ((2 ^ 63 - 1) / k + 1) * k ≤ (a.length : Int) * k := Int.mul_le_mul_of_nonneg_right (by omega) (by omega)
    have h9 : ((a.length * k.toNat : Nat) : Int) = (a.length : Int) * k := by rw [Int.natCast_mul, Int.toNat_of_nonneg (by omega)]
    have h10 : sizeLine < 2 ^ 62 := by decide
    have : ((a.length * k.toNat : Nat) : Int) < 2 ^ 62 := by omega
    omega
  · unfold Builtin.Str.tooLong
    rw [str_len]
    exact decide_eq_false (by omega)
theorem op_dMul : OpR X (binaryOp .Mult) (fun x y H Q => rI CMul (fun i j => .int (i * j)) x y H Q ∨ (fun x y H Q => rRep x y H Q ∨ rRepS x y H Q) x y H Q) := L2.op_mul.or (op_rep.or op_repS)
theorem sm_dMul : Sem2 K (fun x y H Q => rI CMul (fun i j => .int (i * j)) x y H Q ∨ (fun x y H Q => rRep x y H Q ∨ rRepS x y H Q) x y H Q) dMul :=
  sm_or (sm_II (fun a b => .int (a * b)) (fun _ _ _ => .int _) fun a b H Q hc h => ⟨a, b, rfl, rfl, mulOk_ok hc, h⟩) (sm_or sm_repL sm_repS)
end
/-! ### a op b op c -/
def cChain (g g' : D → D → Option Opd) (fa fb fc : CEx) : CEx := fun ρ => (fa ρ).bind fun oa ρ1 => (fb ρ1).bind fun ob ρ2 => (f2 g oa ob ρ2).bind fun o ρ3 => match o with
  | .vl (.bl true) => (fc ρ3).bind fun oc ρ4 => f2 g' ob oc ρ4
  | .vl (.bl false) => .ok (.vl (.bl false)) ρ3
  | _ => .stk
section
variable {X : Cx} {W : WX} {a b c : Expr} {fa fb fc : CEx} {pos : Pos}
theorem tChain_ok {r r' : R2} {g g' : D → D → Option Opd} (sm : Sem2 X.K r g) (sm' : Sem2 X.K r' g') {σ : St} {H F : Hp} {Q : VK} {ρ : Ev} (s : RS X.K F ρ σ H) (p : Po X.K W (OR X.K) F ρ σ H Q (cChain g g' fa fb fc ρ)) :
    tChain r r' (tX X.K W fa) (tX X.K W fb) (tX X.K W fc) σ H Q :=
  ⟨F, ρ, s, p.bind (fun _ _ _ _ _ _ b => OR.dom b) fun oa ρ1 va F1 H1 s1 b1 r1 p1 => ⟨F1, ρ1, s1, p1.bind (fun _ _ _ _ _ _ b => OR.dom b) fun ob ρ2 vb F2 H2 s2 b2 r2 p2 => by
    have r1' := r1.step b2
    have p2' : Po X.K W (OR X.K) F2 ρ2 σ H2 (fun z H3 => ∃ k, z = .bl k ∧ (if k = true then tX X.K W fc σ H3 fun w' H4 => r' vb w' H4 Q else Q (.bl false) H3)) (f2 g oa ob ρ2) := p2.bind (fun _ _ _ _ _ _ b => OR.dom b) fun o ρ3 v3 F3 H3 s3 b3 r3 p3 => by
      cases o with
      | vl d =>
        cases d with
        | bl k =>
          have e : v3 = .bl k := by cases r3; rfl
          refine ⟨k, e, ?_⟩
          cases k with
          | false => exact p3.here s3 (.bl false)
          | true =>
            refine ⟨F3, ρ3, s3, p3.bind (fun _ _ _ _ _ _ b => OR.dom b) fun oc ρ4 vc F4 H4 s4 b4 r4 p4 => ?_⟩
            have r2' := (r2.step b3).step b4
            unfold f2 at p4
            cases e1 : useO ρ4 ob with
            | none => rw [e1] at p4; exact p4.elim
            | some x =>
              cases e2 : useO ρ4 oc with
              | none => rw [e1, e2] at p4; exact p4.elim
              | some y =>
                rw [e1, e2] at p4
                cases e3 : g' x y with
                | none => simp only [e3] at p4; exact p4.elim
                | some o =>
                  simp only [e3] at p4
                  exact sm' W F4 ρ4 σ H4 vb vc x y o Q s4 (.of s4 r2' e1) (.of s4 r4 e2) e3 p4
        | _ => exact p3.elim
      | _ => exact p3.elim
    unfold f2 at p2'
    cases e1 : useO ρ2 oa with
    | none => rw [e1] at p2'; exact p2'.elim
    | some x =>
      cases e2 : useO ρ2 ob with
      | none => rw [e1, e2] at p2'; exact p2'.elim
      | some y =>
        rw [e1, e2] at p2'
        cases e3 : g x y with
        | none => simp only [e3] at p2'; exact p2'.elim
        | some o =>
          simp only [e3] at p2'
          exact sm W F2 ρ2 σ H2 va vb x y o _ s2 (.of s2 r1' e1) (.of s2 r2 e2) e3 p2'⟩⟩
theorem je_chain {op op' : CmpOp} {r r' : R2} {g g' : D → D → Option Opd} (ho : OpR X (compareOp op) r) (sm : Sem2 X.K r g) (ho' : OpR X (compareOp op') r') (sm' : Sem2 X.K r' g') (ha : JE X W a fa) (hb : JE X W b fb) (hc : JE X W c fc)
    (hm : lastMarks [op, op'] [b, c] = false := by with_unfolding_all rfl) : JE X W (.Compare a [op, op'] [b, c] pos) (cChain g g' fa fb fc) :=
  .by (pe_chain ho ho' ha.pe hb.pe hc.pe hm) fun _ _ _ _ _ s p => tChain_ok sm sm' s p
theorem jt_chain {op op' : CmpOp} {r r' : R2} {g g' : D → D → Option Opd} (ho : OpR X (compareOp op) r) (sm : Sem2 X.K r g) (ho' : OpR X (compareOp op') r') (sm' : Sem2 X.K r' g') (ha : JE X W a fa) (hb : JE X W b fb) (hc : JE X W c fc)
    (hm : lastMarks [op, op'] [b, c] = false := by with_unfolding_all rfl) : JT X W (.Compare a [op, op'] [b, c] pos) (cTru (cChain g g' fa fb fc)) :=
  .by (pt_chain ho ho' ha.pe hb.pe hc.pe hm) fun σ H Q F ρ s p => by
    have p1 : Po X.K W (OR X.K) F ρ σ H (fun x H' => ∃ k, x = .bl k ∧ Q k H') (cChain g g' fa fb fc ρ) := p.bind (fun _ _ _ _ _ _ _ h => h) fun o ρ' v F' H' s' b' r' p' => by
      cases o with
      | vl d =>
        cases d with
        | bl k =>
          have e : v = .bl k := by cases r'; rfl
          exact ⟨k, e, p'.here s' rfl⟩
        | _ => exact p'.elim
      | _ => exact p'.elim
    exact tChain_ok sm sm' s p1
/-! ### xs[::-1] -/
def dRev : D → Option Opd := fun d => match d with
  | .lst ds => some (.fr (.lst ds.reverse))
  | .scr ds => some (.fr (.lst ds.reverse))
  | .str z => if z.length ≤ sizeLine then some (.vl (.str z.reverse)) else none
  | _ => none
theorem rng_rev (z : List Nat) : ((List.range z.length).map fun k => z.length - 1 - k).filterMap (z.toArray[·]?) = z.reverse := by
  rw [List.filterMap_map]
  refine List.ext_getElem? fun i => ?_
  have key : ∀ n, n ≤ z.length → ((List.range n).filterMap fun k => z[z.length - 1 - k]?) = z.reverse.take n := by
    intro n
    induction n with
    | zero => intro _; simp
    | succ n ih =>
      intro hn
      rw [List.range_succ, List.filterMap_append, ih (by omega)]
      have h1 : z[z.length - 1 - n]? = some z[z.length - 1 - n] := List.getElem?_eq_getElem (by omega)
      rw [List.take_add_one, List.getElem?_reverse (by omega)]
      simp [h1]
  have e : ((fun x => z.toArray[x]?) ∘ fun k => z.length - 1 - k) = fun k => z[z.length - 1 - k]? := by funext k; simp
  rw [e, key z.length (Nat.le_refl _), ← List.length_reverse, List.take_length]
theorem picked_rev (z : List Nat) : (Builtin.Str.strSliceIndices none none (-1) z.length).filterMap (z.toArray[·]?) = z.reverse := by
  unfold Builtin.Str.strSliceIndices
  show (sliceRange ((z.length : Int) - 1) (-1) (-1)).filterMap _ = _
  rw [PySem.W.krv_sliceRange, rng_rev]
theorem pe_revS {e : Expr} {te : TE} {k : Nat} {p1 p2 p3 pos : Pos} (he : PE X e te) : PE X (.Subscript e (.Slice none none (some (.UnaryOp .USub (.Constant (.int 1) k p1) p2)) p3) pos)
    (fun σ H Q => te σ H fun x H1 => ∃ z : List Nat, x = .str ⟨z.toArray⟩ ∧ z.length ≤ sizeLine ∧ Q (.str ⟨z.reverse.toArray⟩) H1) := by
  refine ⟨fun pins s σ H Q I h => ?_⟩
  refine Subscript_ (thn (he.run pins s σ H _ I h) fun v s1 ⟨x, H1, I1, r1, q1⟩ => ?_)
  obtain ⟨z, ex, hz, q⟩ := q1
  subst ex
  obtain ⟨t, rfl⟩ := r1
  have hst : PO X (some (.UnaryOp .USub (.Constant (.int 1) k p1) p2)) (tPart (tUn (rU fun i => .int (-i)) (tC (.int 1)))) := po_some (pe_un un_neg pe_int)
  refine wpAny_Slice (thn (po_none.run pins s1 σ H1 (fun o H2 => o = none ∧ H2 = H1) I1 ⟨rfl, rfl⟩) fun vl s2 ⟨l, H2, I2, pl, el, e2⟩ => ?_)
  subst el e2
  refine thn (po_none.run pins s2 σ H2 (fun o H3 => o = none ∧ H3 = H2) I2 ⟨rfl, rfl⟩) fun vu s3 ⟨u, H3, I3, pu, eu, e3⟩ => ?_
  subst eu e3
  refine thn (hst.run pins s3 σ H3 (fun o H4 => o = some (-1) ∧ H4 = H3) I3 ⟨1, rfl, -1, rfl, rfl, rfl⟩) fun vs s4 ⟨o, H4, I4, ps, eo, e4⟩ => ?_
  subst eo e4
  have I5 : Inv X pins σ H4 { s4 with heap := s4.heap.push { cls := .type "slice", data := .fields #[vl, vu, vs] } } := I4.kept (t' := s4.toks) fun b ob q => Heap.get?_push_of_some _ q
  show wpAny (model X.prog X.w) X.A (subscriptTail e (.Slice none none (some (.UnaryOp .USub (.Constant (.int 1) k p1) p2)) p3) (.str ⟨z.toArray⟩ t) (.ref s4.heap.objs.size)) (EP X pins σ Q) X.xe { s4 with heap := s4.heap.push { cls := .type "slice", data := .fields #[vl, vu, vs] } }
  refine tail_any (ops := [.ref s4.heap.objs.size, .str ⟨z.toArray⟩ t]) (typeIs_str _ _ _) (PySem.F.slot_str_getitem.lookup) ?_ (by with_unfolding_all rfl)
  cases pl
  cases pu
  obtain ⟨tk, rfl⟩ : ∃ tk, vs = Value.int (-1) tk := by cases ps; exact ⟨_, rfl⟩
  refine PySem.wpAny_getItem_str_slice (l := none) (u := none) (st := some (-1, tk)) ⟨_, Heap.get?_push_size _ rfl, rfl, rfl⟩ rfl ?_
  unfold sliceMade
  rw [if_neg (by simp)]
  have e1 : ((slicePicked ⟨z.toArray⟩ none none (some (-1, tk))).filterMap ((Str.mk z.toArray).cps[·]?)) = z.reverse := by
    unfold slicePicked
    rw [str_len]
    exact picked_rev z
  rw [e1]
  exact ⟨by rw [str_len, List.length_reverse]; exact hz, .str ⟨z.reverse.toArray⟩, _, I5.tok _, ⟨_, rfl⟩, q⟩
theorem PE.or {e : Expr} {t t' : TE} (h : PE X e t) (h' : PE X e t') : PE X e (fun σ H Q => t σ H Q ∨ t' σ H Q) := ⟨fun pins s σ H Q I q => q.elim (h.run pins s σ H Q I) (h'.run pins s σ H Q I)⟩
theorem je_rev {e : Expr} {fe : CEx} {k : Nat} {p1 p2 p3 pos : Pos} (he : JE X W e fe) : JE X W (.Subscript e (.Slice none none (some (.UnaryOp .USub (.Constant (.int 1) k p1) p2)) p3) pos) (cOp1 dRev fe) :=
  .by (PE.or (pe_revL he.pe) (pe_revS he.pe)) fun σ H Q F ρ s p => by
    unfold cOp1 at p
    cases q : fe ρ with
    | stk => rw [q] at p; exact p.elim
    | ex c d ρ' => rw [q] at p; exact .inl ⟨F, ρ, s, by rw [q]; exact p⟩
    | ok o ρ1 =>
      rw [q] at p
      have p1 : Po X.K W (OR X.K) F ρ σ H Q (f1 dRev o ρ1) := p
      unfold f1 at p1
      cases e1 : useO ρ1 o with
      | none => rw [e1] at p1; exact p1.elim
      | some x =>
        rw [e1] at p1
        dsimp only at p1
        cases x with
        | str z =>
          by_cases hz : z.length ≤ sizeLine
          · have e2 : dRev (.str z) = some (.vl (.str z.reverse)) := if_pos hz
            rw [e2] at p1
            exact .inr ⟨F, ρ, s, by
              rw [q]
              exact fun v F1 H1 s1 b1 r1 => ⟨z, (AR.of s1 r1 e1).str, hz, p1 _ F1 H1 s1 b1 (.str _)⟩⟩
          · have e2 : dRev (.str z) = none := if_neg hz
            rw [e2] at p1; exact p1.elim
        | lst ds => exact .inl ⟨F, ρ, s, by
            rw [q]
            intro v F1 H1 s1 b1 r1
            obtain ⟨a, xs, rfl, h, r⟩ := (AR.of s1 r1 e1).lst s1.sub
            exact ⟨a, xs, rfl, .of h, fun pq hq => PoX.newL s1 (PoX.from b1 p1) hq r.reverse⟩⟩
        | scr ds => exact .inl ⟨F, ρ, s, by
            rw [q]
            intro v F1 H1 s1 b1 r1
            obtain ⟨a, xs, rfl, h, r⟩ := (AR.of s1 r1 e1).scr s1.sub
            exact ⟨a, xs, rfl, h, fun pq hq => PoX.newL s1 (PoX.from b1 p1) hq r.reverse⟩⟩
        | _ => exact p1.elim
end
end PL
/-! PL10: defs by name -/
namespace PL
open PySem PySem.Spec L2
open PyProof.Rows (envOfC)
/-- the def x of the text st does what fn says -/
structure OkF (P : Program) (w : World) (K : PySem.W.Frag) (mg : Str → Option Value) (base : Heap) (st : Stmt) (x : Str) (k : Nat) (ps : List Str) (mk : List Bool) (fn : Fn) : Prop where
  ex : ∃ f fd, FunD K x x (defArgs st) (defBody st) (defScope st) [] [] f fd ∧ mg x = some (.ref f) ∧ FnOk P w K mg base (L2.CX P w) k f fd ps (spOf K mk fn) ∧ Binds K fd ps []
theorem FunD.kb {K : PySem.W.Frag} {x qual : Str} {params : Arguments} {body : List Stmt} {scope : Scope} {kws : List (Str × V)} {f : Addr} {fd : FuncData} {ps ks : List Str} {n m : Nat} {pm : List Nat} (F : FunD K x qual params body scope [] kws f fd)
    (h : ∀ (kV doc pmv : Value) (an : Option Addr) (cdv ct : Value) (us ws : List Value), us.length = n → ws.length = m → bindArgs (PySem.W.fnOf x qual params body scope .none kV doc pmv an cdv ct) ⟨us, ks.zip ws⟩ = pure (ps.zip (perm pm (us ++ ws)))) : KB K fd ps ks n m pm := by
  obtain ⟨oc, od, dV, kV, doc, pm, an, cdv, ct, osl, rfl, lk, hcd, hD, hK⟩ := F.ex
  rcases hD with ⟨_, rfl⟩ | ⟨e, _⟩
  · exact fun s us ws _ h1 h2 => .of_eq (h kV doc pm an cdv ct us ws h1 h2)
  · exact absurd rfl e
/-- how the call with keywords of the def st binds -/
def KwB (x : Str) (st : Stmt) (ps ks : List Str) (n m : Nat) (pm : List Nat) : Prop :=
  ∀ (kV doc pmv : Value) (an : Option Addr) (cdv ct : Value) (us ws : List Value), us.length = n → ws.length = m → bindArgs (PySem.W.fnOf x x (defArgs st) (defBody st) (defScope st) .none kV doc pmv an cdv ct) ⟨us, ks.zip ws⟩ = pure (ps.zip (perm pm (us ++ ws)))
def PoB (x : Str) (st : Stmt) (ps : List Str) : Prop :=
  ∀ (kV doc pm : Value) (an : Option Addr) (cdv ct : Value) (us : List Value), us.length = ps.length → bindArgs (PySem.W.fnOf x x (defArgs st) (defBody st) (defScope st) .none kV doc pm an cdv ct) ⟨us, []⟩ = pure (ps.zip us)
section
variable {X : Cx} {W : WX} {st : Stmt} {k : Nat} {ps ks : List Str} {x y : Str} {p pos vp : Pos} {e : Expr} {es : List Expr} {fn : Fn} {n m a : Nat} {pm : List Nat} {g h : Ev → Res (List D)} {kws : List Keyword}
theorem jc (F : OkF X.prog X.w X.K X.mg X.base st x k ps (noM n) fn) (tk : Takes X W) (hr : Room k X.A) (ha : JA X W (e :: es) g) (hn : ∀ ρ ds ρ', g ρ = .ok ds ρ' → ds.length = n) (hg : Gl X x := by rfl) (hdb : (x == ("__debug__" : Str)) = false := by decide) (he : starEach (e :: es) X.env = (false, eval e X.env) :: starEach es X.env := by rfl) (hpl : (backTo pos (starEach es X.env)).any (·.1) = false := by rfl) :
    JE X W (.Call (.Name x p) (e :: es) [] pos) (cCall fn g) := by
  obtain ⟨f, fd, FD, hm, FO, hb⟩ := F.ex
  exact je_call FO tk hr hm FD.kp hb ha hn hg hdb he hpl
theorem jc1 (j : Nat) (F : OkF X.prog X.w X.K X.mg X.base st x k ps (true :: noM n) fn) (tk : Takes X W) (hr : Room k X.A) (ha : JA X W es g) (hn : ∀ ρ ds ρ', g ρ = .ok ds ρ' → ds.length = n)
    (hN : X.N[j]? = some y := by rfl) (hv : Vis X.env.scope y := by first | exact Or.inl rfl | exact Or.inr (Or.inl rfl) | exact Or.inr (Or.inr rfl)) (hd : (y == ("__debug__" : Str)) = false := by decide) (hcd : (y == ("__classdict__" : Str)) = false := by decide)
    (hg : Gl X x := by rfl) (hdb : (x == ("__debug__" : Str)) = false := by decide) (he : starEach (.Name y vp :: es) X.env = (false, eval (.Name y vp) X.env) :: starEach es X.env := by rfl) (hpl : (backTo pos (starEach es X.env)).any (·.1) = false := by rfl) :
    JE X W (.Call (.Name x p) (.Name y vp :: es) [] pos) (cCall1 fn j g) := by
  obtain ⟨f, fd, FD, hm, FO, hb⟩ := F.ex
  exact je_call1 j FO tk hr hm FD.kp hb ha hn hN hv hd hcd hg hdb he hpl
theorem jcK (F : OkF X.prog X.w X.K X.mg X.base st x k ps (noM a) fn) (tk : Takes X W) (hr : Room k X.A) (hb : KwB x st ps ks n m pm)
    (ha : JA X W (e :: es) g) (hkw : JK X W kws h) (hn : ∀ ρ ds ρ', g ρ = .ok ds ρ' → ds.length = n) (hn2 : ∀ ρ ds ρ', h ρ = .ok ds ρ' → ds.length = m) (hpm : ∀ ds : List D, ds.length = n + m → (perm pm ds).length = a)
    (hg : Gl X x := by rfl) (hall : (backToKw pos (keywordEach kws X.env)).all (·.1.isSome) = true := by rfl) (hks : (backToKw pos (keywordEach kws X.env)).filterMap (·.1) = ks := by rfl)
    (hdb : (x == ("__debug__" : Str)) = false := by decide) (he : starEach (e :: es) X.env = (false, eval e X.env) :: starEach es X.env := by rfl)
    (hpl : ((backTo pos (starEach (e :: es) X.env)).any (·.1) || (backToKw pos (keywordEach kws X.env)).any (·.1.isNone)) = false := by rfl) :
    JE X W (.Call (.Name x p) (e :: es) kws pos) (cCallK pm fn (cAppA g h)) := by
  obtain ⟨f, fd, FD, hm, FO, _⟩ := F.ex
  exact je_callK FO tk hr hm FD.kp (FunD.kb FD hb) ha hkw hn hn2 hpm hg hall hks hdb he hpl
theorem jcK0 (F : OkF X.prog X.w X.K X.mg X.base st x k ps (noM a) fn) (tk : Takes X W) (hr : Room k X.A) (hb : KwB x st ps ks 0 m pm)
    (hkw : JK X W kws h) (hn2 : ∀ ρ ds ρ', h ρ = .ok ds ρ' → ds.length = m) (hpm : ∀ ds : List D, ds.length = m → (perm pm ds).length = a)
    (hg : Gl X x := by rfl) (hall : (backToKw pos (keywordEach kws X.env)).all (·.1.isSome) = true := by rfl) (hks : (backToKw pos (keywordEach kws X.env)).filterMap (·.1) = ks := by rfl)
    (hdb : (x == ("__debug__" : Str)) = false := by decide) (hpl : ((backTo pos (starEach [] X.env)).any (·.1) || (backToKw pos (keywordEach kws X.env)).any (·.1.isNone)) = false := by rfl) :
    JE X W (.Call (.Name x p) [] kws pos) (cCallK pm fn h) := by
  obtain ⟨f, fd, FD, hm, FO, _⟩ := F.ex
  exact je_callK0 FO tk hr hm FD.kp (FunD.kb FD hb) hkw hn2 hpm hg hall hks hdb hpl
end
theorem W0.takes {X : Cx} : Takes X W0 := fun u s' ⟨a, B, sI, pins, σ, H, cls, d, e, I, nb, up, sky, na, os, ag, w⟩ => w.elim
section
variable {P : Program} {w : World} {K : PySem.W.Frag} {mg : Str → Option Value} {base : Heap} {st : Stmt} {x : Str} {ps : List Str}
/-- a def by its body -/
theorem okF {N : List Str} {k : Nat} {mk : List Bool} {b : CSt} {f : Addr} {fd : FuncData} (F : FunD K x x (defArgs st) (defBody st) (defScope st) [] [] f fd) (hg : mg x = some (.ref f)) (hb : PoB x st ps) (S : FnScope N ps (defScope st)) (hm : mk.length = ps.length) (pn : List Nat) (hpn : (List.range mk.length).filter (fun i => mk.getD i false) = pn)
    (h : ∀ (cdv : Value) (A : Around) (outer : List Env) (s : Shared) (H : Hp) (E : XK), Room k (A.deeper (envOfC x (defScope st) s.heap.objs.size f cdv)) →
      JSs (cxOf (L2.CX P w) P w K mg base N x (defScope st) f cdv A outer s H E) (fun c d _ H => E c d H) pn (defBody st) b) : OkF P w K mg base st x (k + 1) ps mk (runF mk (N.length - ps.length) b) :=
  ⟨f, fd, F, hg, fn_body F S hm (by subst hpn; exact h), F.bindsN hb⟩
/-- nothing is promised -/
theorem okStk {k : Nat} {mk : List Bool} {f : Addr} {fd : FuncData} (F : FunD K x x (defArgs st) (defBody st) (defScope st) [] [] f fd) (hg : mg x = some (.ref f)) (hb : PoB x st ps) : OkF P w K mg base st x k ps mk (fun _ => .stk) :=
  ⟨f, fd, F, hg, ⟨fun vs H Q E ⟨_, _, _, _, h⟩ => h.elim, fun A outer s H args us vs Q E _ _ _ _ ⟨_, _, _, _, h⟩ => h.elim⟩, F.bindsN hb⟩
end
/-! ### op= -/
section
variable {K : PySem.W.Frag} {X : Cx}
def dIAdd : D → D → Option Opd := orO (dII yes2 fun a b => .int (a + b)) (dSS (fun a b => decide (a.length + b.length ≤ sizeLine)) fun a b => .str (a ++ b))
theorem op_dIAdd : OpR X (inplaceOp .Add) (fun x y H Q => rI0 (fun i j => .int (i + j)) x y H Q ∨ (fun x y H Q => ∃ i j, x = .str i ∧ y = .str j ∧ i.length + j.length ≤ sizeLine ∧ Q (.str (i ++ j)) H) x y H Q) := iop_add.or iop_add_str
theorem sm_dIAdd : Sem2 K (fun x y H Q => rI0 (fun i j => .int (i + j)) x y H Q ∨ (fun x y H Q => ∃ i j, x = .str i ∧ y = .str j ∧ i.length + j.length ≤ sizeLine ∧ Q (.str (i ++ j)) H) x y H Q) dIAdd :=
  sm_or (sm_II (fun a b => .int (a + b)) (fun _ _ _ => .int _) fun a b H Q _ h => ⟨a, b, rfl, rfl, h⟩) (sm_SS (fun a b => .str ⟨(a ++ b).toArray⟩) (fun _ _ _ => .str _) fun a b H Q hc h => ⟨_, _, rfl, rfl, by rw [str_len, str_len]; exact of_decide_eq_true hc, by rw [str_app]; exact h⟩)
theorem sm_dISub : Sem2 K (rI0 fun i j => .int (i - j)) dSub := sm_dSub
end
theorem Room.u65 {k : Nat} {A : Around} (r : Room k A) : A.units + 65 < cLine := by have := r.un; omega
theorem je_gs {X : Cx} {W : WX} {x : Str} {pos : Pos} (z : List Nat) (hg : Gl X x) (h : ∃ t, X.mg x = some (.str ⟨z.toArray⟩ t)) (hd : (x == ("__debug__" : Str)) = false := by decide) : JE X W (.Name x pos) (cC (.str z)) := by
  obtain ⟨t, ht⟩ := h
  exact je_gstr z hg ht ⟨t, rfl⟩ hd
/-- a comprehension's block: what is asked, told -/
def blkB (N : List Str) (sc scope : Scope) (own : List (Str × Nat)) : Bool :=
  (scope.kind == .function) && scope.names.all (fun y => scope.names.lookup y.1 == some y.2) && own.all (fun p => N[p.2]? == some p.1) &&
    scope.names.all (fun y => y.2 != .free || (sc.names.lookup y.1 == some .cell || sc.names.lookup y.1 == some .free)) && scope.names.all (fun y => !(y.2 == .local || y.2 == .cell) || ((own.map (·.1)).contains y.1 || !N.contains y.1))
theorem blk_ok {N : List Str} {sc scope : Scope} {own : List (Str × Nat)} (h : blkB N sc scope own = true) : BlkOk N sc scope own := by
  unfold blkB at h
  simp only [Bool.and_eq_true, List.all_eq_true, beq_iff_eq, Bool.or_eq_true, bne_iff_ne, Bool.not_eq_true', Bool.or_eq_false_iff, beq_eq_false_iff_ne, List.contains_iff_mem] at h
  obtain ⟨⟨⟨⟨h1, h2⟩, h3⟩, h4⟩, h5⟩ := h
  refine ⟨h1, fun y hy => h2 y hy, fun p hp => h3 p hp, fun y hy e => ?_, fun y hy e => ?_⟩
  · exact (h4 y hy).resolve_left fun z => z e
  · rcases h5 y hy with z | z | z
    · rcases e with e | e
      · exact absurd e z.1
      · exact absurd e z.2
    · exact .inl z
    · refine .inr fun q => ?_
      have := List.contains_iff_mem.mpr q
      rw [z] at this
      cases this
end PL
/-! PL11: the law's end -/
namespace PL
open PySem PySem.Spec L2
open PyProof.Rows (envOfC)
/-- the law's def, told of the pure side -/
theorem law_sp {K : PySem.W.Frag} {fn : Fn} {n : Nat} (h : ∀ ns : List Int, ns.length ≤ n → fn [.scr (ns.map .int)] = .ret (.vl (.bl true)) []) :
    ∀ (H : Hp) (a : Addr) (ns : List Int), ns.length ≤ n → L2.Only H → SqL K H a (ns.map V.int) → spOf K (noM 1) fn [.ref a] H (fun v _ => v = .bl true) fun _ _ _ => False := fun H a ns hn _ hS => by
  have rs : Rps K H (ns.map V.int) (ns.map D.int) := by
    clear hn hS h
    induction ns with
    | nil => exact .nil
    | cons i r ih => exact .cons (.int i) ih
  refine ⟨H, [.scr (ns.map .int)], rfl, RS.args (ds := [.scr (ns.map .int)]) (Sub.refl H) (.cons (.scr hS rs) .nil), ?_⟩
  rw [h ns hn]
  refine ⟨trivial, fun v F' H' _ _ r => ?_⟩
  cases r
  rfl
def CXw (P : Program) : CXT := fun outer H s E u s' => ∃ w, L2.CX P w outer H s E u s'
theorem FnOk.any {P : Program} {w : World} {K : PySem.W.Frag} {mg : Str → Option Value} {base : Heap} {k : Nat} {f : Addr} {fd : FuncData} {ps : List Str} {sp : Sp} (F : FnOk P w K mg base (L2.CX P w) k f fd ps sp) : FnOk P w K mg base (CXw P) k f fd ps sp :=
  ⟨F.len, fun A outer s H args us vs Q E hr he hb hv hs => codeAny_mono (F.run A outer s H args us vs Q E hr he hb hv hs) fun r s' h => by
    cases r with
    | error e => exact ⟨w, h⟩
    | ok fl => cases fl <;> exact h⟩
theorem CXw.none {P : Program} : ∀ (H : Hp) (s : Shared) (e : Value) (s' : Shared), CXw P [] H s (fun _ _ _ => False) e s' → False := fun H s e s' ⟨w, a, B, H', cls, d, h⟩ => by
  obtain ⟨_, _, _, _, _, _, _, z⟩ := h
  exact z
theorem _root_.L2.FunD.same {K : PySem.W.Frag} {x qual x' qual' : Str} {params params' : Arguments} {body body' : List Stmt} {scope scope' : Scope} {dvs dvs' : List V} {kws kws' : List (Str × V)} {f : Addr} {fd fd' : FuncData} (F : FunD K x qual params body scope dvs kws f fd) (F' : FunD K x' qual' params' body' scope' dvs' kws' f fd') : fd = fd' := by
  obtain ⟨_, _, _, _, _, _, _, _, _, _, _, lk, _⟩ := F.ex
  obtain ⟨_, _, _, _, _, _, _, _, _, _, _, lk', _⟩ := F'.ex
  rw [lk] at lk'
  injection lk' with e
  injection e with _ _ e3 _
  injection e3 with e4
end PL
/-! PL12: the combinators reckoned by simp -/
namespace PL
open PySem PySem.Spec L2
section
variable {α β : Type} {f g h : CEx} {fe : Ev → Res D} {ga : Ev → Res (List D)} {s t : CSt} {tt uu : Ev → Res Bool} {ρ : Ev} {i j : Nat} {d : D} {a : α} {k : α → Ev → Res β} {ks : α → Ev → SRes}
@[simp] theorem bind_ok : (Res.ok a ρ).bind k = k a ρ := rfl
@[simp] theorem bind_stk : (Res.stk : Res α).bind k = .stk := rfl
@[simp] theorem bind_ex {c : Str} : (Res.ex c d ρ : Res α).bind k = .ex c d ρ := rfl
@[simp] theorem calm_ok : (Res.ok a ρ).calm k = k a ρ := rfl
@[simp] theorem calm_stk : (Res.stk : Res α).calm k = .stk := rfl
@[simp] theorem sbind_ok : (Res.ok a ρ).sbind ks = ks a ρ := rfl
@[simp] theorem sbind_stk : (Res.stk : Res α).sbind ks = .stk := rfl
@[simp] theorem sbind_ex {c : Str} : (Res.ex c d ρ : Res α).sbind ks = .ex c d ρ := rfl
@[simp] theorem ssb_nx {r : Ev → SRes} : (SRes.nx ρ).sbind r = r ρ := rfl
@[simp] theorem ssb_ret {r : Ev → SRes} {o : Opd} : (SRes.ret o ρ).sbind r = .ret o ρ := rfl
@[simp] theorem ssb_bk {r : Ev → SRes} : (SRes.bk ρ).sbind r = .bk ρ := rfl
@[simp] theorem ssb_ct {r : Ev → SRes} : (SRes.ct ρ).sbind r = .ct ρ := rfl
@[simp] theorem ssb_stk {r : Ev → SRes} : SRes.stk.sbind r = .stk := rfl
@[simp] theorem e_liftS {x : α} : liftO ρ (some x) = .ok x ρ := rfl
@[simp] theorem e_liftN : liftO ρ (none : Option α) = .stk := rfl
@[simp] theorem e_C : cC d ρ = .ok (.vl d) ρ := rfl
@[simp] theorem e_seq : cSeq s t ρ = (s ρ).sbind t := rfl
@[simp] theorem e_nil : cNil ρ = .nx ρ := rfl
@[simp] theorem e_never : cNever ρ = .stk := rfl
@[simp] theorem e_ret : cRet f ρ = (f ρ).sbind fun o ρ' => .ret o ρ' := rfl
@[simp] theorem e_retN : cRetN ρ = .ret (.vl .non) ρ := rfl
@[simp] theorem e_expr : cExpr f ρ = (f ρ).sbind fun _ ρ' => .nx ρ' := rfl
@[simp] theorem e_if : cIf tt s t ρ = (tt ρ).sbind fun k ρ' => if k = true then s ρ' else t ρ' := rfl
@[simp] theorem e_set : cSet i f ρ = (f ρ).sbind fun o ρ' => optS (setC i o ρ') := rfl
@[simp] theorem e_optS {ρ' : Ev} : optS (some ρ') = .nx ρ' := rfl
@[simp] theorem e_optN : optS none = .stk := rfl
@[simp] theorem e_setv : setC i (.vl d) ρ = some (ρ.set i (.fz d)) := rfl
@[simp] theorem e_setf : setC i (.fr d) ρ = some (ρ.set i (.ow d)) := rfl
theorem e_setp : setC i (.pl j) ρ = match ρ[j]? with
  | some (.ow d) => some ((ρ.set j (.fz (strip d))).set i (.fz (strip d)))
  | some (.fz d) => some (ρ.set i (.fz d))
  | _ => none := rfl
theorem e_var : cVar i ρ = match ρ[i]? with
  | some (.fz d) => .ok (.vl d) ρ
  | some (.ow _) => .ok (.pl i) ρ
  | _ => .stk := rfl
@[simp] theorem u_vl : useO ρ (.vl d) = some d := rfl
@[simp] theorem u_fr : useO ρ (.fr d) = some d := rfl
theorem u_pl : useO ρ (.pl i) = match ρ[i]? with
  | some (.ow d) => some d
  | some (.fz d) => some d
  | _ => none := rfl
@[simp] theorem strip_lst {xs : List D} : strip (.lst xs) = .lst xs := rfl
@[simp] theorem strip_dct {ks vs : List D} : strip (.dct ks vs) = .dct ks vs := rfl
@[simp] theorem strip_dtt {ks vs : List D} : strip (.dtt ks vs) = .dtt ks vs := rfl
@[simp] theorem strip_rws {xs : List D} : strip (.rws xs) = .lst xs := rfl
@[simp] theorem strip_dls {ks vs : List D} : strip (.dls ks vs) = .dtt ks vs := rfl
@[simp] theorem fz_vl : cFreeze (.vl d) ρ = .ok d ρ := rfl
@[simp] theorem fz_fr : cFreeze (.fr d) ρ = .ok (strip d) ρ := rfl
theorem fz_pl : cFreeze (.pl i) ρ = match ρ[i]? with
  | some (.ow d) => .ok (strip d) (ρ.set i (.fz (strip d)))
  | some (.fz d) => .ok d ρ
  | _ => .stk := rfl
@[simp] theorem e_val : cVal f ρ = (f ρ).bind cFreeze := rfl
@[simp] theorem e_op2 {G : D → D → Option Opd} : cOp2 G f g ρ = (f ρ).bind fun oa ρ1 => (g ρ1).bind fun ob ρ2 => f2 G oa ob ρ2 := rfl
@[simp] theorem e_op1 {G : D → Option Opd} : cOp1 G f ρ = (f ρ).bind fun oa ρ1 => f1 G oa ρ1 := rfl
@[simp] theorem e_consA : cConsA fe ga ρ = (fe ρ).bind fun d ρ1 => (ga ρ1).bind fun ds ρ2 => .ok (d :: ds) ρ2 := rfl
@[simp] theorem e_nilA : cNilA ρ = .ok [] ρ := rfl
@[simp] theorem e_and : cAnd tt uu ρ = (tt ρ).bind fun k ρ' => if k = true then uu ρ' else .ok false ρ' := rfl
@[simp] theorem e_or : cOr tt uu ρ = (tt ρ).bind fun k ρ' => if k = true then .ok true ρ' else uu ρ' := rfl
@[simp] theorem e_not : cNot tt ρ = (tt ρ).bind fun k ρ' => .ok (!k) ρ' := rfl
@[simp] theorem e_ifE : cIfE tt f g ρ = (tt ρ).bind fun k ρ' => if k = true then f ρ' else g ρ' := rfl
theorem e_tru : cTru f ρ = (f ρ).bind fun o ρ' => match o with
  | .vl (.bl b) => .ok b ρ'
  | _ => .stk := rfl
end
end PL
/-! PL13: list(text), list(range) -/
namespace PL
open PySem PySem.Spec L2
open PyProof.Rows (envOfC)
section
variable {prog : Program} {w : World} {A : Around} {E : Value → Shared → Prop} {s : Shared}
theorem hint_text {x : Str} {t : Tok} {Q : Bool → Shared → Prop} (h : Q false s) : wpAny (model prog w) A (Builtin.List.listLengthHint (.str x t)) Q E s := by
  have hT : s.TypeIs (.str x t) "str" := typeIs_str s x t
  unfold Builtin.List.listLengthHint
  refine wpAny_bind (wpAny_specialOf hT PySem.F.slot_str_len.lookup ?_)
  generalize hid : ("str.__len__" : String) = id0
  wp_delta
  rw [show splitId id0 = some ("str", "__len__") from by subst hid; decide +kernel]
  subst hid
  refine wpAny_bind (wpAny_isInstance (T := "str") (b := true) hT (by rw [isSubtype_type]; kernel_rfl) ?_)
  refine wpAny_ite_split (fun hab => absurd hab (by decide)) (fun _ => ?_)
  refine wpAny_ite_split (fun _ => ?_) (fun hab => absurd (by decide +kernel) hab)
  refine wpAny_bind (wpAny_typeOf hT ?_)
  exact wpAny_pure h
theorem extend_text {R : Result → Shared → Prop} (hh : A.handled = none) (x : Str) (t : Tok) (ha : x.cps.all (· < 128) = true) (S : Addr) (res : Value) (c₀ : Nat) (hS : s.heap.get? S = some { cls := .type "list", data := .seq #[] c₀ })
    (hR : ∀ h' tk acc' c', (∀ b o, b ≠ S → s.heap.get? b = some o → h'.get? b = some o) → h'.get? S = some { cls := .type "list", dict := none, data := .seq acc' c', slots := #[] } →
      ItemsOf (SignAt x) acc' x.cps.size → R (.ok (.ret res)) { s with heap := h', toks := tk }) (hn : x.cps.size ≤ sizeLine) :
    wpAny (model prog w) A.in1 (Builtin.List.listExtendWith (.ref S) (.str x t) res)
      (fun fin s' => match fin with | .done f => R (.ok f) s' | .again c' => c'.quiet = true ∧ codeAny (model prog w) A c' R s') (fun e s' => R (.error e) s') s := by
  have hSI : S ≠ s.heap.objs.size := Nat.ne_of_lt (Heap.lt_size hS)
  have hSf : S ∉ [s.heap.objs.size] := fun hm => hSI (List.mem_singleton.mp hm)
  unfold Builtin.List.listExtendWith
  refine wpAny_bind (wpAny_typeOf (T := "str") (v := .str x t) (typeIs_str s x t) ?_)
  have h1 : Builtin.List.listSameRef (.ref S) (.str x t) = false := rfl
  have h2 : (Value.type "str" == Value.type "list") = false := by decide
  have h3 : (Value.type "str" == Value.type "tuple") = false := by decide
  simp only [h1, h2, h3, Bool.or_false, Bool.false_eq_true, if_false]
  refine wpAny_bind (wpAny_pyIter_ascii ha ?_)
  refine wpAny_bind (wpAny_holding (hint_text ?_))
  rw [if_neg (by first | decide | decide +kernel)]
  have W := Walks.strAscii (prog := prog) (w := w) (A := A.in1) hh s.heap.objs.size x t
  have hst : (s.heap.push { cls := .type "str_ascii_iterator", data := .fields #[.str x t, .int 0 0] }).IsStrIter s.heap.objs.size "str_ascii_iterator" x t 0 := ⟨_, Heap.get?_push_size _ rfl, rfl, rfl⟩
  refine wpAny_pure ⟨plainId_quiet PySem.F.plain_extend_loop _, codeAny_extend_loopS W.toS hn _ hSf _ x.cps.size 0 _ _ _ rfl (Nat.zero_le _) hst (Heap.get?_push_of_some _ hS) (ItemsOf.nil _) fun s' acc' c' hm hS' hacc => ?_⟩
  rw [Moved.eq_with hm]
  refine hR s'.heap s'.toks acc' c' (fun b ob hb e => hm.heap b ob (fun hmem => ?_) (Heap.get?_push_of_some _ e)) hS' hacc
  rcases List.mem_cons.mp hmem with e' | hmem
  · exact hb e'
  · exact absurd (Heap.lt_size e) (by rw [List.mem_singleton.mp hmem]; exact Nat.lt_irrefl _)
theorem list_init_text {R : Result → Shared → Prop} (hh : A.handled = none) (x : Str) (t : Tok) (ha : x.cps.all (· < 128) = true) (S : Addr) (hS : s.heap.get? S = some { cls := .type "list", data := .seq #[] })
    (hR : ∀ h' tk acc' c', (∀ b o, b ≠ S → s.heap.get? b = some o → h'.get? b = some o) → h'.get? S = some { cls := .type "list", dict := none, data := .seq acc' c', slots := #[] } →
      ItemsOf (SignAt x) acc' x.cps.size → R (.ok (.ret .none)) { s with heap := h', toks := tk }) (hn : x.cps.size ≤ sizeLine) :
    wpAny (model prog w) A.in1 (Builtin.«list.__init__» ⟨[.ref S, .str x t], []⟩)
      (fun fin s' => match fin with | .done f => R (.ok f) s' | .again c' => c'.quiet = true ∧ codeAny (model prog w) A c' R s') (fun e s' => R (.error e) s') s := by
  show wpAny _ _ (do let old ← Builtin.List.listItems (.ref S); Builtin.List.listUpdate (.ref S) (fun _ => #[]); letGo old.toList.reverse; Builtin.List.listExtendWith (.ref S) (.str x t) .none) _ _ s
  refine wpAny_bind ?_
  unfold Builtin.List.listItems
  refine wpAny_bind (wpAny_seqItems hS rfl (wpAny_pure ?_))
  show wpAny _ _ (updateSeq S (fun _ => #[]) >>= fun _ => letGo (#[] : Array Value).toList.reverse >>= fun _ => Builtin.List.listExtendWith (.ref S) (.str x t) .none) _ _ s
  refine wpAny_bind (wpAny_updateSeq hS rfl ?_)
  have hS₂ := Heap.get?_update_self (Obj.mapSeq (fun _ => (#[] : Array Value))) hS rfl
  have oth : ∀ b o, b ≠ S → s.heap.get? b = some o → (s.heap.update S (Obj.mapSeq (fun _ => (#[] : Array Value)))).get? b = some o :=
    fun b o hb e => (Heap.get?_update_other _ _ (Ne.symm hb)).trans e
  refine wpAny_bind (wpAny_letGo ?_)
  refine extend_text hh x t ha S .none _ hS₂ (fun h' tk acc' c' hk hS' hacc => ?_) hn
  exact hR h' tk acc' c' (fun b o hb e => hk b o hb (oth b o hb e)) hS' hacc
theorem call_list_text {x : Str} {t : Tok} {Q : Value → Shared → Prop} (hh : A.handled = none) (ha : x.cps.all (· < 128) = true) (hn : x.cps.size ≤ sizeLine)
    (hQ : ∀ h' tk acc' c', (∀ b o, s.heap.get? b = some o → h'.get? b = some o) →
      h'.get? s.heap.objs.size = some { cls := .type "list", dict := none, data := .seq acc' c', slots := #[] } → ItemsOf (SignAt x) acc' x.cps.size → Q (.ref s.heap.objs.size) { s with heap := h', toks := tk }) :
    wpAny (model prog w) A (call (.type "list") [.str x t]) Q E s := by
  refine callType_codes (Q₁ := fun obj s₁ => obj = .ref s.heap.objs.size ∧ s₁ = { s with heap := s.heap.push { cls := .type "list", data := .seq #[] } }) PySem.F.called_list (PySem.F.typeCall_list_1 _) PySem.F.entry_list_init
    (code_list_new _ ⟨rfl, rfl⟩) fun obj s₁ h₁ => ?_
  obtain ⟨rfl, rfl⟩ := h₁
  have hS : (s.heap.push { cls := .type "list", data := .seq #[] }).get? s.heap.objs.size = some { cls := .type "list", data := .seq #[] } := Heap.get?_push_size _ rfl
  refine ⟨⟨_, hS, rfl⟩, PySem.F.args_list_init_2 _ _, list_init_text (A := A.in1) hh x t ha _ hS (fun h' tk acc' c' hk hS' hacc => ?_) hn⟩
  exact ⟨rfl, hQ h' tk acc' c' (fun b o e => hk b o (Nat.ne_of_lt (Heap.lt_size e)) (Heap.get?_push_of_some _ e)) hS' hacc⟩
end
def rListTx : List V → Hp → VK → Prop := fun xs H Q => ∃ z : List Nat, xs = [.str ⟨z.toArray⟩] ∧ ascii z = true ∧ z.length ≤ sizeLine ∧ ∀ l, H l = none → Q (.ref l) (upd H l (.lst (z.map fun c => .str ⟨#[c]⟩)))
section
variable {X : Cx} {K : PySem.W.Frag}
theorem cr_listTx (hc : X.calm = true) : CallR X (.type "list") rListTx := by
  intro pins s σ H xs us Q I r h
  obtain ⟨z, rfl, ha, hz, q⟩ := h
  obtain ⟨u, rfl, t, rfl⟩ := vals1 r
  refine call_list_text (I.ok.hd hc) (by simpa [ascii] using ha) (by simpa using hz) fun h' tk acc' c' hk e hi => ?_
  refine ⟨.ref s.heap.objs.size, upd H s.heap.objs.size (.lst (z.map fun c => .str ⟨#[c]⟩)), I.laid (t' := tk) hk (Nat.le_refl _) (show ObjOk X.prog X.w _ _ _ (.lst (z.map fun c => .str ⟨#[c]⟩)) from ⟨by rw [List.length_map]; exact hz, acc'.toList, c', ?_, by rw [Array.toArray_toList]; exact e⟩), rfl, q _ (I.hok.fresh (Nat.le_refl _))⟩
  refine vals_of_idx _ _ (by rw [Array.length_toList, hi.1, List.length_map]; simp) fun j u hj => ?_
  obtain ⟨c, tk2, h1, rfl⟩ := hi.2 j u (by rw [← hj, Array.getElem?_toList])
  exact ⟨.str ⟨#[c]⟩, by rw [List.getElem?_map]; have h2 : z[j]? = some c := by simpa using h1
                         rw [h2]; rfl, _, rfl⟩
def dListA : D → Option Opd := fun d => match d with
  | .str z => if ascii z && decide (z.length ≤ sizeLine) then some (.fr (.lst (z.map fun c => .str [c]))) else none
  | d => dList d
theorem Rps.signs {F : Hp} : ∀ z : List Nat, Rps K F (z.map fun c => .str ⟨#[c]⟩) (z.map fun c => .str [c])
  | [] => .nil
  | c :: z => .cons (.str [c]) (Rps.signs z)
def rListA (K : PySem.W.Frag) : List V → Hp → VK → Prop := fun xs H Q => (∃ p ys, xs = [V.ref p] ∧ (SqL K H p ys ∨ SqT K H p ys) ∧ ∀ l, H l = none → Q (.ref l) (upd H l (.lst ys))) ∨ rListTx xs H Q
theorem cr_listA (hc : X.calm = true) : CallR X (.type "list") (rListA X.K) := call_list_of.or (cr_listTx hc)
theorem sm_listA : Sem1 K (fun x H Q => rListA K [x] H Q) dListA := fun W F ρ σ H x dx o Q s ax e p => by
  cases dx with
  | str z =>
    have e' : (if (ascii z && decide (z.length ≤ sizeLine)) = true then some (Opd.fr (.lst (z.map fun c => .str [c]))) else none) = some o := e
    by_cases h : (ascii z && decide (z.length ≤ sizeLine)) = true
    · rw [if_pos h] at e'
      cases e'
      obtain ⟨h1, h2⟩ := Bool.and_eq_true_iff.mp h
      rw [ax.str]
      exact .inr ⟨z, rfl, h1, of_decide_eq_true h2, fun l hl => PoX.newL s p hl (Rps.signs z)⟩
    · rw [if_neg h] at e'; cases e'
  | lst zs => exact .inl (sm_list W F ρ σ H x (.lst zs) o Q s ax e p)
  | scr zs => exact .inl (sm_list W F ρ σ H x (.scr zs) o Q s ax e p)
  | tup zs => exact .inl (sm_list W F ρ σ H x (.tup zs) o Q s ax e p)
  | _ => cases e
/-! ### list(range(..)), tuple(range(..)) -/
def rgD (a b : Int) : List D := (List.range (b - a).toNat).map fun i => .int (a + (i : Nat))
def rgOk (a b : Int) : Bool := inLine a && (inLine b && decide ((b - a).toNat ≤ 2 ^ 24))
def cRg1 (mk : List D → Opd) (f : CEx) : CEx := fun ρ => (f ρ).bind fun o ρ' => match o with
  | .vl (.int n) => if rgOk 0 n then .ok (mk (rgD 0 n)) ρ' else .stk
  | _ => .stk
def cRg2 (mk : List D → Opd) (f g : CEx) : CEx := fun ρ => (f ρ).bind fun o ρ' => match o with
  | .vl (.int i) => (g ρ').bind fun o ρ'' => match o with
    | .vl (.int j) => if rgOk i j then .ok (mk (rgD i j)) ρ'' else .stk
    | _ => .stk
  | _ => .stk
theorem rgOk_ok {a b : Int} (h : rgOk a b = true) : RgOk a b := by
  unfold rgOk inLine at h
  simp only [Bool.and_eq_true, decide_eq_true_eq] at h
  exact ⟨h.1.1, h.1.2, h.2.1.1, h.2.1.2, h.2.2⟩
theorem Rps.rg {F : Hp} (a b : Int) : Rps K F (rgV a b) (rgD a b) := by
  unfold rgV rgD
  generalize List.range (b - a).toNat = l
  induction l with
  | nil => exact .nil
  | cons i l ih => exact .cons (.int _) ih
def mkL (ds : List D) : Opd := .fr (.lst ds)
def mkT (ds : List D) : Opd := .vl (.tup ds)
variable {W : WX} {a b : Expr} {fa fb : CEx} {p p2 pos pos2 : Pos}
theorem je_lrg1 (hg : Gl X "list") (hm : X.mg "list" = none) (hg2 : Gl X "range") (hm2 : X.mg "range" = none) (hc : X.calm = true) (ha : JE X W a fa) (na : starEach [a] X.env = (false, eval a X.env) :: starEach [] X.env := by rfl)
    (nb : starEach [.Call (.Name "range" p2) [a] [] pos2] X.env = (false, eval (.Call (.Name "range" p2) [a] [] pos2) X.env) :: starEach [] X.env := by rfl) : JE X W (.Call (.Name "list" p) [.Call (.Name "range" p2) [a] [] pos2] [] pos) (cRg1 mkL fa) :=
  .by (pe_listRg hc hg hm (prg_1 hg2 hm2 ha.pe na) nb) fun σ H Q F ρ s p => ⟨F, ρ, s, p.bind (fun _ _ _ _ _ _ b => OR.dom b) fun o ρ1 v F1 H1 s1 b1 r1 p1 => by
    split at p1
    · rename_i n
      have e : v = .int n := by cases r1; rfl
      by_cases h : rgOk 0 n = true
      · rw [if_pos h] at p1; exact ⟨n, e, rgOk_ok h, fun q hq => PoX.newL s1 p1 hq (Rps.rg 0 n)⟩
      · rw [if_neg h] at p1; exact p1.elim
    · exact p1.elim⟩
theorem je_trg1 (hg : Gl X "tuple") (hm : X.mg "tuple" = none) (hg2 : Gl X "range") (hm2 : X.mg "range" = none) (hc : X.calm = true) (ha : JE X W a fa) (na : starEach [a] X.env = (false, eval a X.env) :: starEach [] X.env := by rfl)
    (nb : starEach [.Call (.Name "range" p2) [a] [] pos2] X.env = (false, eval (.Call (.Name "range" p2) [a] [] pos2) X.env) :: starEach [] X.env := by rfl) : JE X W (.Call (.Name "tuple" p) [.Call (.Name "range" p2) [a] [] pos2] [] pos) (cRg1 mkT fa) :=
  .by (pe_tupRg hc hg hm (prg_1 hg2 hm2 ha.pe na) nb) fun σ H Q F ρ s p => ⟨F, ρ, s, p.bind (fun _ _ _ _ _ _ b => OR.dom b) fun o ρ1 v F1 H1 s1 b1 r1 p1 => by
    split at p1
    · rename_i n
      have e : v = .int n := by cases r1; rfl
      by_cases h : rgOk 0 n = true
      · rw [if_pos h] at p1; exact ⟨n, e, rgOk_ok h, fun q hq => PoX.newT s1 p1 hq (Rps.rg 0 n)⟩
      · rw [if_neg h] at p1; exact p1.elim
    · exact p1.elim⟩
end
end PL
/-! PL14: comprehensions of two clauses -/
namespace PL
open PySem PySem.Spec L2
open PyProof.Rows (envOfC)
/-- as Fr, but for the list at Dl that is being made -/
structure FrD (Dl : Addr) (F : Hp) (ρ : Ev) (σ : St) (H F' : Hp) (ρ' : Ev) (σ' : St) (H' : Hp) : Prop where
  ext : Sub F F'
  keep : ∀ a o, a ≠ Dl → H a = some o → ¬ OS ρ σ H a → H' a = some o
  dom : ∀ a, H a ≠ none → H' a ≠ none
  new : ∀ a, F' a ≠ none → F a ≠ none ∨ H a = none ∨ OS ρ σ H a
  ot : ∀ t a, OT ρ' σ' H' t a → OT ρ σ H t a ∨ H a = none
  lv : ∀ i, Lv ρ i → Lv ρ' i
section
variable {K : PySem.W.Frag} {W : WX} {Dl : Addr} {F F1 F2 F' H H1 H2 H' : Hp} {ρ ρ1 ρ2 : Ev} {σ σ1 σ2 : St}
theorem Fr.toD (b : Fr F ρ σ H F1 ρ1 σ1 H1) : FrD Dl F ρ σ H F1 ρ1 σ1 H1 := ⟨b.ext, fun a o _ => b.keep a o, b.dom, b.new, b.ot, b.lv⟩
theorem FrD.os (b : FrD Dl F ρ σ H F1 ρ1 σ1 H1) (a : Addr) : OS ρ1 σ1 H1 a → OS ρ σ H a ∨ H a = none := fun ⟨i, d, t, h⟩ => (b.ot t a ⟨i, d, h⟩).imp_left OT.os
theorem FrD.toFr (b : FrD Dl F ρ σ H F1 ρ1 σ1 H1) (h : H Dl = none) : Fr F ρ σ H F1 ρ1 σ1 H1 := ⟨b.ext, fun a o e => b.keep a o (fun z => by rw [z, h] at e; cases e) e, b.dom, b.new, b.ot, b.lv⟩
theorem FrD.refl : FrD Dl F ρ σ H F ρ σ H := (Fr.refl F ρ σ H).toD
theorem FrD.trans (a : FrD Dl F ρ σ H F1 ρ1 σ1 H1) (b : FrD Dl F1 ρ1 σ1 H1 F2 ρ2 σ2 H2) : FrD Dl F ρ σ H F2 ρ2 σ2 H2 where
  ext := a.ext.trans b.ext
  keep := fun x o hx h n => b.keep x o hx (a.keep x o hx h n) fun z => (a.os x z).elim n fun e => by rw [h] at e; cases e
  dom := fun x h => b.dom x (a.dom x h)
  new := fun x h => by
    rcases b.new x h with h1 | h1 | h1
    · exact a.new x h1
    · exact .inr (.inl (Classical.byContradiction fun z => a.dom x z h1))
    · rcases a.os x h1 with h2 | h2
      · exact .inr (.inr h2)
      · exact .inr (.inl h2)
  ot := fun t x h => by
    rcases b.ot t x h with h1 | h1
    · exact a.ot t x h1
    · exact .inr (Classical.byContradiction fun z => a.dom x z h1)
  lv := fun i h => b.lv i (a.lv i h)
theorem FrD.chg (b : FrD Dl F ρ σ H F1 ρ1 σ1 H1) (s : RS K F1 ρ1 σ1 H1) (nos : ¬ OS ρ1 σ1 H1 Dl) {o : HO} : FrD Dl F ρ σ H F1 ρ1 σ1 (upd H1 Dl o) where
  ext := b.ext
  keep := fun c u hc e n => by rw [upd_ne hc]; exact b.keep c u hc e n
  dom := fun c e => by
    by_cases z : c = Dl
    · subst z; rw [upd_same]; simp
    · rw [upd_ne z]; exact b.dom c e
  new := b.new
  ot := fun t c h => b.ot t c (OT.chg s nos h)
  lv := b.lv
/-- behind a turn -/
theorem RS.unwipeD {vs : List Nat} {ρ3 : Ev} {σ2 : St} (s : RS K F ρ σ H) (b : FrD Dl F (wipeC ρ vs) (L2.wipe σ vs) H F' ρ3 σ2 H') (s3 : RS K F' ρ3 σ2 H') (ok : okWipe ρ vs = true) (hσ : ∀ j, j ∉ vs → σ2[j]? = σ[j]?) (hl : σ2.length = σ.length) :
    RS K F' (PL.unwipe ρ3 ρ vs) σ H' ∧ FrD Dl F ρ σ H F' (PL.unwipe ρ3 ρ vs) σ H' ∧ okWipe (PL.unwipe ρ3 ρ vs) vs = true := by
  have l3 : ρ3.length = ρ.length := by rw [s3.len, s.len, hl]
  have own : ∀ (i : Nat) (d : D), (PL.unwipe ρ3 ρ vs)[i]? = some (.ow d) → i ∉ vs ∧ ρ3[i]? = some (.ow d) := fun i d e => by
    rcases unwipe_get l3 e with ⟨a, b⟩ | h
    · exact absurd b (okWipe_at ok a)
    · exact h
  have oso : ∀ t c, OT (PL.unwipe ρ3 ρ vs) σ H' t c → OT ρ3 σ2 H' t c := fun t c ⟨i, d, h1, h2, h3⟩ => by
    obtain ⟨a, b⟩ := own i d h1
    exact ⟨i, d, b, by rw [hσ i a]; exact h2, h3⟩
  refine ⟨⟨by rw [unwipe_length, l3]; exact s.len, s3.sub, fun i d e => ?_, fun i d e => ?_, fun i j d e s1 t1 a h1 h2 h3 h4 => ?_⟩, ⟨b.ext, fun a o ha h n => b.keep a o ha h fun z => n z.wipe, b.dom, fun a h => (b.new a h).imp_right fun z => z.imp_right OS.wipe, fun t a h => (b.ot t a (oso t a h)).imp_left OT.wipe, fun i h => ?_⟩, ?_⟩
  · rcases unwipe_get l3 e with ⟨a, q⟩ | ⟨a, q⟩
    · obtain ⟨v, e1, r⟩ := s.fz i d q
      exact ⟨v, e1, r.mono b.ext⟩
    · obtain ⟨v, e1, r⟩ := s3.fz i d q
      exact ⟨v, by rw [← hσ i a]; exact e1, r⟩
  · obtain ⟨a, q⟩ := own i d e
    obtain ⟨c, e1, r⟩ := s3.ow i d q
    exact ⟨c, by rw [← hσ i a]; exact e1, r⟩
  · obtain ⟨a1, q1⟩ := own i d h1
    obtain ⟨a2, q2⟩ := own j e h2
    exact s3.inj i j d e s1 t1 a q1 q2 (by rw [hσ i a1]; exact h3) (by rw [hσ j a2]; exact h4)
  · by_cases hi : i ∈ vs
    · obtain ⟨d, h⟩ := h
      refine ⟨d, ?_⟩
      rw [unwipe_in l3 hi]
      exact h
    · have h2 : Lv (wipeC ρ vs) i := by
        obtain ⟨d, h⟩ := h
        refine ⟨d, ?_⟩
        rw [wipeC_get' hi]
        exact h
      obtain ⟨d, h⟩ := b.lv i h2
      refine ⟨d, ?_⟩
      rw [unwipe_get' hi]
      exact h
  · refine List.all_eq_true.mpr fun v hv => ?_
    rw [unwipe_in l3 hv]
    exact List.all_eq_true.mp ok v hv
end
/-- the value in hand, and what is asked of it -/
def Res.holds {α : Type} (r : Res α) (C : α → Ev → Prop) : Prop := match r with
  | .ok a ρ => C a ρ
  | _ => False
theorem Res.holds_calm {α β : Type} {r : Res α} {k : α → Ev → Res β} {C : β → Ev → Prop} : (r.calm k).holds C ↔ r.holds fun a ρ => (k a ρ).holds C := by cases r <;> exact Iff.rfl
theorem Res.holds_imp {α : Type} {r : Res α} {C C' : α → Ev → Prop} (h : r.holds C) (c : ∀ a ρ, C a ρ → C' a ρ) : r.holds C' := by
  cases r with
  | ok a ρ => exact c _ _ h
  | ex _ _ _ => exact h
  | stk => exact h
section
variable {K : PySem.W.Frag} {ts vs : List Nat} {g : D → Ev → Option Ev} {t : Ev → Res Bool} {e : Ev → Res D}
/-- the state of the walk: the list at Dl holds dacc -/
structure LF (K : PySem.W.Frag) (vs : List Nat) (Dl : Addr) (F : Hp) (ρ : Ev) (σ : St) (H : Hp) (acc : List V) (dacc : List D) : Prop where
  rs : RS K F ρ σ H
  nF : F Dl = none
  nO : ¬ OS ρ σ H Dl
  at_ : H Dl = some (.lst acc)
  rp : Rps K F acc dacc
  ok : okWipe ρ vs = true
/-- the loop that makes the list, or one clause's part of it -/
theorem lcLoop_ok (hts : ∀ i ∈ ts, i ∈ vs) {J : It} {ds : List D} {F1 H1 : Hp} {ρ1 : Ev} {σ : St} {Dl : Addr} {acc1 : List V} {dacc1 : List D} (ok : ItOk K J F1 ds) (C : List D → Ev → Prop) (Fin : Hp → Prop)
    (hfin : ∀ F ρ H acc dacc, LF K vs Dl F ρ σ H acc dacc → FrD Dl F1 ρ1 σ H1 F ρ σ H → C dacc ρ → Fin H) (hsz : ∀ xs ρ, C xs ρ → xs.length ≤ sizeLine)
    (l1 : LF K vs Dl F1 ρ1 σ H1 acc1 dacc1) (p : (lcR vs g t e ds ρ1).holds fun ys ρ4 => C (dacc1 ++ ys) ρ4) :
    ∃ W : Nat → Nat → Hp → Prop, (∃ m, W 0 m H1) ∧ ∀ i m H, W i m H → (J.stop i H ∧ Fin H) ∨ (J.go i H ∧ ∃ Nx : Hp → Prop, (∀ H', Nx H' → ∃ m', m' < m ∧ W (i + 1) m' H') ∧ ∀ x H', J.yld i H x H' → gT K ts g x (wipe σ vs) H' fun σ2 H2 =>
      wipe σ2 vs = wipe σ vs ∧ tT K W0 t σ2 H2 fun b H3 => if b = true then tV K W0 e σ2 H3 fun y H4 => ∃ acc, H4 Dl = some (.lst acc) ∧ acc.length < sizeLine ∧ Nx (upd H4 Dl (.lst (acc ++ [y]))) else Nx H3) := by
  refine ⟨fun i m H => ∃ F ρ acc dacc, LF K vs Dl F ρ σ H acc dacc ∧ FrD Dl F1 ρ1 σ H1 F ρ σ H ∧ m + i = ds.length ∧ (lcR vs g t e (ds.drop i) ρ).holds fun ys ρ4 => C (dacc ++ ys) ρ4,
    ⟨ds.length, F1, ρ1, acc1, dacc1, l1, FrD.refl, by omega, p⟩, fun i m H2 hW => ?_⟩
  obtain ⟨F2, ρ2, acc, dacc, l2, b2, em, p2⟩ := hW
  by_cases hi : i < ds.length
  · have ed : ds.drop i = ds[i] :: ds.drop (i + 1) := (List.drop_eq_getElem_cons hi)
    rw [ed] at p2
    obtain ⟨go, yl⟩ := (ok i F2 H2 b2.ext l2.rs.sub).1 ds[i] (List.getElem?_eq_getElem hi)
    refine .inr ⟨go, fun H => ∃ F ρ acc dacc, LF K vs Dl F ρ σ H acc dacc ∧ FrD Dl F1 ρ1 σ H1 F ρ σ H ∧ (m - 1) + (i + 1) = ds.length ∧ (lcR vs g t e (ds.drop (i + 1)) ρ).holds fun ys ρ4 => C (dacc ++ ys) ρ4, fun H' z => ⟨m - 1, by omega, z⟩, fun x H3 y => ?_⟩
    obtain ⟨F3, q1, q2, q3, q4, rx⟩ := yl x H3 y
    obtain ⟨s3, b3⟩ := ItOk.step l2.rs q1 q2 q3 q4
    have n3 : F3 Dl = none := Classical.byContradiction fun z => (q4 Dl z).elim (fun k => k l2.nF) fun k => by rw [l2.at_] at k; cases k
    have h3 : H3 Dl = some (.lst acc) := q2 _ _ l2.at_
    have o3 : ¬ OS ρ2 σ H3 Dl := fun z => l2.nO (OS.heap l2.rs (fun c o _ h => q2 c o h) z)
    have p2' : Res.holds (match g ds[i] (wipeC ρ2 vs) with
      | none => .stk
      | some ρ1 => (t ρ1).calm fun k ρ3 => if k = true then (e ρ3).calm fun y ρ4 => (lcR vs g t e (ds.drop (i + 1)) (unwipe ρ4 ρ2 vs)).calm fun ys ρ5 => .ok (y :: ys) ρ5 else lcR vs g t e (ds.drop (i + 1)) (unwipe ρ3 ρ2 vs)) (fun ys ρ4 => C (dacc ++ ys) ρ4) := p2
    cases qg : g ds[i] (wipeC ρ2 vs) with
    | none => rw [qg] at p2'; exact p2'.elim
    | some ρ4 =>
      rw [qg] at p2'
      dsimp only at p2'
      refine ⟨F3, wipeC ρ2 vs, ds[i], ρ4, s3.wipe vs, rx, qg, fun σ4 s4 b4 k4 l4 => ?_⟩
      have hσ4 : ∀ j, j ∉ vs → σ4[j]? = σ[j]? := fun j hj => (k4 j fun z => hj (hts j z)).trans (wipe_get' hj)
      have hl4 : σ4.length = σ.length := l4.trans (wipe_length σ vs)
      refine ⟨wipe_wipe hl4 hσ4, F3, ρ4, s4, ?_⟩
      rw [Res.holds_calm] at p2'
      cases qt : t ρ4 with
      | stk => rw [qt] at p2'; exact p2'.elim
      | ex _ _ _ => rw [qt] at p2'; exact p2'.elim
      | ok k ρ5 =>
        rw [qt] at p2'
        intro v F5 H5 s5 b5 r5
        have e5 : v = k := r5
        subst e5
        have p3 : Res.holds (if v = true then (e ρ5).calm fun y ρ4 => (lcR vs g t e (ds.drop (i + 1)) (unwipe ρ4 ρ2 vs)).calm fun ys ρ5 => .ok (y :: ys) ρ5 else lcR vs g t e (ds.drop (i + 1)) (unwipe ρ5 ρ2 vs)) (fun ys ρ4 => C (dacc ++ ys) ρ4) := p2'
        have stay : ∀ {F' H' : Hp} {ρ' : Ev}, Fr F3 (wipeC ρ2 vs) (wipe σ vs) H3 F' ρ' σ4 H' → RS K F' ρ' σ4 H' → F' Dl = none ∧ H' Dl = some (.lst acc) ∧ RS K F' (unwipe ρ' ρ2 vs) σ H' ∧ FrD Dl F1 ρ1 σ H1 F' (unwipe ρ' ρ2 vs) σ H' ∧ okWipe (unwipe ρ' ρ2 vs) vs = true ∧ ¬ OS (unwipe ρ' ρ2 vs) σ H' Dl := fun {F' H' ρ'} b s => by
          obtain ⟨u1, u2, u3⟩ := RS.unwipeD (Dl := Dl) s3 b.toD s l2.ok hσ4 hl4
          refine ⟨Classical.byContradiction fun z => ?_, b.keep _ _ h3 fun z => o3 z.wipe, u1, b2.trans (b3.toD.trans u2), u3, fun z => ?_⟩
          · rcases b.new Dl z with k | k | k
            · exact k n3
            · rw [h3] at k; cases k
            · exact o3 k.wipe
          · rcases u2.os Dl z with k | k
            · exact o3 k
            · rw [h3] at k; cases k
        cases v with
        | false =>
          rw [if_neg Bool.false_ne_true] at p3
          show if false = true then _ else _
          rw [if_neg Bool.false_ne_true]
          obtain ⟨c1, c2, c3, c4, c5, c6⟩ := stay (b4.trans b5) s5
          exact ⟨F5, _, acc, dacc, ⟨c3, c1, c6, c2, l2.rp.mono (q1.trans (b4.trans b5).ext), c5⟩, c4, by omega, p3⟩
        | true =>
          rw [if_pos rfl] at p3
          show if true = true then _ else _
          rw [if_pos rfl]
          refine ⟨F5, ρ5, s5, ?_⟩
          rw [Res.holds_calm] at p3
          cases qe : e ρ5 with
          | stk => rw [qe] at p3; exact p3.elim
          | ex _ _ _ => rw [qe] at p3; exact p3.elim
          | ok y ρ6 =>
            rw [qe] at p3
            intro yv F6 H6 s6 b6 r6
            have r6 : Rp K F6 yv y := r6
            obtain ⟨c1, c2, c3, c4, c5, c6⟩ := stay ((b4.trans b5).trans b6) s6
            have aa : Rps K F6 acc dacc := l2.rp.mono (q1.trans ((b4.trans b5).trans b6).ext)
            have p4 : (lcR vs g t e (ds.drop (i + 1)) (unwipe ρ6 ρ2 vs)).holds fun ys ρ4 => C (dacc ++ (y :: ys)) ρ4 := by
              have p3 : Res.holds ((lcR vs g t e (ds.drop (i + 1)) (unwipe ρ6 ρ2 vs)).calm fun ys ρ5 => .ok (y :: ys) ρ5) (fun ys ρ4 => C (dacc ++ ys) ρ4) := p3
              rw [Res.holds_calm] at p3
              exact p3
            refine ⟨acc, c2, ?_, F6, _, acc ++ [yv], dacc ++ [y], ⟨c3.chg c1 c6, c1, fun z => c6 (OS.chg c3 c6 z), upd_same, aa.append (.cons r6 .nil), c5⟩, c4.chg c3 c6, by omega, ?_⟩
            · cases qr : lcR vs g t e (ds.drop (i + 1)) (unwipe ρ6 ρ2 vs) with
              | stk => rw [qr] at p4; exact p4.elim
              | ex _ _ _ => rw [qr] at p4; exact p4.elim
              | ok ys ρ7 =>
                rw [qr] at p4
                have hz := hsz _ _ p4
                rw [aa.length]
                simp only [List.length_append, List.length_cons] at hz
                omega
            · exact Res.holds_imp p4 fun ys ρ z => by rw [List.append_assoc]; exact z
  · have ed : ds.drop i = [] := List.drop_eq_nil_of_le (by omega)
    rw [ed] at p2
    have p2' : C (dacc ++ []) ρ2 := p2
    rw [List.append_nil] at p2'
    exact .inl ⟨(ok i F2 H2 b2.ext l2.rs.sub).2 (by omega), hfin F2 ρ2 H2 acc dacc l2 b2 p2'⟩
end
/-- [e for t in it if c for t1 in it1 if c1] -/
def lcR2 (vs : List Nat) (g : D → Ev → Option Ev) (t : Ev → Res Bool) (it1 : Ev → Res (List D)) (vs1 : List Nat) (g1 : D → Ev → Option Ev) (t1 : Ev → Res Bool) (e : Ev → Res D) : List D → Ev → Res (List D)
  | [], ρ => .ok [] ρ
  | d :: ds, ρ => match g d (wipeC ρ vs) with
    | none => .stk
    | some ρ1 => (t ρ1).calm fun k ρ2 => if k = true then (it1 ρ2).calm fun ds1 ρ3 => if okWipe ρ3 vs1 = true then (lcR vs1 g1 t1 e ds1 ρ3).calm fun ys ρ4 => (lcR2 vs g t it1 vs1 g1 t1 e ds (unwipe ρ4 ρ vs)).calm fun zs ρ5 => .ok (ys ++ zs) ρ5 else .stk
      else lcR2 vs g t it1 vs1 g1 t1 e ds (unwipe ρ2 ρ vs)
def cLc2 (it : Ev → Res (List D)) (vs : List Nat) (g : D → Ev → Option Ev) (t : Ev → Res Bool) (it1 : Ev → Res (List D)) (vs1 : List Nat) (g1 : D → Ev → Option Ev) (t1 : Ev → Res Bool) (e : Ev → Res D) : CEx := fun ρ => (it ρ).bind fun ds ρ1 => if okWipe ρ1 vs = true then (lcR2 vs g t it1 vs1 g1 t1 e ds ρ1).calm fun ys ρ2 => if ys.length ≤ sizeLine then .ok (.fr (.lst ys)) ρ2 else .stk else .stk
section
variable {X : Cx} {W : WX} {ts vs ts1 vs1 : List Nat} {g g1 : D → Ev → Option Ev} {t t1 : Ev → Res Bool} {e : Ev → Res D} {it it1 : Ev → Res (List D)}
theorem tLc2_ok (hts : ∀ i ∈ ts, i ∈ vs) (hts1 : ∀ i ∈ ts1, i ∈ vs1) (hvs : ∀ i ∈ vs1, i ∈ vs) {σ : St} {H F : Hp} {Q : VK} {ρ : Ev} (s : RS X.K F ρ σ H) (p : Po X.K W (OR X.K) F ρ σ H Q (cLc2 it vs g t it1 vs1 g1 t1 e ρ)) :
    tLc2 (fun σ H R => ∃ F ρ, RS X.K F ρ σ H ∧ Po X.K W (RI X.K) F ρ σ H R (it ρ)) (gT X.K ts g) (tT X.K W0 t) (fun σ H R => ∃ F ρ, RS X.K F ρ σ H ∧ Po X.K W0 (RI X.K) F ρ σ H R (it1 ρ)) (gT X.K ts1 g1) (tT X.K W0 t1) (tV X.K W0 e) vs vs1 σ H Q := by
  refine ⟨F, ρ, s, p.bind (fun _ _ _ _ _ _ b => OR.dom b) fun ds ρ1 J F1 H1 s1 b1 r1 p1 Dl hD => ?_⟩
  have ok : ItOk X.K J F1 ds := r1
  by_cases okw : okWipe ρ1 vs = true
  case neg => rw [if_neg okw] at p1; exact p1.elim
  rw [if_pos okw] at p1
  have p1' : (lcR2 vs g t it1 vs1 g1 t1 e ds ρ1).holds fun ys ρ4 => ys.length ≤ sizeLine ∧ Po X.K W (OR X.K) F1 ρ1 σ H1 Q (.ok (.fr (.lst ys)) ρ4) := by
    cases q : lcR2 vs g t it1 vs1 g1 t1 e ds ρ1 with
    | stk => rw [q] at p1; exact p1.elim
    | ex _ _ _ => rw [q] at p1; exact p1.elim
    | ok ys ρ2 =>
      rw [q] at p1
      have p1 : Po X.K W (OR X.K) F1 ρ1 σ H1 Q (if ys.length ≤ sizeLine then .ok (.fr (.lst ys)) ρ2 else .stk) := p1
      by_cases hz : ys.length ≤ sizeLine
      · rw [if_pos hz] at p1; exact ⟨hz, p1⟩
      · rw [if_neg hz] at p1; exact p1.elim
  clear p1
  refine ⟨fun i m H => ∃ F ρ acc dacc, LF X.K vs Dl F ρ σ H acc dacc ∧ Fr F1 ρ1 σ H1 F ρ σ H ∧ m + i = ds.length ∧ (lcR2 vs g t it1 vs1 g1 t1 e (ds.drop i) ρ).holds fun ys ρ4 => (dacc ++ ys).length ≤ sizeLine ∧ Po X.K W (OR X.K) F1 ρ1 σ H1 Q (.ok (.fr (.lst (dacc ++ ys))) ρ4),
    ⟨ds.length, F1, ρ1, [], [], ⟨s1.newH hD, s1.free hD, fun z => s1.notOS hD (s1.osNew hD z), upd_same, .nil, okw⟩, Fr.newH s1 hD, by omega, p1'⟩, fun i m H2 hW => ?_⟩
  obtain ⟨F2, ρ2, acc, dacc, l2, b2, em, p2⟩ := hW
  by_cases hi : i < ds.length
  · have ed : ds.drop i = ds[i] :: ds.drop (i + 1) := (List.drop_eq_getElem_cons hi)
    rw [ed] at p2
    obtain ⟨go, yl⟩ := (ok i F2 H2 b2.ext l2.rs.sub).1 ds[i] (List.getElem?_eq_getElem hi)
    refine .inr ⟨go, fun H => ∃ F ρ acc dacc, LF X.K vs Dl F ρ σ H acc dacc ∧ Fr F1 ρ1 σ H1 F ρ σ H ∧ (m - 1) + (i + 1) = ds.length ∧ (lcR2 vs g t it1 vs1 g1 t1 e (ds.drop (i + 1)) ρ).holds fun ys ρ4 => (dacc ++ ys).length ≤ sizeLine ∧ Po X.K W (OR X.K) F1 ρ1 σ H1 Q (.ok (.fr (.lst (dacc ++ ys))) ρ4), fun H' z => ⟨m - 1, by omega, z⟩, fun x H3 y => ?_⟩
    obtain ⟨F3, q1, q2, q3, q4, rx⟩ := yl x H3 y
    obtain ⟨s3, b3⟩ := ItOk.step l2.rs q1 q2 q3 q4
    have n3 : F3 Dl = none := Classical.byContradiction fun z => (q4 Dl z).elim (fun k => k l2.nF) fun k => by rw [l2.at_] at k; cases k
    have h3 : H3 Dl = some (.lst acc) := q2 _ _ l2.at_
    have o3 : ¬ OS ρ2 σ H3 Dl := fun z => l2.nO (OS.heap l2.rs (fun c o _ h => q2 c o h) z)
    have p2' : Res.holds (match g ds[i] (wipeC ρ2 vs) with
      | none => .stk
      | some ρ1 => (t ρ1).calm fun k ρ3 => if k = true then (it1 ρ3).calm fun ds1 ρ4 => if okWipe ρ4 vs1 = true then (lcR vs1 g1 t1 e ds1 ρ4).calm fun ys ρ5 => (lcR2 vs g t it1 vs1 g1 t1 e (ds.drop (i + 1)) (unwipe ρ5 ρ2 vs)).calm fun zs ρ6 => .ok (ys ++ zs) ρ6 else .stk
        else lcR2 vs g t it1 vs1 g1 t1 e (ds.drop (i + 1)) (unwipe ρ3 ρ2 vs)) (fun ys ρ4 => (dacc ++ ys).length ≤ sizeLine ∧ Po X.K W (OR X.K) F1 ρ1 σ H1 Q (.ok (.fr (.lst (dacc ++ ys))) ρ4)) := p2
    cases qg : g ds[i] (wipeC ρ2 vs) with
    | none => rw [qg] at p2'; exact p2'.elim
    | some ρ4 =>
      rw [qg] at p2'
      dsimp only at p2'
      refine ⟨F3, wipeC ρ2 vs, ds[i], ρ4, s3.wipe vs, rx, qg, fun σ4 s4 b4 k4 l4 => ?_⟩
      have hσ4 : ∀ j, j ∉ vs → σ4[j]? = σ[j]? := fun j hj => (k4 j fun z => hj (hts j z)).trans (wipe_get' hj)
      have hl4 : σ4.length = σ.length := l4.trans (wipe_length σ vs)
      refine ⟨wipe_wipe hl4 hσ4, F3, ρ4, s4, ?_⟩
      rw [Res.holds_calm] at p2'
      cases qt : t ρ4 with
      | stk => rw [qt] at p2'; exact p2'.elim
      | ex _ _ _ => rw [qt] at p2'; exact p2'.elim
      | ok k ρ5 =>
        rw [qt] at p2'
        intro v F5 H5 s5 b5 r5
        have e5 : v = k := r5
        subst e5
        -- what stays true of the new list: from the turn's start
        have stay0 : ∀ {F' H' : Hp} {ρ' : Ev}, Fr F3 (wipeC ρ2 vs) (wipe σ vs) H3 F' ρ' σ4 H' → F' Dl = none ∧ H' Dl = some (.lst acc) ∧ ¬ OS ρ' σ4 H' Dl := fun {F' H' ρ'} b => by
          refine ⟨Classical.byContradiction fun z => ?_, b.keep _ _ h3 fun z => o3 z.wipe, fun z => ?_⟩
          · rcases b.new Dl z with k | k | k
            · exact k n3
            · rw [h3] at k; cases k
            · exact o3 k.wipe
          · rcases b.os Dl z with k | k
            · exact o3 k.wipe
            · rw [h3] at k; cases k
        have fin : ∀ {F' H' : Hp} {ρ' : Ev} {acc' : List V} {dacc' : List D}, FrD Dl F3 (wipeC ρ2 vs) (wipe σ vs) H3 F' ρ' σ4 H' → RS X.K F' ρ' σ4 H' → F' Dl = none → H' Dl = some (.lst acc') → Rps X.K F' acc' dacc' →
            LF X.K vs Dl F' (unwipe ρ' ρ2 vs) σ H' acc' dacc' ∧ Fr F1 ρ1 σ H1 F' (unwipe ρ' ρ2 vs) σ H' := fun {F' H' ρ' acc' dacc'} b s c1 c2 c3 => by
          obtain ⟨u1, u2, u3⟩ := RS.unwipeD s3 b s l2.ok hσ4 hl4
          refine ⟨⟨u1, c1, fun z => ?_, c2, c3, u3⟩, ((b2.trans b3).toD.trans u2).toFr hD⟩
          rcases u2.os Dl z with k | k
          · exact o3 k
          · rw [h3] at k; cases k
        cases v with
        | false =>
          show if false = true then _ else _
          rw [if_neg Bool.false_ne_true]
          obtain ⟨c1, c2, _⟩ := stay0 (b4.trans b5)
          obtain ⟨f1, f2⟩ := fin (b4.trans b5).toD s5 c1 c2 (l2.rp.mono (q1.trans (b4.trans b5).ext))
          exact ⟨F5, _, acc, dacc, f1, f2, by omega, p2'⟩
        | true =>
          show if true = true then _ else _
          rw [if_pos rfl]
          have p3 : Res.holds ((it1 ρ5).calm fun ds1 ρ4 => if okWipe ρ4 vs1 = true then (lcR vs1 g1 t1 e ds1 ρ4).calm fun ys ρ5 => (lcR2 vs g t it1 vs1 g1 t1 e (ds.drop (i + 1)) (unwipe ρ5 ρ2 vs)).calm fun zs ρ6 => .ok (ys ++ zs) ρ6 else .stk) (fun ys ρ4 => (dacc ++ ys).length ≤ sizeLine ∧ Po X.K W (OR X.K) F1 ρ1 σ H1 Q (.ok (.fr (.lst (dacc ++ ys))) ρ4)) := p2'
          rw [Res.holds_calm] at p3
          refine ⟨F5, ρ5, s5, ?_⟩
          cases qi : it1 ρ5 with
          | stk => rw [qi] at p3; exact p3.elim
          | ex _ _ _ => rw [qi] at p3; exact p3.elim
          | ok ds1 ρ6 =>
            rw [qi] at p3
            intro J1 F6 H6 s6 b6 r6
            have ok1 : ItOk X.K J1 F6 ds1 := r6
            have p4 : Res.holds (if okWipe ρ6 vs1 = true then (lcR vs1 g1 t1 e ds1 ρ6).calm fun ys ρ5 => (lcR2 vs g t it1 vs1 g1 t1 e (ds.drop (i + 1)) (unwipe ρ5 ρ2 vs)).calm fun zs ρ6 => .ok (ys ++ zs) ρ6 else .stk) (fun ys ρ4 => (dacc ++ ys).length ≤ sizeLine ∧ Po X.K W (OR X.K) F1 ρ1 σ H1 Q (.ok (.fr (.lst (dacc ++ ys))) ρ4)) := p3
            by_cases okw1 : okWipe ρ6 vs1 = true
            case neg => rw [if_neg okw1] at p4; exact p4.elim
            rw [if_pos okw1, Res.holds_calm] at p4
            have bb := (b4.trans b5).trans b6
            obtain ⟨c1, c2, c3⟩ := stay0 bb
            refine lcLoop_ok (K := X.K) hts1 ok1 (fun xs ρ7 => (lcR2 vs g t it1 vs1 g1 t1 e (ds.drop (i + 1)) (unwipe ρ7 ρ2 vs)).holds fun zs ρ8 => (xs ++ zs).length ≤ sizeLine ∧ Po X.K W (OR X.K) F1 ρ1 σ H1 Q (.ok (.fr (.lst (xs ++ zs))) ρ8)) _
              (fun F7 ρ7 H7 acc7 dacc7 l7 b7 z => ?_) (fun xs ρ7 z => ?_) ⟨s6, c1, c3, c2, l2.rp.mono (q1.trans bb.ext), okw1⟩ ?_
            · obtain ⟨f1, f2⟩ := fin (bb.toD.trans b7) l7.rs l7.nF l7.at_ l7.rp
              exact ⟨F7, _, acc7, dacc7, f1, f2, by omega, z⟩
            · revert z
              generalize lcR2 vs g t it1 vs1 g1 t1 e (ds.drop (i + 1)) (unwipe ρ7 ρ2 vs) = r
              intro z
              cases r with
              | ok zs ρ8 => have := z.1; simp only [List.length_append] at this; omega
              | ex _ _ _ => exact z.elim
              | stk => exact z.elim
            · refine Res.holds_imp p4 fun ys ρ7 z => ?_
              rw [Res.holds_calm] at z
              exact Res.holds_imp z fun zs ρ8 z => by
                have z : (dacc ++ (ys ++ zs)).length ≤ sizeLine ∧ Po X.K W (OR X.K) F1 ρ1 σ H1 Q (.ok (.fr (.lst (dacc ++ (ys ++ zs)))) ρ8) := z
                rw [← List.append_assoc] at z
                exact z
  · have ed : ds.drop i = [] := List.drop_eq_nil_of_le (by omega)
    rw [ed] at p2
    have p2' : (dacc ++ []).length ≤ sizeLine ∧ Po X.K W (OR X.K) F1 ρ1 σ H1 Q (.ok (.fr (.lst (dacc ++ []))) ρ2) := p2
    rw [List.append_nil] at p2'
    exact .inl ⟨(ok i F2 H2 b2.ext l2.rs.sub).2 (by omega), p2'.2 (.ref Dl) F2 H2 l2.rs b2 ⟨Dl, rfl, fun c hc => by rw [In.one rfl hc]; exact ⟨l2.nF, hD, l2.nO⟩, acc, l2.at_, l2.rp⟩⟩
end
section
variable {X : Cx} {W : WX} {elt tg iter tg1 iter1 c : Expr} {ifs ifs1 : List Expr} {scope : Scope} {pos : Pos} {ts ts1 vs1 : List Nat} {g g1 : D → Ev → Option Ev} {t t1 : Ev → Res Bool} {e : Ev → Res D} {it it1 : Ev → Res (List D)}
theorem cLc2_new {it : Ev → Res (List D)} {vs : List Nat} {g : D → Ev → Option Ev} {t : Ev → Res Bool} {it1 : Ev → Res (List D)} {vs1 : List Nat} {g1 : D → Ev → Option Ev} {t1 : Ev → Res Bool} {e : Ev → Res D} {ρ ρ' : Ev} {o : Opd} (h : cLc2 it vs g t it1 vs1 g1 t1 e ρ = .ok o ρ') : isNew o := by
  unfold cLc2 at h
  cases q : it ρ with
  | stk => rw [q] at h; cases h
  | ex _ _ _ => rw [q] at h; cases h
  | ok ds ρ1 =>
    rw [q] at h
    have h1 : (if okWipe ρ1 vs = true then (lcR2 vs g t it1 vs1 g1 t1 e ds ρ1).calm fun ys ρ2 => if ys.length ≤ sizeLine then Res.ok (.fr (.lst ys)) ρ2 else .stk else .stk) = Res.ok o ρ' := h
    split at h1
    · cases q2 : lcR2 vs g t it1 vs1 g1 t1 e ds ρ1 with
      | stk => rw [q2] at h1; cases h1
      | ex _ _ _ => rw [q2] at h1; cases h1
      | ok ys ρ2 =>
        rw [q2] at h1
        have h2 : (if ys.length ≤ sizeLine then Res.ok (.fr (.lst ys)) ρ2 else .stk) = Res.ok o ρ' := h1
        split at h2
        · cases h2; trivial
        · cases h2
    · cases h1
theorem je_lc2 (own : List (Str × Nat)) (vs1 : List Nat) (hc : X.calm = true) (hN : X.N.Nodup) (hi : JI X W tg iter it) (ok : BlkOk X.N X.env.scope scope own) (hvs : ∀ i ∈ vs1, i ∈ own.map (·.2))
    (hg : ∀ (s : Shared) (H : Hp) (C : Addr) (cl : List (Str × Addr)) (fp : List Addr), JG (X.blk s H scope (compEnvC scope cl C X.env) fp) tg ts g) (hts : ∀ i ∈ ts, i ∈ own.map (·.2))
    (ht : ∀ (s : Shared) (H : Hp) (C : Addr) (cl : List (Str × Addr)) (fp : List Addr), JTs (X.blk s H scope (compEnvC scope cl C X.env) fp) W0 ifs t)
    (hi1 : ∀ (s : Shared) (H : Hp) (C : Addr) (cl : List (Str × Addr)) (fp : List Addr), JI (X.blk s H scope (compEnvC scope cl C X.env) fp) W0 tg1 iter1 it1)
    (hg1 : ∀ (s : Shared) (H : Hp) (C : Addr) (cl : List (Str × Addr)) (fp : List Addr), JG (X.blk s H scope (compEnvC scope cl C X.env) fp) tg1 ts1 g1) (hts1 : ∀ i ∈ ts1, i ∈ vs1)
    (ht1 : ∀ (s : Shared) (H : Hp) (C : Addr) (cl : List (Str × Addr)) (fp : List Addr), JTs (X.blk s H scope (compEnvC scope cl C X.env) fp) W0 ifs1 t1)
    (he : ∀ (s : Shared) (H : Hp) (C : Addr) (cl : List (Str × Addr)) (fp : List Addr), JV (X.blk s H scope (compEnvC scope cl C X.env) fp) W0 elt e) (hs : ∀ x, foldedSetIterable iter X.env x = pure x := by intro _; rfl) (hs1 : ∀ env x, foldedSetIterable iter1 env x = pure x := by intro _ _; rfl) :
    JE X W (.ListComp elt [⟨tg, iter, ifs, 0⟩, ⟨tg1, iter1, ifs1, 0⟩] scope pos) (cLc2 it (own.map (·.2)) g t it1 vs1 g1 t1 e) :=
  .by (pe_lc2 hc hN hi.pi ok hvs (fun s H C cl fp => (hg s H C cl fp).pg) (fun s H C cl fp => (ht s H C cl fp).pt) (fun s H C cl fp => (hi1 s H C cl fp).pi) (fun s H C cl fp => (hg1 s H C cl fp).pg) (fun s H C cl fp => (ht1 s H C cl fp).pt) (fun s H C cl fp => (he s H C cl fp).pe) hs hs1) fun σ H Q F ρ s p => tLc2_ok hts hts1 hvs s p
/-- name = [.. for .. for ..] on one line -/
theorem js_setLc2 (i : Nat) {P : List Nat} {y : Str} {py spos : Pos} (own : List (Str × Nat)) (vs1 : List Nat) (hc : X.calm = true) (hN : X.N.Nodup) (hi : JI X W tg iter it) (ok : BlkOk X.N X.env.scope scope own) (hvs : ∀ i ∈ vs1, i ∈ own.map (·.2))
    (hg : ∀ (s : Shared) (H : Hp) (C : Addr) (cl : List (Str × Addr)) (fp : List Addr), JG (X.blk s H scope (compEnvC scope cl C X.env) fp) tg ts g) (hts : ∀ i ∈ ts, i ∈ own.map (·.2))
    (ht : ∀ (s : Shared) (H : Hp) (C : Addr) (cl : List (Str × Addr)) (fp : List Addr), JTs (X.blk s H scope (compEnvC scope cl C X.env) fp) W0 ifs t)
    (hi1 : ∀ (s : Shared) (H : Hp) (C : Addr) (cl : List (Str × Addr)) (fp : List Addr), JI (X.blk s H scope (compEnvC scope cl C X.env) fp) W0 tg1 iter1 it1)
    (hg1 : ∀ (s : Shared) (H : Hp) (C : Addr) (cl : List (Str × Addr)) (fp : List Addr), JG (X.blk s H scope (compEnvC scope cl C X.env) fp) tg1 ts1 g1) (hts1 : ∀ i ∈ ts1, i ∈ vs1)
    (ht1 : ∀ (s : Shared) (H : Hp) (C : Addr) (cl : List (Str × Addr)) (fp : List Addr), JTs (X.blk s H scope (compEnvC scope cl C X.env) fp) W0 ifs1 t1)
    (he : ∀ (s : Shared) (H : Hp) (C : Addr) (cl : List (Str × Addr)) (fp : List Addr), JV (X.blk s H scope (compEnvC scope cl C X.env) fp) W0 elt e)
    (hsw : swapsWith (.ListComp elt [⟨tg, iter, ifs, 0⟩, ⟨tg1, iter1, ifs1, 0⟩] scope pos) (some (.Name y py)) spos.line X.env = pure true) (hy : X.N[i]? = some y := by rfl) (hyl : X.env.scope.names.lookup y = some .local := by rfl) (hP : i ∉ P := by decide)
    (hs : ∀ x, foldedSetIterable iter X.env x = pure x := by intro _; rfl) (hs1 : ∀ env x, foldedSetIterable iter1 env x = pure x := by intro _ _; rfl) :
    JS X W P (.Assign [.Name y py] (.ListComp elt [⟨tg, iter, ifs, 0⟩, ⟨tg1, iter1, ifs1, 0⟩] scope pos) spos) (cSet i (cLc2 it (own.map (·.2)) g t it1 vs1 g1 t1 e)) :=
  .by (ps_setLc2 hc hN hy hyl hsw hi.pi ok hvs (fun s H C cl fp => (hg s H C cl fp).pg) (fun s H C cl fp => (ht s H C cl fp).pt) (fun s H C cl fp => (hi1 s H C cl fp).pi) (fun s H C cl fp => (hg1 s H C cl fp).pg) (fun s H C cl fp => (ht1 s H C cl fp).pt) (fun s H C cl fp => (he s H C cl fp).pe) hs hs1) fun D σ H F ρ s p => by
    refine tLc2_ok (W := W) (g := g) (t := t) (it1 := it1) (g1 := g1) (t1 := t1) (e := e) (it := it) hts hts1 hvs s ?_
    unfold cSet at p
    cases q : cLc2 it (own.map (·.2)) g t it1 vs1 g1 t1 e ρ with
    | stk => rw [q] at p; exact p
    | ex c d ρ' => rw [q] at p; exact fun dx v F' H' s r' => p dx v σ F' H' s r' (Pin.refl _ _)
    | ok o ρ' =>
      rw [q] at p
      intro v F' H' s' b' r'
      have p' : Ps X.K W P F ρ σ H D (optS (setC i o ρ')) := p
      cases e1 : setC i o ρ' with
      | none => rw [e1] at p'; exact p'.elim
      | some ρ2 =>
        rw [e1] at p'
        obtain ⟨s2, b2⟩ := set_new (cLc2_new q) s' b' r' e1
        exact p' _ F' H' s2 b2 fun j hj => List.getElem?_set_ne fun z => hP (by rw [z]; exact hj)
end
end PL
/-! PL15: order of data; the place of a sign; sorted, min, max -/
namespace PL
open PySem PySem.Spec L2
open PyProof.Rows (envOfC)
open PySem.W (alike dataLt lt_data gt_data le_data ge_data alikeAll minD)
/-! ### order of any data -/
def ltP (x y : D) : Option Bool := match toP x, toP y with
  | some p, some q => if alike p q && (!isNon x && decide (p.depth ≤ 64)) then some (dataLt p q) else none
  | _, _ => none
def leP (x y : D) : Option Bool := match toP x, toP y with
  | some p, some q => if alike p q && (!isNon x && decide (p.depth ≤ 64)) then some (!dataLt q p) else none
  | _, _ => none
def gtP (x y : D) : Option Bool := match toP x, toP y with
  | some p, some q => if alike p q && (!isNon x && decide (p.depth ≤ 64)) then some (dataLt q p) else none
  | _, _ => none
def geP (x y : D) : Option Bool := match toP x, toP y with
  | some p, some q => if alike p q && (!isNon x && decide (p.depth ≤ 64)) then some (!dataLt p q) else none
  | _, _ => none
def rCmp (K : PySem.W.Frag) (f : PyData → PyData → Bool) : R2 := fun x y H Q => ∃ d e, Dp K H x d ∧ Dp K H y e ∧ alike d e = true ∧ d ≠ .none ∧ d.depth ≤ 64 ∧ Q (.bl (f d e)) H
section
variable {X : Cx} {K : PySem.W.Frag}
theorem op_ltP (hu : X.A.units + 64 < cLine) : OpR X (compareOp .Lt) (rCmp X.K dataLt) := by
  intro pins s σ H x y v u Q I rx ry h
  obtain ⟨d, e, hd, he, ha, hn, hz, q⟩ := h
  obtain ⟨as, r1⟩ := Dp.reads I d x v hd rx
  obtain ⟨bs, r2⟩ := Dp.reads I e y u he ry
  exact lt_data r1 r2 ha hn (by have : min d.depth e.depth ≤ d.depth := Nat.min_le_left _ _; omega) ⟨.bl _, H, I, rfl, q⟩
theorem op_gtP (hu : X.A.units + 64 < cLine) : OpR X (compareOp .Gt) (rCmp X.K fun d e => dataLt e d) := by
  intro pins s σ H x y v u Q I rx ry h
  obtain ⟨d, e, hd, he, ha, hn, hz, q⟩ := h
  obtain ⟨as, r1⟩ := Dp.reads I d x v hd rx
  obtain ⟨bs, r2⟩ := Dp.reads I e y u he ry
  exact gt_data r1 r2 ha hn (by have : min d.depth e.depth ≤ d.depth := Nat.min_le_left _ _; omega) ⟨.bl _, H, I, rfl, q⟩
theorem op_leP (hu : X.A.units + 64 < cLine) : OpR X (compareOp .LtE) (rCmp X.K fun d e => !dataLt e d) := by
  intro pins s σ H x y v u Q I rx ry h
  obtain ⟨d, e, hd, he, ha, hn, hz, q⟩ := h
  obtain ⟨as, r1⟩ := Dp.reads I d x v hd rx
  obtain ⟨bs, r2⟩ := Dp.reads I e y u he ry
  exact le_data r1 r2 ha hn (by have : min d.depth e.depth ≤ d.depth := Nat.min_le_left _ _; omega) ⟨.bl _, H, I, rfl, q⟩
theorem op_geP (hu : X.A.units + 64 < cLine) : OpR X (compareOp .GtE) (rCmp X.K fun d e => !dataLt d e) := by
  intro pins s σ H x y v u Q I rx ry h
  obtain ⟨d, e, hd, he, ha, hn, hz, q⟩ := h
  obtain ⟨as, r1⟩ := Dp.reads I d x v hd rx
  obtain ⟨bs, r2⟩ := Dp.reads I e y u he ry
  exact ge_data r1 r2 ha hn (by have : min d.depth e.depth ≤ d.depth := Nat.min_le_left _ _; omega) ⟨.bl _, H, I, rfl, q⟩
theorem isNon_toP {x : D} {p : PyData} (h : toP x = some p) (hn : isNon x = false) : p ≠ .none := fun e => by
  subst e
  cases x with
  | non => cases hn
  | tup xs => have h' : (toPs xs).map PyData.tuple = some .none := h; cases q : toPs xs <;> rw [q] at h' <;> cases h'
  | lst xs => have h' : (toPs xs).map PyData.list = some .none := h; cases q : toPs xs <;> rw [q] at h' <;> cases h'
  | _ => cases h
theorem sm_cmpP (f : PyData → PyData → Bool) : Sem2 K (rCmp K f) (fun x y => (match toP x, toP y with
    | some p, some q => if alike p q && (!isNon x && decide (p.depth ≤ 64)) then some (f p q) else none
    | _, _ => none).map fun k => .vl (.bl k)) := fun W F ρ σ H x y dx dy o Q s ax ay e p => by
  dsimp only at e
  cases q1 : toP dx with
  | none => rw [q1] at e; cases e
  | some px =>
    cases q2 : toP dy with
    | none => rw [q1, q2] at e; cases e
    | some py =>
      rw [q1, q2] at e
      dsimp only at e
      split at e
      · rename_i hc
        cases e
        obtain ⟨h1, h2⟩ := Bool.and_eq_true_iff.mp hc
        obtain ⟨h2, h3⟩ := Bool.and_eq_true_iff.mp h2
        exact ⟨px, py, ax.dp s.sub q1, ay.dp s.sub q2, h1, isNon_toP q1 (by simpa using h2), of_decide_eq_true h3, p.here s (.bl _)⟩
      · cases e
def dLtA : D → D → Option Opd := orO dLt fun x y => (ltP x y).map fun k => .vl (.bl k)
def dLeA : D → D → Option Opd := orO dLe fun x y => (leP x y).map fun k => .vl (.bl k)
def dGtA : D → D → Option Opd := orO dGt fun x y => (gtP x y).map fun k => .vl (.bl k)
def dGeA : D → D → Option Opd := orO dGe fun x y => (geP x y).map fun k => .vl (.bl k)
def rLtA (K : PySem.W.Frag) : R2 := fun x y H Q => (fun x y H Q => rI0 (fun i j => .bl (decide (i < j))) x y H Q ∨ (fun x y H Q => ∃ i j, x = .str i ∧ y = .str j ∧ Q (.bl (decide (i.cps.toList < j.cps.toList))) H) x y H Q) x y H Q ∨ rCmp K dataLt x y H Q
def rLeA (K : PySem.W.Frag) : R2 := fun x y H Q => rI0 (fun i j => .bl (decide (i ≤ j))) x y H Q ∨ rCmp K (fun d e => !dataLt e d) x y H Q
def rGtA (K : PySem.W.Frag) : R2 := fun x y H Q => rI0 (fun i j => .bl (decide (j < i))) x y H Q ∨ rCmp K (fun d e => dataLt e d) x y H Q
def rGeA (K : PySem.W.Frag) : R2 := fun x y H Q => rI0 (fun i j => .bl (decide (j ≤ i))) x y H Q ∨ rCmp K (fun d e => !dataLt d e) x y H Q
theorem op_dLtA (hu : X.A.units + 64 < cLine) : OpR X (compareOp .Lt) (rLtA X.K) := OpR.or op_dLt (op_ltP hu)
theorem sm_dLtA : Sem2 K (rLtA K) dLtA := sm_or sm_dLt (sm_cmpP dataLt)
theorem op_dLeA (hu : X.A.units + 64 < cLine) : OpR X (compareOp .LtE) (rLeA X.K) := OpR.or L2.op_le (op_leP hu)
theorem sm_dLeA : Sem2 K (rLeA K) dLeA := sm_or sm_dLe (sm_cmpP fun d e => !dataLt e d)
theorem op_dGtA (hu : X.A.units + 64 < cLine) : OpR X (compareOp .Gt) (rGtA X.K) := OpR.or L2.op_gt (op_gtP hu)
theorem sm_dGtA : Sem2 K (rGtA K) dGtA := sm_or sm_dGt (sm_cmpP fun d e => dataLt e d)
theorem op_dGeA (hu : X.A.units + 64 < cLine) : OpR X (compareOp .GtE) (rGeA X.K) := OpR.or L2.op_ge (op_geP hu)
theorem sm_dGeA : Sem2 K (rGeA K) dGeA := sm_or sm_dGe (sm_cmpP fun d e => !dataLt d e)
end
/-! ### text.index(sign) -/
open PySem.StrLaws in
theorem occ_full (s sub : Str) (hi : Nat) : ∀ (l : List Nat) (st : Array Nat × Nat), 1 ≤ st.fst.size → (forIn l st (occBody s sub hi 1)).run.fst = st.fst
  | [], st, h => rfl
  | a :: l, st, h => by
    rw [List.forIn_cons]
    unfold occBody
    rw [if_neg (fun z => by have := z.1.1.1; omega)]
    exact occ_full s sub hi l (st.fst, st.snd) h
open PySem.StrLaws in
theorem occ_first (s sub : Str) (hi : Nat) : ∀ (l : List Nat) (free i : Nat), (∀ j ∈ l, free ≤ j) → l.Pairwise (· < ·) → i ∈ l → (i + sub.length ≤ hi ∧ Builtin.Str.subAt s sub i = true) → (∀ j ∈ l, j < i → ¬ (j + sub.length ≤ hi ∧ Builtin.Str.subAt s sub j = true)) →
    (forIn l ((#[] : Array Nat), free) (occBody s sub hi 1)).run.fst = #[i]
  | [], free, i, _, _, hm, _, _ => by cases hm
  | a :: l, free, i, hf, hp, hm, h, hn => by
    rw [List.forIn_cons]
    unfold occBody
    by_cases e : a = i
    · subst e
      rw [if_pos ⟨⟨⟨by simp, hf a List.mem_cons_self⟩, h.1⟩, h.2⟩]
      have := occ_full s sub hi l ((#[] : Array Nat).push a, a + sub.length) (by simp)
      exact this
    · have hi' : i ∈ l := (List.mem_cons.mp hm).resolve_left (Ne.symm e)
      have hlt : a < i := (List.pairwise_cons.mp hp).1 i hi'
      rw [if_neg fun z => hn a List.mem_cons_self hlt ⟨z.1.2, z.2⟩]
      exact occ_first s sub hi l free i (fun j hj => hf j (List.mem_cons_of_mem _ hj)) (List.pairwise_cons.mp hp).2 hi' h fun j hj => hn j (List.mem_cons_of_mem _ hj)
theorem occ_idx {z : List Nat} {c : Nat} (h : c ∈ z) : Builtin.Str.occurrences ⟨z.toArray⟩ ⟨#[c]⟩ 0 (Str.mk z.toArray).length 1 = [z.idxOf c] := by
  rw [StrLaws.occ_eq]
  have hlt : z.idxOf c < z.length := List.idxOf_lt_length_iff.mpr h
  have hl : (Str.mk z.toArray).length = z.length := str_len z
  rw [occ_first ⟨z.toArray⟩ ⟨#[c]⟩ _ _ 0 (z.idxOf c) (fun _ _ => Nat.zero_le _) (List.pairwise_lt_range') (by rw [hl]; simp; omega) ?_ ?_]
  · refine (StrLaws.subAt_one _ c _).mpr ?_
    show z.toArray.toList[z.idxOf c]? = some c
    rw [List.getElem?_eq_getElem (by simpa using hlt)]
    simp
  · intro j _ hj hA
    have h1 := (StrLaws.subAt_one _ c j).mp hA
    have h2 : z[j]? = some c := by simpa using h1
    obtain ⟨h3, h4⟩ := List.getElem?_eq_some_iff.mp h2
    have := List.not_of_lt_findIdx (p := (· == c)) (xs := z) (i := j) hj
    rw [h4] at this
    simp at this
def dIndex : D → D → Option Opd := fun x y => match x, y with
  | .str s, .str [c] => if c ∈ s then some (.vl (.int (s.idxOf c : Nat))) else none
  | _, _ => none
theorem sm_index {K : PySem.W.Frag} : Sem2 K (fun x y H Q => (fun x xs H Q => ∃ a b i rest, x = .str a ∧ xs = [.str b] ∧ Builtin.Str.occurrences a b 0 a.length 1 = i :: rest ∧ Q (.int (i : Nat)) H) x [y] H Q) dIndex := fun W F ρ σ H x y dx dy o Q s ax ay e p => by
  unfold dIndex at e
  split at e
  · split at e
    · rename_i z c hc
      cases e
      rw [ax.str, ay.str]
      exact ⟨_, _, _, _, rfl, rfl, occ_idx hc, p.here s (.int _)⟩
    · cases e
  · cases e
/-! ### data back -/
mutual
def fromP : PyData → D
  | .none => .non
  | .bool b => .bl b
  | .int i => .int i
  | .str s => .str s.cps.toList
  | .tuple xs => .tup (fromPs xs)
  | .list xs => .lst (fromPs xs)
  | _ => .non
def fromPs : List PyData → List D
  | [] => []
  | d :: ds => fromP d :: fromPs ds
end
mutual
theorem from_to : ∀ {d : D} {p : PyData}, toP d = some p → fromP p = d
  | .non, _, e => by cases e; unfold fromP; rfl
  | .bl b, _, e => by cases e; unfold fromP; rfl
  | .int i, _, e => by cases e; unfold fromP; rfl
  | .str s, _, e => by cases e; unfold fromP; rfl
  | .tup xs, _, e => by
    have e' : (toPs xs).map PyData.tuple = some _ := e
    cases q : toPs xs with
    | none => rw [q] at e'; cases e'
    | some ps => rw [q] at e'; cases e'; unfold fromP; rw [froms_to q]
  | .lst xs, _, e => by
    have e' : (toPs xs).map PyData.list = some _ := e
    cases q : toPs xs with
    | none => rw [q] at e'; cases e'
    | some ps => rw [q] at e'; cases e'; unfold fromP; rw [froms_to q]
  | .scr xs, _, e => by cases e
  | .dct _ _, _, e => by cases e
  | .set xs, _, e => by cases e
  | .err _ _, _, e => by cases e
theorem froms_to : ∀ {ds : List D} {ps : List PyData}, toPs ds = some ps → fromPs ps = ds
  | [], _, e => by cases e; unfold fromPs; rfl
  | d :: ds, _, e => by
    unfold toPs at e
    cases q : toP d with
    | none => rw [q] at e; cases e
    | some p =>
      rw [q] at e
      have e' : (toPs ds).map (p :: ·) = some _ := e
      cases q2 : toPs ds with
      | none => rw [q2] at e'; cases e'
      | some ps => rw [q2] at e'; cases e'; unfold fromPs; rw [from_to q, froms_to q2]
end
theorem toPs_get : ∀ {ds : List D} {ps : List PyData} {i : Nat} {d : D}, toPs ds = some ps → ds[i]? = some d → ∃ p, ps[i]? = some p ∧ toP d = some p
  | [], _, _, _, _, hi => by simp at hi
  | x :: ds, ps, i, d, e, hi => by
    unfold toPs at e
    cases q : toP x with
    | none => rw [q] at e; cases e
    | some p =>
      rw [q] at e
      have e' : (toPs ds).map (p :: ·) = some ps := e
      cases q2 : toPs ds with
      | none => rw [q2] at e'; cases e'
      | some qs =>
        rw [q2] at e'
        cases e'
        cases i with
        | zero => simp at hi; subst hi; exact ⟨p, rfl, q⟩
        | succ i =>
          obtain ⟨r, h1, h2⟩ := toPs_get (i := i) q2 (by simpa using hi)
          exact ⟨r, by simpa using h1, h2⟩
end PL
/-! PL16: reckoning step by step -/
namespace PL
open PySem PySem.Spec L2
section
variable {fa fb fc : CEx} {ρ ρ1 ρ2 ρ3 : Ev} {oa ob o : Opd} {x y z : D} {b c : Bool} {t u : Ev → Res Bool} {f g : CSt} {i : Nat} {r : SRes}
theorem ev2 {G : D → D → Option Opd} (h1 : fa ρ = .ok oa ρ1) (h2 : fb ρ1 = .ok ob ρ2) (h3 : useO ρ2 oa = some x) (h4 : useO ρ2 ob = some y) (h5 : G x y = some o) : cOp2 G fa fb ρ = .ok o ρ2 := by
  simp [h1, h2, f2, h3, h4, h5]
theorem ev1 {G : D → Option Opd} (h1 : fa ρ = .ok oa ρ1) (h3 : useO ρ1 oa = some x) (h5 : G x = some o) : cOp1 G fa ρ = .ok o ρ1 := by
  simp [h1, f1, h3, h5]
theorem evM0 {G : D → Option Opd} {T : String} (h1 : fa ρ = .ok oa ρ1) (h3 : useO ρ1 oa = some x) (hT : tyD T x = true) (h5 : G x = some o) : cM0 T G fa ρ = .ok o ρ1 := ev1 h1 h3 (by rw [if_pos hT]; exact h5)
theorem evM1 {G : D → D → Option Opd} {T : String} (h1 : fa ρ = .ok oa ρ1) (h3 : useO ρ1 oa = some z) (hT : tyD T z = true) (h2 : fb ρ1 = .ok ob ρ2) (h4 : useO ρ2 oa = some x) (h6 : useO ρ2 ob = some y) (h5 : G x y = some o) : cM1 T G fa fb ρ = .ok o ρ2 := by
  unfold cM1
  rw [h1]
  show (match useO ρ1 oa with
    | some d => if tyD T d = true then (fb ρ1).bind fun ob ρ2 => f2 G oa ob ρ2 else .stk
    | none => .stk) = _
  rw [h3]
  show (if tyD T z = true then _ else _) = _
  rw [if_pos hT, h2]
  show f2 G oa ob ρ2 = _
  simp [f2, h4, h6, h5]
theorem evT (h : fa ρ = .ok (.vl (.bl b)) ρ1) : cTru fa ρ = .ok b ρ1 := by unfold cTru; rw [h]; rfl
theorem evAt (h : t ρ = .ok true ρ1) (h2 : u ρ1 = .ok c ρ2) : cAnd t u ρ = .ok c ρ2 := by unfold cAnd; rw [h]; exact h2
theorem evAf (h : t ρ = .ok false ρ1) : cAnd t u ρ = .ok false ρ1 := by unfold cAnd; rw [h]; rfl
theorem evOt (h : t ρ = .ok true ρ1) : cOr t u ρ = .ok true ρ1 := by unfold cOr; rw [h]; rfl
theorem evOf (h : t ρ = .ok false ρ1) (h2 : u ρ1 = .ok c ρ2) : cOr t u ρ = .ok c ρ2 := by unfold cOr; rw [h]; exact h2
theorem evN (h : t ρ = .ok b ρ1) : cNot t ρ = .ok (!b) ρ1 := by unfold cNot; rw [h]; rfl
theorem evIt (h : t ρ = .ok true ρ1) (h2 : f ρ1 = r) : cIf t f g ρ = r := by unfold cIf; rw [h]; exact h2
theorem evIf (h : t ρ = .ok false ρ1) (h2 : g ρ1 = r) : cIf t f g ρ = r := by unfold cIf; rw [h]; exact h2
theorem evEt (h : t ρ = .ok true ρ1) (h2 : fa ρ1 = .ok o ρ2) : cIfE t fa fb ρ = .ok o ρ2 := by unfold cIfE; rw [h]; exact h2
theorem evEf (h : t ρ = .ok false ρ1) (h2 : fb ρ1 = .ok o ρ2) : cIfE t fa fb ρ = .ok o ρ2 := by unfold cIfE; rw [h]; exact h2
theorem evVt {r : Res Opd} (h : fa ρ = .ok (.vl (.bl true)) ρ1) (h2 : fb ρ1 = r) : cAndV fa fb ρ = r := by unfold cAndV; rw [h]; exact h2
theorem evVf (h : fa ρ = .ok (.vl (.bl false)) ρ1) : cAndV fa fb ρ = .ok (.vl (.bl false)) ρ1 := by unfold cAndV; rw [h]; rfl
theorem evWt (h : fa ρ = .ok (.vl (.bl true)) ρ1) : cOrV fa fb ρ = .ok (.vl (.bl true)) ρ1 := by unfold cOrV; rw [h]; rfl
theorem evWf {r : Res Opd} (h : fa ρ = .ok (.vl (.bl false)) ρ1) (h2 : fb ρ1 = r) : cOrV fa fb ρ = r := by unfold cOrV; rw [h]; exact h2
theorem evNV (h : fa ρ = .ok (.vl (.bl b)) ρ1) : cNotV fa ρ = .ok (.vl (.bl (!b))) ρ1 := by unfold cNotV; rw [h]; rfl
theorem evS (h : f ρ = .nx ρ1) (h2 : g ρ1 = r) : cSeq f g ρ = r := by unfold cSeq; rw [h]; exact h2
theorem evSr (h : f ρ = .ret o ρ1) : cSeq f g ρ = .ret o ρ1 := by unfold cSeq; rw [h]; rfl
theorem evX (h : fa ρ = .ok o ρ1) : cExpr fa ρ = .nx ρ1 := by unfold cExpr; rw [h]; rfl
theorem evR (h : fa ρ = .ok o ρ1) : cRet fa ρ = .ret o ρ1 := by unfold cRet; rw [h]; rfl
theorem evSet (h : fa ρ = .ok o ρ1) (h2 : setC i o ρ1 = some ρ2) : cSet i fa ρ = .nx ρ2 := by unfold cSet; rw [h]; show optS (setC i o ρ1) = _; rw [h2]; rfl
theorem evPar {j : Nat} (h1 : fa ρ = .ok oa ρ1) (h2 : fb ρ1 = .ok ob ρ2) (h3 : set2 i j oa ob ρ2 = some ρ3) : cPar i j fa fb ρ = .nx ρ3 := by
  unfold cPar; rw [h1]; show (fb ρ1).sbind _ = _; rw [h2]; show optS (set2 i j oa ob ρ2) = _; rw [h3]; rfl
theorem evV {d : D} (h : fa ρ = .ok o ρ1) (h2 : cFreeze o ρ1 = .ok d ρ2) : cVal fa ρ = .ok d ρ2 := by unfold cVal; rw [h]; exact h2
theorem evC {fe : Ev → Res D} {ga : Ev → Res (List D)} {d : D} {ds : List D} (h : fe ρ = .ok d ρ1) (h2 : ga ρ1 = .ok ds ρ2) : cConsA fe ga ρ = .ok (d :: ds) ρ2 := by unfold cConsA; rw [h]; show (ga ρ1).bind _ = _; rw [h2]; rfl
theorem evCall {fn : Fn} {ga : Ev → Res (List D)} {ds : List D} (h : ga ρ = .ok ds ρ1) (h2 : fn ds = .ret o []) (hn : isNew o) : cCall fn ga ρ = .ok o ρ1 := by
  unfold cCall; rw [h]; show retE (fn ds) ρ1 = _; rw [h2]; cases o <;> first | rfl | exact hn.elim
theorem evCallK {fn : Fn} {pm : List Nat} {ga : Ev → Res (List D)} {ds : List D} (h : ga ρ = .ok ds ρ1) (h2 : fn (perm pm ds) = .ret o []) (hn : isNew o) : cCallK pm fn ga ρ = .ok o ρ1 := by
  unfold cCallK; rw [h]; show retE (fn (perm pm ds)) ρ1 = _; rw [h2]; cases o <;> first | rfl | exact hn.elim
theorem evCall1 {fn : Fn} {ga : Ev → Res (List D)} {ds : List D} {j : Nat} {d0 d m : D} (h0 : ρ[j]? = some (.ow d0)) (h : ga ρ = .ok ds ρ1) (h1 : ρ1[j]? = some (.ow d)) (h2 : fn (d :: ds) = .ret o [m]) (hn : isNew o) (hs : ρ1.set j (.ow m) = ρ2) : cCall1 fn j ga ρ = .ok o ρ2 := by
  subst hs
  unfold cCall1
  rw [h0]
  show (ga ρ).bind _ = _
  rw [h]
  show afterC fn j ds ρ1 = _
  unfold afterC
  rw [h1]
  show (match fn (d :: ds) with | .ret o [m] => _ | .ex c e [m] => _ | _ => _) = _
  rw [h2]
  cases o <;> first | rfl | exact hn.elim
theorem evOwn {m : List D → List D → Option (D × List D)} {ga : Ev → Res (List D)} {es ds ds' x0 : List D} {d : D} (h0 : ρ[i]? = some (.ow (.lst x0))) (h : ga ρ = .ok es ρ1) (h1 : ρ1[i]? = some (.ow (.lst ds))) (h2 : m ds es = some (d, ds')) (hs : ρ1.set i (.ow (.lst ds')) = ρ2) : cOwn i m ga ρ = .ok (.vl d) ρ2 := by
  subst hs
  unfold cOwn
  rw [h0]
  show (ga ρ).bind _ = _
  rw [h]
  show (match ρ1[i]? with | some (.ow (.lst ds)) => _ | _ => _) = _
  rw [h1]
  show (match m ds es with | some r => _ | none => _) = _
  rw [h2]
theorem evLst {ga : Ev → Res (List D)} {ds : List D} (h : ga ρ = .ok ds ρ1) (hz : ds.length ≤ sizeLine) : cLst ga ρ = .ok (.fr (.lst ds)) ρ1 := by unfold cLst; rw [h]; exact if_pos hz
theorem evTup {ga : Ev → Res (List D)} {ds : List D} (h : ga ρ = .ok ds ρ1) (hz : ds.length ≤ sizeLine) : cTup ga ρ = .ok (.vl (.tup ds)) ρ1 := by unfold cTup; rw [h]; exact if_pos hz
theorem evSlc {fl fh : Ev → Res (Option Int)} {l h : Option Int} (h1 : fa ρ = .ok oa ρ1) (h2 : fl ρ1 = .ok l ρ2) (h3 : fh ρ2 = .ok h ρ3) (h4 : useO ρ3 oa = some x) (h5 : dSlc x l h = some o) : cSlc fa fl fh ρ = .ok o ρ3 := by
  unfold cSlc; rw [h1]; show (fl ρ1).bind _ = _; rw [h2]; show (fh ρ2).bind _ = _; rw [h3]; show f1 _ oa ρ3 = _; simp [f1, h4, h5]
theorem evP {k : Int} (h : fa ρ = .ok (.vl (.int k)) ρ1) : cP fa ρ = .ok (some k) ρ1 := by unfold cP; rw [h]; rfl
theorem evIter {fe : Ev → Res D} {d : D} {ds : List D} (h : fe ρ = .ok d ρ1) (h2 : itemsOf d = some ds) : cIter fe ρ = .ok ds ρ1 := by unfold cIter; rw [h]; show liftO ρ1 (itemsOf d) = _; rw [h2]; rfl
theorem evFor {it : Ev → Res (List D)} {gg : D → Ev → Option Ev} {ds : List D} (h : it ρ = .ok ds ρ1) (h2 : forL gg g ds ρ1 = r) : cFor it gg g ρ = r := by unfold cFor; rw [h]; exact h2
theorem evR1 {ga : Ev → Res (List D)} {j : Int} (h : ga ρ = .ok [.int j] ρ1) (hj : inLine j = true) : cRange1 ga ρ = .ok (iota 0 j.toNat) ρ1 := by
  unfold cRange1; rw [h]; show liftO ρ1 (rangeOf1 [.int j]) = _; show liftO ρ1 (if inLine j = true then _ else _) = _; rw [if_pos hj]; rfl
theorem evR2 {ga : Ev → Res (List D)} {i j : Int} (h : ga ρ = .ok [.int i, .int j] ρ1) (hj : (inLine i && inLine j) = true) : cRange2 ga ρ = .ok (iota i (j - i).toNat) ρ1 := by
  unfold cRange2; rw [h]; show liftO ρ1 (rangeOf2 [.int i, .int j]) = _; show liftO ρ1 (if (inLine i && inLine j) = true then _ else _) = _; rw [if_pos hj]; rfl
theorem forL_cons {gg : D → Ev → Option Ev} {d : D} {ds : List D} (h : gg d ρ = some ρ1) (h1 : g ρ1 = .nx ρ2) (h2 : forL gg g ds ρ2 = r) : forL gg g (d :: ds) ρ = r := by
  show (match gg d ρ with | none => SRes.stk | some ρ1 => loopK (g ρ1) (forL gg g ds)) = r
  rw [h]
  show loopK (g ρ1) (forL gg g ds) = r
  rw [h1]
  exact h2
theorem forL_ret {gg : D → Ev → Option Ev} {d : D} {ds : List D} (h : gg d ρ = some ρ1) (h1 : g ρ1 = .ret o ρ2) : forL gg g (d :: ds) ρ = .ret o ρ2 := by
  show (match gg d ρ with | none => SRes.stk | some ρ1 => loopK (g ρ1) (forL gg g ds)) = _
  rw [h]
  show loopK (g ρ1) (forL gg g ds) = _
  rw [h1]
  rfl
/-- a comprehension, turn by turn -/
theorem lcR_cons {vs : List Nat} {gg : D → Ev → Option Ev} {e : Ev → Res D} {d y : D} {ds ys : List D} (h : gg d (wipeC ρ vs) = some ρ1) (h1 : t ρ1 = .ok true ρ2) (h2 : e ρ2 = .ok y ρ3) (h3 : lcR vs gg t e ds (unwipe ρ3 ρ vs) = .ok ys ρ') : lcR vs gg t e (d :: ds) ρ = .ok (y :: ys) ρ' := by
  unfold lcR; rw [h]; simp only [h1, calm_ok, if_true, h2, h3]
theorem lcR_skip {vs : List Nat} {gg : D → Ev → Option Ev} {e : Ev → Res D} {d : D} {ds ys : List D} (h : gg d (wipeC ρ vs) = some ρ1) (h1 : t ρ1 = .ok false ρ2) (h3 : lcR vs gg t e ds (unwipe ρ2 ρ vs) = .ok ys ρ') : lcR vs gg t e (d :: ds) ρ = .ok ys ρ' := by
  unfold lcR; rw [h]; simp only [h1, calm_ok, Bool.false_eq_true, if_false, h3]
theorem evLc {it : Ev → Res (List D)} {vs : List Nat} {gg : D → Ev → Option Ev} {e : Ev → Res D} {ds ys : List D} (h : it ρ = .ok ds ρ1) (hw : okWipe ρ1 vs = true) (h2 : lcR vs gg t e ds ρ1 = .ok ys ρ2) (hz : ys.length ≤ sizeLine) : cLc it vs gg t e ρ = .ok (.fr (.lst ys)) ρ2 := by
  unfold cLc; rw [h]; show (if okWipe ρ1 vs = true then _ else _) = _; rw [if_pos hw, h2]; exact if_pos hz
/-- each item by itself, the cells as they were -/
theorem lcR_map {vs : List Nat} {gg : D → Ev → Option Ev} {e : Ev → Res D} (F : D → D) : ∀ (ds : List D), (∀ d ∈ ds, ∃ ρ1 ρ3, gg d (wipeC ρ vs) = some ρ1 ∧ t ρ1 = .ok true ρ1 ∧ e ρ1 = .ok (F d) ρ3 ∧ unwipe ρ3 ρ vs = ρ) → lcR vs gg t e ds ρ = .ok (ds.map F) ρ
  | [], _ => rfl
  | d :: ds, h => by
    obtain ⟨ρ1, ρ3, h1, h2, h3, h4⟩ := h d List.mem_cons_self
    refine lcR_cons h1 h2 h3 ?_
    rw [h4]
    exact lcR_map F ds fun x hx => h x (List.mem_cons_of_mem _ hx)
theorem evRun {mk : List Bool} {un : Nat} {bb : CSt} {ds ms : List D} (h : bb (cellsM mk ds ++ List.replicate un .un) = .ret o ρ1) (hm : outM mk ρ1 = some ms) (hn : isNew o) : runF mk un bb ds = .ret o ms := by
  unfold runF; rw [h]; show (match outM mk ρ1 with | none => FRes.stk | some ms => _) = _; rw [hm]; cases o <;> first | rfl | exact hn.elim
theorem evRunF {mk : List Bool} {un : Nat} {bb : CSt} {ds ms : List D} {d : D} (h : bb (cellsM mk ds ++ List.replicate un .un) = .ret (.pl i) ρ1) (hm : outM mk ρ1 = some ms) (hi : mk.getD i false = false) (hd : ρ1[i]? = some (.ow d)) : runF mk un bb ds = .ret (.fr d) ms := by
  unfold runF; rw [h]; show (match outM mk ρ1 with | none => FRes.stk | some ms => if mk.getD i false = true then FRes.stk else _) = _; rw [hm]; show (if mk.getD i false = true then FRes.stk else _) = _; rw [hi, if_neg Bool.false_ne_true, hd]
theorem evRunN {mk : List Bool} {un : Nat} {bb : CSt} {ds ms : List D} (h : bb (cellsM mk ds ++ List.replicate un .un) = .nx ρ1) (hm : outM mk ρ1 = some ms) : runF mk un bb ds = .ret (.vl .non) ms := by
  unfold runF; rw [h]; show (match outM mk ρ1 with | none => FRes.stk | some ms => _) = _; rw [hm]
theorem outM_no : ∀ (n : Nat) {ρ : Ev}, n ≤ ρ.length → outM (noM n) ρ = some []
  | 0, _, _ => by unfold outM; rfl
  | n + 1, [], h => by simp at h
  | n + 1, c :: ρ, h => by
    have : outM (noM (n + 1)) (c :: ρ) = outM (noM n) ρ := by cases c <;> rfl
    rw [this]
    exact outM_no n (by simpa using h)
end
end PL
/-! PL17: repr, where nothing is being shown; the law's def alone -/
namespace PL
open PySem PySem.Spec L2
open PyProof.Rows (envOfC)
open PyProof.Rows (IntsAre)
def rRepr (K : PySem.W.Frag) : List V → Hp → VK → Prop := fun xs H Q => ∃ x d, xs = [x] ∧ Dp K H x d ∧ d.showable = true ∧ d.hasDict = false ∧ d.shown.length ≤ sizeLine ∧ d.depth ≤ 64 ∧ Q (.str d.shown) H
section
variable {X : Cx} {K : PySem.W.Frag}
theorem cr_repr (hg : X.A.guards = some []) (hu : X.A.units + 66 < cLine) : CallR X (.builtin "repr") (rRepr X.K) := by
  intro pins s σ H xs us Q I r h
  obtain ⟨x, d, rfl, hd, hs, hn, hz, hp, q⟩ := h
  obtain ⟨u, rfl, rx⟩ := vals1 r
  obtain ⟨as, rr⟩ := Dp.reads I d x u hd rx
  cases hd with
  | non => cases rx; simp only [PyData.shown] at q; exact PySem.P.repr_of_none ⟨.str _, H, I.tok _, ⟨_, rfl⟩, q⟩
  | bl b => cases rx; simp only [PyData.shown] at q; exact PySem.P.repr_of_bool ⟨.str _, H, I.tok _, ⟨_, rfl⟩, by cases b <;> exact q⟩
  | int i =>
    obtain ⟨t, rfl⟩ := rx
    simp only [PyData.shown] at q
    exact PySem.P.repr_of_int (by simpa [PyData.showable] using hs) ⟨.str _, H, I.tok _, ⟨_, rfl⟩, q⟩
  | str z =>
    obtain ⟨t, rfl⟩ := rx
    simp only [PyData.shown] at q hz
    exact PySem.P.repr_of_str ⟨.str _, H, I.tok _, ⟨_, rfl⟩, q⟩ hz
  | tup h1 h2 =>
    cases rx
    exact repr_of_reads' rr hs (fun e => by rw [hn] at e; cases e) hg (by omega) (fun _ _ e => e) (fun h' u tk hk => ⟨.str _, H, I.kept (t' := tk) hk, ⟨_, rfl⟩, q⟩) hz
  | lst h1 h2 =>
    cases rx
    exact repr_of_reads' rr hs (fun e => by rw [hn] at e; cases e) hg (by omega) (fun _ _ e => e) (fun h' u tk hk => ⟨.str _, H, I.kept (t' := tk) hk, ⟨_, rfl⟩, q⟩) hz
def dRepr : D → Option Opd := fun d => match toP d with
  | some p => if (p.showable && !p.hasDict) && (decide (p.shown.length ≤ sizeLine) && decide (p.depth ≤ 64)) then some (.vl (.str p.shown.cps.toList)) else none
  | none => none
theorem sm_repr : Sem1 K (fun x H Q => rRepr K [x] H Q) dRepr := fun W F ρ σ H x dx o Q s ax e p => by
  unfold dRepr at e
  cases q : toP dx with
  | none => rw [q] at e; cases e
  | some d =>
    rw [q] at e
    dsimp only at e
    split at e
    · rename_i hc
      cases e
      obtain ⟨h1, h2⟩ := Bool.and_eq_true_iff.mp hc
      obtain ⟨h3, h4⟩ := Bool.and_eq_true_iff.mp h1
      obtain ⟨h5, h6⟩ := Bool.and_eq_true_iff.mp h2
      exact ⟨x, d, rfl, ax.dp s.sub q, h3, by simpa using h4, of_decide_eq_true h5, of_decide_eq_true h6, p.here s (.str _)⟩
    · cases e
end
theorem Room.u66 {k : Nat} {A : Around} (r : Room k A) : A.units + 66 < cLine := by have := r.un; omega
/-- as FnOk, called where nothing is being shown -/
structure FnOkG (P : Program) (w : World) (K : PySem.W.Frag) (mg : Str → Option Value) (base : Heap) (CX : CXT) (k : Nat) (f : Addr) (fd : FuncData) (ps : List Str) (sp : Sp) : Prop where
  len : ∀ vs H Q E, sp vs H Q E → vs.length = ps.length
  run : ∀ (A : Around) (outer : List Env) (s : Shared) (H : Hp) (args : Args) (us : List Value) (vs : List V) (Q : VK) (E : XK), A.guards = some [] → Room k A → Env0 P w K mg base A outer s H → BindsTo s fd args (ps.zip us) → Vals vs us → sp vs H Q E →
    codeAny (model P w) A (.call (.ref f) args) (CR CX outer P w H s Q E) s
theorem FnOk.G {P : Program} {w : World} {K : PySem.W.Frag} {mg : Str → Option Value} {base : Heap} {CX : CXT} {k : Nat} {f : Addr} {fd : FuncData} {ps : List Str} {sp : Sp} (F : FnOk P w K mg base CX k f fd ps sp) : FnOkG P w K mg base CX k f fd ps sp :=
  ⟨F.len, fun A outer s H args us vs Q E _ => F.run A outer s H args us vs Q E⟩
theorem FnOkG.any {P : Program} {w : World} {K : PySem.W.Frag} {mg : Str → Option Value} {base : Heap} {k : Nat} {f : Addr} {fd : FuncData} {ps : List Str} {sp : Sp} (F : FnOkG P w K mg base (L2.CX P w) k f fd ps sp) : FnOkG P w K mg base (CXw P) k f fd ps sp :=
  ⟨F.len, fun A outer s H args us vs Q E hg hr he hb hv hs => codeAny_mono (F.run A outer s H args us vs Q E hg hr he hb hv hs) fun r s' h => by
    cases r with
    | error e => exact ⟨w, h⟩
    | ok fl => cases fl <;> exact h⟩
open PyProof.Rows in
/-- such a def by its body -/
theorem FunD.okG {CX : CXT} {P : Program} {w : World} {K : PySem.W.Frag} {mg : Str → Option Value} {base : Heap} {x qual : Str} {params : Arguments} {body : List Stmt} {scope : Scope} {dvs : List V} {kws : List (Str × V)} {f : Addr} {fd : FuncData} {N ps : List Str} {k : Nat} {sp : Sp}
    (F : FunD K x qual params body scope dvs kws f fd) (S : FnScope N ps scope) (len : ∀ vs H Q E, sp vs H Q E → vs.length = ps.length)
    (hbody : ∀ (cdv : Value) (A : Around) (outer : List Env) (s : Shared) (H : Hp) (vs : List V) (Q : VK) (E : XK), A.guards = some [] → Room k (A.deeper (envOfC qual scope s.heap.objs.size f cdv)) → sp vs H Q E →
      ∃ t, PSs (cxOf CX P w K mg base N qual scope f cdv A outer s H E) body t ∧ t { nx := fun _ H' => Q .non H', rt := Q } (L2.start N vs) H) : FnOkG P w K mg base CX (k + 1) f fd ps sp := by
  obtain ⟨oc, od, dV, kV, doc, pm, an, cdv, ct, osl, rfl, lk, hcd, _, _⟩ := F.ex
  refine ⟨len, fun A outer s H args us vs Q E gd room e0 bnd rel want => ?_⟩
  have hlen := len _ _ _ _ want
  have inK : K.In s.heap := e0.mod.kin.keeps fun b o e => (e0.bs b o e).1
  have noL : s.heap.NoLimit := e0.mod.nolimit.keeps fun b o e => (e0.bs b o e).1
  have kinds : ∀ y ∈ ps.zip us, scope.names.lookup y.1 = some .local ∨ (scope.names.lookup y.1 = some .cell ∧ ((cellsFrom (s.heap.objs.size + 1) scope.names []).lookup y.1).isSome = true) := fun y hy =>
    (S.par y.1 (List.of_mem_zip (a := y.1) (b := y.2) hy).1).imp_right fun q => ⟨q, PySem.W.cellsFrom_some _ _ _ (.inl q)⟩
  refine codeAny_call_function room.depth (inK _ _ lk) rfl S.co S.gen rfl (PySem.W.codeRec_of inK hcd) (bnd _ _ _ _ ?_)
  refine wpAny_newFunctionEnv_cells S.kind kinds fun env he s1 new => ?_
  subst he
  refine ⟨noL.keeps new.toInCall.keep, codeAny_func ?_⟩
  obtain ⟨t, ht, go⟩ := hbody cdv A outer s H vs Q E gd (room.deeper _) want
  have J0 : Inv (cxOf CX P w K mg base N qual scope f cdv A outer s H E) [] (L2.start N vs) H s1 := inv_start S room.hd e0 hlen rel new
  refine wpAny_mono (ht.run [] s1 (L2.start N vs) H _ J0 go) (fun fl s' fin => ?_) fun _ _ fin => fin
  cases fl with
  | ret u =>
    obtain ⟨v, σ', H', J, rv, q⟩ := fin
    exact ⟨v, H', J.os, J.bare, J.base, J.hok, rv, q⟩
  | next =>
    obtain ⟨σ', H', J, q⟩ := fin
    exact ⟨.non, H', J.os, J.bare, J.base, J.hok, rfl, q⟩
  | brk => exact fin.choose_spec.choose_spec.2.elim
  | cont => exact fin.choose_spec.choose_spec.2.elim
/-- such a def by its body, for this layer -/
theorem fn_bodyG {P : Program} {w : World} {K : PySem.W.Frag} {mg : Str → Option Value} {base : Heap} {x qual : Str} {params : Arguments} {body : List Stmt} {scope : Scope} {dvs : List V} {kws : List (Str × V)} {f : Addr} {fd : FuncData} {N ps : List Str} {k : Nat} {mk : List Bool} {b : CSt}
    (F : FunD K x qual params body scope dvs kws f fd) (S : FnScope N ps scope) (hm : mk.length = ps.length)
    (hb : ∀ (cdv : Value) (A : Around) (outer : List Env) (s : Shared) (H : Hp) (E : XK), A.guards = some [] → Room k (A.deeper (envOfC qual scope s.heap.objs.size f cdv)) →
      JSs (cxOf (L2.CX P w) P w K mg base N qual scope f cdv A outer s H E) (fun c d _ H => E c d H) ((List.range mk.length).filter fun i => mk.getD i false) body b) :
    FnOkG P w K mg base (L2.CX P w) (k + 1) f fd ps (spOf K mk (runF mk (N.length - ps.length) b)) :=
  PL.FunD.okG F S (sp_len hm) fun cdv A outer s H _ _ E hg hr hsp => fn_bodyT hm (hb cdv A outer s H E hg hr) hsp
open PyProof.Rows PySem.W in
/-- the head's end for such a def: the promise is turned into one of every Around that has no more to say -/
theorem law_callG {P : Program} {w : World} {K : PySem.W.Frag} {mg mb : Str → Option Value} {CX : CXT} {k : Nat} {fa a : Addr} {fd : FuncData} {x : Str} {sp : Sp} {s₁ : Shared} {vs : List Value} {ns : List Int}
    (KX : K.In s₁.heap) (hns : s₁.heap.Ns mainGlobals mg) (hb : s₁.heap.Ns builtinsNs mb) (hbb : ∀ x : Str, x ≠ "__name__" → mb x = bootBuiltins x) (hlim : s₁.heap.NoLimit) (hg : s₁.gens = #[])
    (ha : s₁.heap.get? a = some { cls := .type "list", data := .seq vs.toArray }) (hi : IntsAre vs ns) (hl : ns.length ≤ sizeLine) (hr : Room k callerA)
    (F : ∀ base : Heap, K.In base → base.Ns mainGlobals mg → FnOkG P w K mg base CX k fa fd [x] sp) (hbind : ∀ (s : Shared) (u : Value), BindsTo s fd ⟨[u], []⟩ [(x, u)])
    (hsp : ∀ H : Hp, L2.Only H → SqL K H a (ns.map V.int) → sp [.ref a] H (fun v _ => v = .bl true) fun _ _ _ => False)
    (hCX : ∀ H e s', CX [] H s₁ (fun _ _ _ => False) e s' → False) :
    codeAny (model P w) callerA (.call (.ref fa) ⟨[.ref a], []⟩) (fun r s' => r = .ok (.ret (.bool true)) ∧ OldK s₁.heap s'.heap ∧ s'.os = s₁.os ∧ AllBare s'.gens) s₁ := by
  let o : Obj := { cls := .type "list", data := .seq vs.toArray }
  let H : Hp := fun b => if b = a ∧ (K.lookup a).isNone = true then some (.frz o (.lst (ns.map V.int))) else none
  have rv := vals_ints hi
  have lenV := hi.length
  have out : ∀ b u, H b = some u → b = a ∧ (K.lookup a).isNone = true ∧ u = .frz o (.lst (ns.map V.int)) := fun b u z => by
    by_cases hc : b = a ∧ (K.lookup a).isNone = true
    · exact ⟨hc.1, hc.2, (Option.some.inj ((if_pos hc).symm.trans z)).symm⟩
    · cases (if_neg hc).symm.trans z
  have hS : SqL K H a (ns.map V.int) := by
    cases hk : K.lookup a with
    | none => exact .inl (.inr ⟨o, if_pos ⟨rfl, by rw [hk]; rfl⟩⟩)
    | some o' =>
      have e := KX a o' hk
      rw [ha] at e
      cases e
      exact .inr ⟨_, vs.toArray, _, hk, rfl, rfl, rfl, by rw [List.size_toArray, lenV]; exact hl, by simpa using rv⟩
  have hO : L2.Only H := fun b => by
    cases z : H b with
    | none => exact .inl rfl
    | some u => exact .inr ⟨_, _, by rw [(out b u z).2.2]⟩
  have hok : HOk P w H s₁.heap := fun b u z => by
    obtain ⟨rfl, _, rfl⟩ := out b u z
    exact ⟨ha, by rw [List.length_map]; exact hl, vs, _, rv, ha⟩
  have hid : ∀ {b : Addr} {o' : Obj}, s₁.heap.get? b = some o' → (b = a → (K.lookup a).isNone = false) → (hidT s₁.heap H).get? b = some o' := fun {b o'} e n => hidT_get e (by
    cases z : H b with
    | none => rfl
    | some u => obtain ⟨e1, e2, _⟩ := out b u z; rw [n e1] at e2; cases e2)
  have nsK : ∀ {b : Addr} {m : Str → Option Value}, s₁.heap.Ns b m → (hidT s₁.heap H).Ns b m := fun {b m} ⟨o', es, ep, e, d, r⟩ => ⟨o', es, ep, hidT_get e (by
    cases z : H b with
    | none => rfl
    | some u =>
      obtain ⟨rfl, _, _⟩ := out b u z
      rw [ha] at e; cases e
      have d' : Data.seq vs.toArray _ = Data.dict es ep := d
      cases d'), d, r⟩
  have hKb : K.In (hidT s₁.heap H) := fun b o' e => hid (KX b o' e) fun q => by rw [← q, e]; rfl
  have hM : Mod K mg (hidT s₁.heap H) := ⟨hKb, nsK hns, ⟨mb, nsK hb, hbb⟩, let ⟨mc, h1, h2⟩ := hlim; ⟨mc, nsK h1, h2⟩⟩
  have e0 : Env0 P w K mg (hidT s₁.heap H) callerA [] s₁ H := ⟨rfl, hM, fun b o e => of_hidT e, Nat.le_of_eq (hidT_size _ _), trivial, fun b hb => absurd (show b ∈ ([] : List Addr) from hb) (by simp), hok, .of_eq hg⟩
  refine codeAny_mono ((F _ hKb (nsK hns)).run callerA [] s₁ H ⟨[.ref a], []⟩ [.ref a] [.ref a] _ _ rfl hr e0 (hbind s₁ (.ref a)) (.cons rfl .nil) (hsp H hO hS)) fun r s' h => ?_
  rcases r with e | fl
  · exact (hCX H e s' h).elim
  rcases fl with _ | _ | _ | u
  iterate 3 exact False.elim h
  obtain ⟨v, H', os, bare, un, hok', r', q⟩ := h
  obtain rfl : v = .bl true := q
  obtain rfl : u = Value.bool true := r'
  refine ⟨rfl, OldK.of_keep fun b o' e => ?_, os, bare⟩
  cases q : H b with
  | none => exact un.keep b o' e q (by intro z; exact absurd (show b ∈ ([] : List Addr) from z) (by simp)) (by simp)
  | some u =>
    obtain ⟨_, _, rfl⟩ := out b u q
    obtain ⟨e1, _⟩ := hok b _ q
    obtain ⟨e2, _⟩ := hok' b _ (un.frzs b o _ q)
    rw [e] at e1; cases e1
    exact e2
/-- a law over a head by facts, as walk_ofE -/
theorem walk_ofG {l : PySem.W.OpenLaw} {n k : Nat} {q : Program} {loose : List Str} {XP : (Str → Option Value) → Heap → Prop} {YP : World → Heap → Prop} {d : DefRec} {CX : CXT} {x : Str}
    (hn : l.most = some n) (hn2 : n ≤ sizeLine) (hdf : d.params.defaults = []) (hr : Room k callerA)
    (F : ∀ (w : World) (mg : Str → Option Value) (fa : Addr) (h : Heap), YP w h → h.Ns mainGlobals mg → mg d.name = some (.ref fa) →
      ∃ (K : PySem.W.Frag) (fd : FuncData) (sp : Sp), K.In h ∧ (∀ (s : Shared) (u : Value), BindsTo s fd ⟨[u], []⟩ [(x, u)]) ∧
        (∀ (H : Hp) (a : Addr) (ns : List Int), ns.length ≤ n → L2.Only H → SqL K H a (ns.map V.int) → sp [.ref a] H (fun v _ => v = .bl true) fun _ _ _ => False) ∧
        ∀ base : Heap, K.In base → base.Ns mainGlobals mg → FnOkG l.prog w K mg base CX k fa fd [x] sp)
    (hCX : ∀ (H : Hp) (s : Shared) (e : Value) (s' : Shared), CX [] H s (fun _ _ _ => False) e s' → False) :
    PySem.W.WalkO q loose XP YP l.row.toRowW d [] (fun f vs => PySem.call f vs) :=
  Att.attach_call hn hdf fun w s₀ s₁ mg mb fa o pm cd doc a vs ns G Y ho hd hcd hmg hobj hints hlen hg =>
    let ⟨_, _, _, KX, hb, hsp, hF⟩ := F w mg fa _ Y G.T.g hmg
    law_callG KX G.T.g G.T.b G.T.builtins G.T.nolimit hg hobj hints (Nat.le_trans hlen hn2) hr hF hb (fun H hO hS => hsp H a ns hlen hO hS) fun H e s' => hCX H s₁ e s'
end PL
/-! PL18: min and max of a list of ints -/
namespace PL
open PySem PySem.Spec L2
def minI (x : Int) : List Int → Int
  | [] => x
  | y :: ys => minI (if y < x then y else x) ys
def maxI (x : Int) : List Int → Int
  | [] => x
  | y :: ys => maxI (if x < y then y else x) ys
theorem minI_mem : ∀ (xs : List Int) (x : Int), minI x xs ∈ x :: xs
  | [], x => List.mem_cons_self
  | y :: ys, x => by
    have h := minI_mem ys (if y < x then y else x)
    show minI (if y < x then y else x) ys ∈ _
    rcases List.mem_cons.mp h with h | h
    · rw [h]; split <;> simp
    · simp [h]
theorem minI_le : ∀ (xs : List Int) (x : Int), ∀ y ∈ x :: xs, minI x xs ≤ y
  | [], x, y, hy => by simp at hy; subst hy; exact Int.le_refl _
  | z :: zs, x, y, hy => by
    have h := minI_le zs (if z < x then z else x)
    show minI (if z < x then z else x) zs ≤ y
    have h0 := h _ List.mem_cons_self
    rcases List.mem_cons.mp hy with rfl | hy
    · split at h0 <;> split <;> omega
    · rcases List.mem_cons.mp hy with rfl | hy
      · split at h0 <;> split <;> omega
      · exact h y (List.mem_cons_of_mem _ hy)
theorem maxI_mem : ∀ (xs : List Int) (x : Int), maxI x xs ∈ x :: xs
  | [], x => List.mem_cons_self
  | y :: ys, x => by
    have h := maxI_mem ys (if x < y then y else x)
    show maxI (if x < y then y else x) ys ∈ _
    rcases List.mem_cons.mp h with h | h
    · rw [h]; split <;> simp
    · simp [h]
theorem maxI_le : ∀ (xs : List Int) (x : Int), ∀ y ∈ x :: xs, y ≤ maxI x xs
  | [], x, y, hy => by simp at hy; subst hy; exact Int.le_refl _
  | z :: zs, x, y, hy => by
    have h := maxI_le zs (if x < z then z else x)
    show y ≤ maxI (if x < z then z else x) zs
    have h0 := h _ List.mem_cons_self
    rcases List.mem_cons.mp hy with rfl | hy
    · split at h0 <;> split <;> omega
    · rcases List.mem_cons.mp hy with rfl | hy
      · split at h0 <;> split <;> omega
      · exact h y (List.mem_cons_of_mem _ hy)
def dMinL : D → Option Opd := fun d => match (lstOf d).bind intsOf with
  | some (x :: xs) => some (.vl (.int (minI x xs)))
  | _ => none
def dMaxL : D → Option Opd := fun d => match (lstOf d).bind intsOf with
  | some (x :: xs) => some (.vl (.int (maxI x xs)))
  | _ => none
section
variable {K : PySem.W.Frag}
theorem sm_minL : Sem1 K (fun x H Q => rMin K [x] H Q) dMinL := fun W F ρ σ H x dx o Q s ax e p => by
  unfold dMinL at e
  cases q : lstOf dx with
  | none => rw [q] at e; cases e
  | some ds =>
    rw [q] at e
    cases q2 : intsOf ds with
    | none => simp [q2] at e
    | some bs =>
      cases bs with
      | nil => simp [q2] at e
      | cons b bs =>
        simp [q2] at e
        subst e
        obtain ⟨a, xs, rfl, h, r⟩ := ax.seqL s.sub q
        obtain ⟨e1, _⟩ := intsOf_ok r q2
        subst e1
        refine ⟨a, b :: bs, rfl, h, by simp, fun m hm hy => ?_⟩
        have e : m = minI b bs := Int.le_antisymm (hy _ (minI_mem bs b)) (minI_le bs b m hm)
        subst e
        exact p.here s (.int _)
theorem sm_maxL : Sem1 K (fun x H Q => rMax K [x] H Q) dMaxL := fun W F ρ σ H x dx o Q s ax e p => by
  unfold dMaxL at e
  cases q : lstOf dx with
  | none => rw [q] at e; cases e
  | some ds =>
    rw [q] at e
    cases q2 : intsOf ds with
    | none => simp [q2] at e
    | some bs =>
      cases bs with
      | nil => simp [q2] at e
      | cons b bs =>
        simp [q2] at e
        subst e
        obtain ⟨a, xs, rfl, h, r⟩ := ax.seqL s.sub q
        obtain ⟨e1, _⟩ := intsOf_ok r q2
        subst e1
        refine ⟨a, b :: bs, rfl, h, by simp, fun m hm hy => ?_⟩
        have e : m = maxI b bs := Int.le_antisymm (maxI_le bs b m hm) (hy _ (maxI_mem bs b))
        subst e
        exact p.here s (.int _)
end
end PL
/-! PL19: zip of two lists, of two tuples -/
namespace PL
open PySem PySem.Spec L2
def zipD (a b : List D) : List D := List.zipWith (fun x y => .tup [x, y]) a b
def tupOf : D → Option (List D)
  | .tup ds => some ds
  | _ => none
def zipOf : List D → Option (List D)
  | [x, y] => match lstOf x, lstOf y with
    | some a, some b => some (zipD a b)
    | _, _ => match tupOf x, tupOf y with
      | some a, some b => some (zipD a b)
      | _, _ => none
  | _ => none
theorem zipD_get {a b : List D} {i : Nat} {d : D} (h : (zipD a b)[i]? = some d) : ∃ x y, a[i]? = some x ∧ b[i]? = some y ∧ d = .tup [x, y] := by
  unfold zipD at h
  rw [List.getElem?_zipWith] at h
  cases q : a[i]? with
  | none => rw [q] at h; cases h
  | some x =>
    cases q2 : b[i]? with
    | none => rw [q, q2] at h; cases h
    | some y => rw [q, q2] at h; cases h; exact ⟨x, y, rfl, rfl, rfl⟩
theorem sub_upd {F : Hp} {T : Addr} {u : HO} (h : F T = none) : Sub F (upd F T u) := fun a o e => by
  by_cases q : a = T
  · subst q; rw [h] at e; cases e
  · exact (upd_ne q).trans e
section
variable {K : PySem.W.Frag} {F0 : Hp} {a b : Addr} {xs ys : List V} {ds es : List D}
theorem step_z {F H : Hp} {T : Addr} {x y : V} {d1 d2 : D} (s : Sub F H) (hT : H T = none) (r1 : Rp K F x d1) (r2 : Rp K F y d2) :
    ∃ F3, Sub F F3 ∧ Sub H (upd H T (.tup [x, y])) ∧ Sub F3 (upd H T (.tup [x, y])) ∧ (∀ a, F3 a ≠ none → F a ≠ none ∨ H a = none) ∧ Rp K F3 (.ref T) (.tup [d1, d2]) := by
  have hF : F T = none := by
    cases q : F T with
    | none => rfl
    | some u => rw [s _ _ q] at hT; cases hT
  refine ⟨upd F T (.tup [x, y]), sub_upd hF, sub_upd hT, fun c o e => ?_, fun c hc => ?_, .tup upd_same (.cons (r1.mono (sub_upd hF)) (.cons (r2.mono (sub_upd hF)) .nil))⟩
  · by_cases q : c = T
    · subst q; rw [upd_same] at e ⊢; exact e
    · rw [upd_ne q] at e ⊢; exact s _ _ e
  · by_cases q : c = T
    · subst q; exact .inr hT
    · rw [upd_ne q] at hc; exact .inl hc
theorem itOk_z (ha : SqL K F0 a xs) (ra : Rps K F0 xs ds) (hb : SqL K F0 b ys) (rb : Rps K F0 ys es) : ItOk K (Itz K a b) F0 (zipD ds es) := fun i F H s1 s2 => ⟨fun d e => by
  obtain ⟨d1, d2, q1, q2, rfl⟩ := zipD_get e
  obtain ⟨v1, e1, r1⟩ := ra.get' q1
  obtain ⟨v2, e2, r2⟩ := rb.get' q2
  refine ⟨⟨xs, ys, v1, v2, (s1.trans s2).l ha, (s1.trans s2).l hb, e1, e2⟩, fun x H3 ⟨T, x', y', h1, hT, h2, hx, hy⟩ => ?_⟩
  subst h1; subst h2
  have hx' := hx xs ((s1.trans s2).l ha)
  have hy' := hy ys ((s1.trans s2).l hb)
  rw [e1] at hx'; cases hx'
  rw [e2] at hy'; cases hy'
  exact step_z s2 hT (r1.mono s1) (r2.mono s1), fun z => by
  refine ⟨xs, ys, (s1.trans s2).l ha, (s1.trans s2).l hb, ?_⟩
  have e : (zipD ds es).length = min ds.length es.length := List.length_zipWith
  rw [e] at z
  rw [ra.length, rb.length]
  omega⟩
theorem itOk_zT (ha : SqT K F0 a xs) (ra : Rps K F0 xs ds) (hb : SqT K F0 b ys) (rb : Rps K F0 ys es) : ItOk K (RZ.ItzT K a b) F0 (zipD ds es) := fun i F H s1 s2 => ⟨fun d e => by
  obtain ⟨d1, d2, q1, q2, rfl⟩ := zipD_get e
  obtain ⟨v1, e1, r1⟩ := ra.get' q1
  obtain ⟨v2, e2, r2⟩ := rb.get' q2
  refine ⟨⟨xs, ys, v1, v2, (s1.trans s2).t ha, (s1.trans s2).t hb, e1, e2⟩, fun x H3 ⟨T, x', y', h1, hT, h2, hx, hy⟩ => ?_⟩
  subst h1; subst h2
  have hx' := hx xs ((s1.trans s2).t ha)
  have hy' := hy ys ((s1.trans s2).t hb)
  rw [e1] at hx'; cases hx'
  rw [e2] at hy'; cases hy'
  exact step_z s2 hT (r1.mono s1) (r2.mono s1), fun z => by
  refine ⟨xs, ys, (s1.trans s2).t ha, (s1.trans s2).t hb, ?_⟩
  have e : (zipD ds es).length = min ds.length es.length := List.length_zipWith
  rw [e] at z
  rw [ra.length, rb.length]
  omega⟩
end
def cZip (g : Ev → Res (List D)) : Ev → Res (List D) := fun ρ => (g ρ).bind fun ds ρ1 => liftO ρ1 (zipOf ds)
theorem Rp.seqL' {K : PySem.W.Frag} {F : Hp} {v : V} {d : D} {ds : List D} (r : Rp K F v d) (e : lstOf d = some ds) : ∃ a xs, v = .ref a ∧ SqL K F a xs ∧ Rps K F xs ds := by
  cases r with
  | lst h r => cases e; exact ⟨_, _, rfl, .of h, r⟩
  | scr h r => cases e; exact ⟨_, _, rfl, h, r⟩
  | _ => cases e
theorem Rp.seqT' {K : PySem.W.Frag} {F : Hp} {v : V} {d : D} {ds : List D} (r : Rp K F v d) (e : tupOf d = some ds) : ∃ a xs, v = .ref a ∧ SqT K F a xs ∧ Rps K F xs ds := by
  cases r with
  | tup h r => cases e; exact ⟨_, _, rfl, .inl (.inl h), r⟩
  | _ => cases e
theorem ji_zip {X : Cx} {W : WX} {e e2 : Expr} {p pos tpos : Pos} {elts : List Expr} {kk : Nat} {g : Ev → Res (List D)} (hg : Gl X "zip") (hm : X.mg "zip" = none) (ha : JA X W [e, e2] g)
    (hs : starEach [e, e2] X.env = (false, eval e X.env) :: starEach [e2] X.env := by rfl) (hpl : (backTo pos (starEach [e2] X.env)).any (·.1) = false := by rfl) :
    JI X W (.Tuple elts kk tpos) (.Call (.Name "zip" p) [e, e2] [] pos) (cZip g) :=
  ⟨PI.weak (RZ.pi_zipA hg hm ha.pa hs hpl) fun σ H R ⟨F, ρ, s, p⟩ => ⟨F, ρ, s, by
    unfold cZip at p
    refine p.bind (fun _ _ _ _ _ _ _ h => h) fun ds ρ' vs F' H' s' b' r' p' => ?_
    cases q : zipOf ds with
    | none => rw [q] at p'; exact p'.elim
    | some zs =>
      rw [q] at p'
      have r : Rps X.K F' vs ds := r'
      unfold zipOf at q
      split at q
      · rename_i x y
        cases r with
        | cons r1 r =>
          cases r with
          | cons r2 r =>
            cases r
            split at q
            · rename_i l1 l2 q1 q2
              cases q
              obtain ⟨a, xs, rfl, h1, ra⟩ := r1.seqL' q1
              obtain ⟨b, ys, rfl, h2, rb⟩ := r2.seqL' q2
              exact ⟨a, b, xs, ys, rfl, .inl ⟨s'.sub.l h1, s'.sub.l h2, p'.here s' (itOk_z h1 ra h2 rb)⟩⟩
            · split at q
              · rename_i l1 l2 q1 q2
                cases q
                obtain ⟨a, xs, rfl, h1, ra⟩ := r1.seqT' q1
                obtain ⟨b, ys, rfl, h2, rb⟩ := r2.seqT' q2
                exact ⟨a, b, xs, ys, rfl, .inr ⟨s'.sub.t h1, s'.sub.t h2, p'.here s' (itOk_zT h1 ra h2 rb)⟩⟩
              · cases q
      · cases q⟩⟩
end PL
/-! PL20: min(texts, key=def) -/
namespace PL
open PySem PySem.Spec L2
open PySem.W (alike dataLt rcLt_alike)
/-! a value that is made of tuples, none of them at one of some places -/
mutual
inductive Ro (bad : List Addr) (h : Heap) : Value → PyData → Prop
  | none : Ro bad h .none .none
  | bool (b) : Ro bad h (.bool b) (.bool b)
  | int (i t) : Ro bad h (.int i t) (.int i)
  | str (x t) : Ro bad h (.str x t) (.str x)
  | tuple {a o vs n xs} : a ∉ bad → h.get? a = some o → o.cls = .type "tuple" → o.data = .seq vs n → RoAll bad h vs.toList xs → Ro bad h (.ref a) (.tuple xs)
inductive RoAll (bad : List Addr) (h : Heap) : List Value → List PyData → Prop
  | nil : RoAll bad h [] []
  | cons {v vs d ds} : Ro bad h v d → RoAll bad h vs ds → RoAll bad h (v :: vs) (d :: ds)
end
mutual
theorem Ro.reads {bad : List Addr} {h : Heap} : ∀ {v : Value} {d : PyData}, Ro bad h v d → ∃ as, Reads h v d as
  | _, _, .none => ⟨_, .none⟩
  | _, _, .bool b => ⟨_, .bool b⟩
  | _, _, .int i t => ⟨_, .int i t⟩
  | _, _, .str x t => ⟨_, .str x t⟩
  | _, _, .tuple _ e c d r => let ⟨as, q⟩ := RoAll.reads r; ⟨as, .tuple e c d q⟩
theorem RoAll.reads {bad : List Addr} {h : Heap} : ∀ {v : List Value} {d : List PyData}, RoAll bad h v d → ∃ as, ReadsAll h v d as
  | _, _, .nil => ⟨_, .nil⟩
  | _, _, .cons r s => let ⟨as, q⟩ := Ro.reads r; let ⟨bs, q2⟩ := RoAll.reads s; ⟨_, .cons q q2⟩
end
mutual
theorem Ro.keeps {bad : List Addr} {h h' : Heap} (k : ∀ b o, b ∉ bad → h.get? b = some o → ∃ sl, h'.get? b = some { o with slots := sl }) : ∀ {v : Value} {d : PyData}, Ro bad h v d → Ro bad h' v d
  | _, _, .none => .none
  | _, _, .bool b => .bool b
  | _, _, .int i t => .int i t
  | _, _, .str x t => .str x t
  | _, _, .tuple n e c d r => let ⟨_, q⟩ := k _ _ n e; .tuple n q c d (RoAll.keeps k r)
theorem RoAll.keeps {bad : List Addr} {h h' : Heap} (k : ∀ b o, b ∉ bad → h.get? b = some o → ∃ sl, h'.get? b = some { o with slots := sl }) : ∀ {v : List Value} {d : List PyData}, RoAll bad h v d → RoAll bad h' v d
  | _, _, .nil => .nil
  | _, _, .cons r s => .cons (Ro.keeps k r) (RoAll.keeps k s)
end
/-! data of tuples, numbers, texts -/
mutual
def tupP : D → Option PyData
  | .non => some .none
  | .bl b => some (.bool b)
  | .int i => some (.int i)
  | .str s => some (.str ⟨s.toArray⟩)
  | .tup xs => (tupPs xs).map .tuple
  | _ => none
def tupPs : List D → Option (List PyData)
  | [] => some []
  | d :: ds => match tupP d, tupPs ds with
    | some p, some ps => some (p :: ps)
    | _, _ => none
end
section
variable {P : Program} {w : World} {K : PySem.W.Frag} {F H : Hp} {h : Heap} {bad : List Addr}
mutual
theorem tupP_ok (hok : HOk P w H h) (KX : K.In h) (s : Sub F H) (n1 : ∀ b ∈ bad, H b = none) (n2 : ∀ b ∈ bad, K.lookup b = none) : ∀ {v : V} {d : D} {p : PyData} {u : Value}, Rp K F v d → tupP d = some p → RelV v u → Ro bad h u p
  | _, _, _, _, .non, e, r => by cases e; cases r; exact .none
  | _, _, _, _, .bl b, e, r => by cases e; cases r; exact .bool b
  | _, _, _, _, .int i, e, r => by cases e; obtain ⟨t, rfl⟩ := r; exact .int i t
  | _, _, _, _, .str x, e, r => by cases e; obtain ⟨t, rfl⟩ := r; exact .str _ t
  | _, _, _, _, .tup (a := a) (ds := ds) q rs, e, r => by
    cases r
    unfold tupP at e
    cases q2 : tupPs ds with
    | none => rw [q2] at e; cases e
    | some ps =>
      rw [q2] at e
      cases e
      obtain ⟨its, o, n, rv, ho, hc, hd⟩ := sqT_at hok KX (s.t (.inl (.inl q)))
      refine .tuple (fun hb => ?_) ho hc hd (by simpa using tupPs_ok hok KX s n1 n2 rs q2 rv)
      have z := s _ _ q
      rw [n1 a hb] at z; cases z
  | _, _, _, _, .lst _ _, e, _ => by cases e
  | _, _, _, _, .scr _ _, e, _ => by cases e
  | _, _, _, _, .dct _ _, e, _ => by cases e
  | _, _, _, _, .dtt _ _, e, _ => by cases e
  | _, _, _, _, .err _ _ _, e, _ => by cases e
theorem tupPs_ok (hok : HOk P w H h) (KX : K.In h) (s : Sub F H) (n1 : ∀ b ∈ bad, H b = none) (n2 : ∀ b ∈ bad, K.lookup b = none) : ∀ {v : List V} {d : List D} {p : List PyData} {u : List Value}, Rps K F v d → tupPs d = some p → Vals v u → RoAll bad h u p
  | _, _, _, _, .nil, e, r => by cases e; cases r; exact .nil
  | _, _, _, _, .cons (d := d) (ds := ds) r1 r2, e, r => by
    unfold tupPs at e
    cases q1 : tupP d with
    | none => rw [q1] at e; cases e
    | some p =>
      cases q2 : tupPs ds with
      | none => rw [q1, q2] at e; cases e
      | some ps =>
        rw [q1, q2] at e
        cases e
        cases r with
        | cons x y => exact .cons (tupP_ok hok KX s n1 n2 r1 q1 x) (tupPs_ok hok KX s n1 n2 r2 q2 y)
end
end
/-- an untracked call leaves what is tracked -/
theorem un_self {P : Program} {w : World} {fs : List Addr} {H0 H' : Hp} {h h' : Heap} (u : Un fs [] (fun _ => none) H' h h') (hf : ∀ b ∈ fs, H0 b = none) (hok : HOk P w H0 h) : Un fs [] H0 H0 h h' ∧ HOk P w H0 h' :=
  ⟨⟨fun b o e _ hb hx => u.keep b o e rfl hb hx, fun b o e _ hb hx => u.slot b o e rfl hb hx, fun _ _ _ n _ => n, u.there, fun _ _ e => e, fun _ _ _ e => e, fun b ps e => ⟨#[], by simpa using e⟩⟩,
   fun a o e => (hok a o e).stay (fun b ob hb q => by
      have n : H0 b ≠ none := by
        rcases hb with rfl | hb
        · rw [e]; simp
        · rw [hb]; simp
      exact u.keep b ob q rfl (fun z => n (hf b z)) (by simp)) (fun _ z => z) fun _ _ z => z⟩
def keyP (fn : Fn) (z : List Nat) : Option PyData := match fn [.str z] with
  | .ret (.vl k) [] => tupP k
  | _ => none
def keysP (fn : Fn) : List (List Nat) → Option (List (List Nat × PyData))
  | [] => some []
  | z :: zs => match keyP fn z, keysP fn zs with
    | some p, some ps => some ((z, p) :: ps)
    | _, _ => none
def likeP (ps : List (List Nat × PyData)) : Bool := (ps.all fun x => ps.all fun y => alike x.2 y.2) && ps.all fun x => decide (x.2.depth ≤ 64) && (match x.2 with | .none => false | _ => true)
def leastP (x : List Nat × PyData) (xs : List (List Nat × PyData)) : List Nat × PyData := xs.foldl (fun a y => if dataLt y.2 a.2 then y else a) x
def dMinK (fn : Fn) : D → Option Opd := fun d => match (lstOf d).bind strsOf with
  | some zs => match keysP fn zs with
    | some (p :: ps) => if likeP (p :: ps) = true then some (.vl (.str (leastP p ps).1)) else none
    | _ => none
  | none => none
theorem keysP_ok {fn : Fn} : ∀ {zs : List (List Nat)} {ps : List (List Nat × PyData)}, keysP fn zs = some ps → ps.map (·.1) = zs ∧ ∀ (i : Nat) (p : List Nat × PyData), ps[i]? = some p → keyP fn p.1 = some p.2
  | [], ps, e => by cases e; exact ⟨rfl, fun i p h => by simp at h⟩
  | z :: zs, ps, e => by
    unfold keysP at e
    cases q1 : keyP fn z with
    | none => rw [q1] at e; cases e
    | some p =>
      cases q2 : keysP fn zs with
      | none => rw [q1, q2] at e; cases e
      | some qs =>
        rw [q1, q2] at e
        cases e
        obtain ⟨h1, h2⟩ := keysP_ok q2
        refine ⟨by simp [h1], fun i p' h => ?_⟩
        cases i with
        | zero => simp at h; subst h; exact q1
        | succ i => exact h2 i p' (by simpa using h)
theorem noKey {K : PySem.W.Frag} {h : Heap} (KX : K.In h) {b : Addr} (hb : h.get? b = none) : K.lookup b = none := by
  cases q : K.lookup b with
  | none => rfl
  | some o => have := KX _ _ q; rw [hb] at this; cases this
theorem alikeAll_at {ps : List (List Nat × PyData)} (h : likeP ps = true) {i j : Nat} {x y : List Nat × PyData} (hi : ps[i]? = some x) (hj : ps[j]? = some y) : alike x.2 y.2 = true ∧ x.2 ≠ .none ∧ x.2.depth ≤ 64 := by
  obtain ⟨h1, h2⟩ := Bool.and_eq_true_iff.mp h
  have m1 := List.mem_of_getElem? hi
  have m2 := List.mem_of_getElem? hj
  refine ⟨List.all_eq_true.mp (List.all_eq_true.mp h1 x m1) y m2, ?_⟩
  obtain ⟨h3, h4⟩ := Bool.and_eq_true_iff.mp (List.all_eq_true.mp h2 x m1)
  refine ⟨fun e => ?_, of_decide_eq_true h3⟩
  rw [e] at h4
  cases h4
section
variable {X : Cx} {k : Nat} {f : Addr} {fd : FuncData} {ps : List Str} {pins : List (Addr × Obj)} {σ : St} {H : Hp} {s : Shared} {fn : Fn}
/-- a key is reckoned -/
theorem key_run (Fo : FnOk X.prog X.w X.K X.mg X.base (L2.CX X.prog X.w) k f fd ps (spOf X.K (noM 1) fn)) (hr : Room (k + 1) X.A) (hb : Binds X.K fd ps []) (I : Inv X pins σ H s) {z : List Nat} {t : Tok} {p : PyData} (hp : keyP fn z = some p) {bad : List Addr} (hbad : ∀ b ∈ bad, (∃ o, s.heap.get? b = some o) ∧ X.base.get? b = none)
    {Q : Value → Shared → Prop} {E : Value → Shared → Prop} (h : ∀ u s', Inv X pins σ H s' → (∀ b o, s.heap.get? b = some o → b ∉ frs X.stack → s'.heap.get? b = some o) → (∀ b o, s.heap.get? b = some o → ∃ sl, s'.heap.get? b = some { o with slots := sl }) → Ro bad s'.heap u p → Q u s') :
    wpAny (model X.prog X.w) X.A.in1 (call (.ref f) [.str ⟨z.toArray⟩ t]) Q E s := by
  have e0 := I.env0.in1
  have e1 : Env0 X.prog X.w X.K X.mg X.base X.A.in1 X.stack s (fun _ => none) := ⟨e0.frames, e0.mod, fun b o e => ⟨(e0.bs b o e).1, rfl⟩, e0.bsz, e0.funs, fun _ _ => rfl, (fun a o e => nomatch e), e0.bare⟩
  obtain ⟨kd, e2, e3⟩ : ∃ kd, fn [.str z] = .ret (.vl kd) [] ∧ tupP kd = some p := by
    unfold keyP at hp
    split at hp
    · rename_i q; exact ⟨_, q, hp⟩
    · cases hp
  have hz : ∃ x, ps = [x] := by
    have := Fo.len [.str ⟨z.toArray⟩] (fun _ => none) (fun _ _ => True) (fun _ _ _ => True) ⟨fun _ => none, [.str z], rfl, RS.args (fun a o e => by cases e) (.cons (.str z) .nil), by rw [e2]; exact ⟨trivial, fun _ _ _ _ _ _ => trivial⟩⟩
    match ps, this with
    | [x], _ => exact ⟨x, rfl⟩
  refine wpAny_call (codeAny_mono (Fo.run X.A.in1 X.stack s (fun _ => none) ⟨[.str ⟨z.toArray⟩ t], []⟩ [.str ⟨z.toArray⟩ t] [.str ⟨z.toArray⟩] (fun v H' => ∃ F', Sub F' H' ∧ Rp X.K F' v kd) (fun _ _ _ => False) hr.in1 e1 (by simpa using hb s [.str ⟨z.toArray⟩ t] I.kIn (by obtain ⟨x, e⟩ := hz; simp [e])) (.cons ⟨t, rfl⟩ .nil) ?_) fun r s' hq => ?_)
  · refine ⟨fun _ => none, [.str z], rfl, RS.args (fun a o e => by cases e) (.cons (.str z) .nil), ?_⟩
    rw [e2]
    exact ⟨trivial, fun v F' H' s' _ r => ⟨F', s'.sub, r⟩⟩
  cases r with
  | error e =>
    obtain ⟨_, _, _, _, _, _, _, _, _, _, _, _, w⟩ := hq
    exact w.elim
  | ok fl =>
    cases fl with
    | next => exact False.elim hq
    | brk => exact False.elim hq
    | cont => exact False.elim hq
    | ret u =>
      obtain ⟨v, H', os, bare, un, hok, r, F', sb, rp⟩ := hq
      obtain ⟨u1, u2⟩ := un_self (H0 := H) un I.stkFree I.hok
      have I' : Inv X pins σ H s' := I.call' os u1 u2 bare fun b z => absurd z (by simp)
      refine h u s' I' (fun b o e n => un.keep b o e rfl n (by simp)) (fun b o e => un.any e rfl (by simp)) (tupP_ok hok I'.kIn sb (fun b hb => ?_) (fun b hb => ?_) rp e3 r)
      · obtain ⟨o, e⟩ := (hbad b hb).1
        exact un.free b o e rfl (by simp)
      · exact noKey I.ok.mod.kin (hbad b hb).2
/-- min(texts, key=def) -/
theorem call_minK (Fo : FnOk X.prog X.w X.K X.mg X.base (L2.CX X.prog X.w) k f fd ps (spOf X.K (noM 1) fn)) (hr : Room (k + 2) X.A) (hb : Binds X.K fd ps []) (I : Inv X pins σ H s) {l : Addr} {xs : List V} (hl : SqL X.K H l xs) {zs : List (List Nat)} (hxs : xs = zs.map fun z => V.str ⟨z.toArray⟩)
    {p0 : List Nat × PyData} {qs : List (List Nat × PyData)} (hk : keysP fn zs = some (p0 :: qs)) (hlike : likeP (p0 :: qs) = true) {Q : Value → Shared → Prop} {E : Value → Shared → Prop} (h : ∀ t s', Inv X pins σ H s' → Q (.str ⟨(leastP p0 qs).1.toArray⟩ t) s') :
    wpAny (model X.prog X.w) X.A (call (.builtin "min") [.ref l] [(Str.ofString "key", .ref f)]) Q E s := by
  have hh : X.A.in1.handled = none := hr.hd
  obtain ⟨its, rv, hIs, hlt⟩ := I.list hl
  obtain ⟨km, kp⟩ := keysP_ok hk
  have hlen : its.length = (p0 :: qs).length := by
    rw [← rv.length, hxs, List.length_map, ← km, List.length_map]
  have item : ∀ (i : Nat) (v : Value), its.toArray[i]? = some v → ∃ x t, (p0 :: qs)[i]? = some x ∧ v = .str ⟨x.1.toArray⟩ t := fun i v e => by
    have e' : its[i]? = some v := by simpa using e
    have hi : i < (p0 :: qs).length := by rw [← hlen]; exact (List.getElem?_eq_some_iff.mp e').1
    have e2 : zs[i]? = some ((p0 :: qs)[i].1) := by
      rw [← km, List.getElem?_map, List.getElem?_eq_getElem hi]
      rfl
    have e3 : xs[i]? = some (V.str ⟨((p0 :: qs)[i].1).toArray⟩) := by rw [hxs, List.getElem?_map, e2]; rfl
    obtain ⟨u, e4, r⟩ := Vals.get rv e3
    rw [e'] at e4
    cases e4
    obtain ⟨t, rfl⟩ := r
    exact ⟨(p0 :: qs)[i], t, List.getElem?_eq_getElem hi, rfl⟩
  refine call_min_walkK (PySem.W.iter_listW hh hIs.isList fun s2 e2 W hst hfp hold hmore => ?_)
  have hsz : s.heap.objs.size < s2.heap.objs.size := hfp s.heap.objs.size (by simp)
  have I2 : Inv X pins σ H s2 := by
    rw [e2]
    exact I.turnedL (t' := s.toks) (ch := []) (fun b o _ e => Heap.get?_push_of_some _ e) (fun b hb => absurd hb (by simp))
  have nb : ∀ b, s.heap.objs.size ≤ b → X.base.get? b = none := fun b hb => by
    cases q : X.base.get? b with
    | none => rfl
    | some o => exact absurd (Heap.lt_size (I.bk b o q)) (Nat.not_lt.mpr hb)
  have fI : FpOk X pins H s.heap.objs.size := I.fpOk (Nat.le_refl _) (I.hok.fresh (Nat.le_refl _))
  have fS : FpOk X pins H s2.heap.objs.size := I2.fpOk (Nat.le_refl _) (I2.hok.fresh (Nat.le_refl _))
  have nof : ∀ b, FpOk X pins H b → b ∉ frs X.stack := fun b q z => by
    rcases List.mem_cons.mp (I.stkSub b z) with e | e
    · exact q.2.1 e
    · exact q.2.2.1 e
  refine ⟨s.heap.objs.size, _, _, _, its.toArray.size, _, _, fun s' => Inv X pins σ H s', fun i u s' => ∃ x, (p0 :: qs)[i]? = some x ∧ Ro [s2.heap.objs.size, s.heap.objs.size] s'.heap u x.2, fun i j => dataLt ((p0 :: qs).getD i ([], .none)).2 ((p0 :: qs).getD j ([], .none)).2, rfl, W, hst, hfp, by simp [hlen], ⟨?_, ?_, ?_, ?_⟩, I2, ?_⟩
  · intro s1 s1' J m
    obtain ⟨m1, m2, m3, m4, m5⟩ := m
    obtain ⟨h', g', d', t', o'⟩ := s1'
    cases m2
    cases m3
    cases m4
    refine J.turnedL (t' := t') (ch := [s2.heap.objs.size, s.heap.objs.size]) m1 fun b hb => ?_
    simp only [List.mem_cons, List.not_mem_nil, or_false] at hb
    rcases hb with rfl | rfl
    · exact fS
    · exact fI
  · intro i u s1 s1' ⟨x, ex, r⟩ m
    exact ⟨x, ex, r.keeps fun b o nb e => ⟨o.slots, m.heap b o nb e⟩⟩
  · intro i v s1 o Q E hi hv J hst1 hS hq
    obtain ⟨x, t, ex, rfl⟩ := item i v hv
    refine key_run Fo (hr.mono (by omega)) hb J (kp i x ex) (bad := [s2.heap.objs.size, s.heap.objs.size]) (fun b hb => ?_) fun u s' J' kk ka r => ?_
    · simp only [List.mem_cons, List.not_mem_nil, or_false] at hb
      rcases hb with rfl | rfl
      · exact ⟨⟨_, hS⟩, nb _ (by omega)⟩
      · exact ⟨hst1.1.elim fun o q => ⟨o, q.1⟩, nb _ (Nat.le_refl _)⟩
    · refine hq u s' J' ?_ (kk _ _ hS (nof _ fS)) ⟨x, ex, r⟩ fun j u' ⟨y, ey, ry⟩ => ⟨y, ey, ry.keeps fun b o _ e => ka b o e⟩
      obtain ⟨⟨o1, a1, a2, a3⟩, ⟨o2, b1, b2, b3⟩⟩ := hst1
      obtain ⟨sl, b4⟩ := ka _ _ b1
      exact ⟨⟨o1, kk _ _ a1 (nof _ fI), a2, a3⟩, ⟨{ o2 with slots := sl }, b4, b2, b3⟩⟩
  · intro i j ki kj s1 Q E J ⟨x, ex, rx⟩ ⟨y, ey, ry⟩ hq
    obtain ⟨as, r1⟩ := rx.reads
    obtain ⟨bs, r2⟩ := ry.reads
    obtain ⟨l1, l2, l3⟩ := alikeAll_at hlike ex ey
    refine rcLt_alike x.2 y.2 X.A.in1 s1 ki kj as bs r1 r2 l1 l2 (by have := hr.un; show X.A.units + 1 + min x.2.depth y.2.depth < cLine; omega) X.prog X.w E Q ?_
    have g1 : (p0 :: qs).getD i ([], .none) = x := by rw [List.getD_eq_getElem?_getD, ex]; rfl
    have g2 : (p0 :: qs).getD j ([], .none) = y := by rw [List.getD_eq_getElem?_getD, ey]; rfl
    rw [g1, g2] at hq
    exact hq
  · intro v s' hv J
    obtain ⟨x, t, ex, rfl⟩ := item _ v hv
    have fo := PySem.W.argBest_fold (fun a b : List Nat × PyData => dataLt a.2 b.2) ([], .none) p0 qs qs.length (Nat.le_refl _)
    have en : its.toArray.size - 1 = qs.length := by simp [hlen]
    rw [en] at ex
    have e1 := fo.2
    rw [List.take_length] at e1
    have g1 : (p0 :: qs).getD (argBest (fun i j => dataLt ((p0 :: qs).getD i ([], .none)).2 ((p0 :: qs).getD j ([], .none)).2) qs.length) ([], .none) = x := by rw [List.getD_eq_getElem?_getD, ex]; rfl
    rw [g1] at e1
    rw [e1]
    exact h t s' J
end
section
variable {X : Cx} {W : WX} {k : Nat} {ps : List Str} {fn : Fn} {a : Expr} {fa : CEx} {st : Stmt} {x : Str} {p fp kp pos : Pos}
def rMinKey (K : PySem.W.Frag) (f : Addr) (fn : Fn) : List V → List V → Hp → VK → Prop := fun xs zs H Q => ∃ (l : Addr) (ts : List (List Nat)) (p0 : List Nat × PyData) (qs : List (List Nat × PyData)), xs = [.ref l] ∧ zs = [.ref f] ∧ SqL K H l (ts.map fun z => V.str ⟨z.toArray⟩) ∧ keysP fn ts = some (p0 :: qs) ∧ likeP (p0 :: qs) = true ∧ Q (.str ⟨(leastP p0 qs).1.toArray⟩) H
theorem je_minK (F : OkF X.prog X.w X.K X.mg X.base st x k ps (noM 1) fn) (hr : Room (k + 2) X.A) (hm : X.mg "min" = none) (hv : bootBuiltins "min" = some (.builtin "min")) (ha : JE X W a fa) (hg : Gl X "min" := by rfl) (hgx : Gl X x := by rfl) (hdb : (x == ("__debug__" : Str)) = false := by decide)
    (hsa : starEach [a] X.env = (false, eval a X.env) :: starEach [] X.env := by rfl) (he : backTo pos (starEach [a] X.env) = (false, eval a X.env) :: backTo pos (starEach [] X.env) := by rfl) (hpl : (backTo pos (starEach [a] X.env)).any (·.1) = false := by rfl)
    (hall : (backToKw pos (keywordEach [⟨some (Str.ofString "key"), .Name x fp, kp⟩] X.env)).all (·.1.isSome) = true := by rfl) (hnone : (backToKw pos (keywordEach [⟨some (Str.ofString "key"), .Name x fp, kp⟩] X.env)).any (·.1.isNone) = false := by rfl) (hks : (backToKw pos (keywordEach [⟨some (Str.ofString "key"), .Name x fp, kp⟩] X.env)).filterMap (·.1) = [Str.ofString "key"] := by rfl) :
    JE X W (.Call (.Name "min" p) [a] [⟨some (Str.ofString "key"), .Name x fp, kp⟩] pos) (cOp1 (dMinK fn) fa) := by
  obtain ⟨f, fd, FD, hf, Fo, hb⟩ := F.ex
  have hc : CallRK X (.builtin "min") [Str.ofString "key"] (rMinKey X.K f fn) := fun pins s σ H xs zs us ws Q I r1 r2 ⟨l, ts, p0, qs, e1, e2, hl, hk, hlike, q⟩ => by
    subst e1; subst e2
    cases r1 with
    | cons a1 a2 =>
      cases a2
      cases r2 with
      | cons b1 b2 =>
        cases b2
        cases a1
        cases b1
        exact call_minK Fo hr hb I hl rfl hk hlike fun t s' I' => ⟨V.str ⟨(leastP p0 qs).1.toArray⟩, H, I', ⟨t, rfl⟩, q⟩
  refine .by (pe_callBK hc hg hm hv (pa_cons ha.pe pa_nil hsa) (pk_cons (pe_glob (v := .ref f) hgx hf rfl hdb) pk_nil) (he := he) (hpl := hpl) (hall := hall) (hnone := hnone) (hks := hks)) fun σ H Q Fz ρ s p => ⟨Fz, ρ, s, ?_⟩
  refine p.bind (fun _ _ _ _ _ _ b => OR.dom b) fun oa ρ1 va F1 H1 s1 b1 r1 p1 => ?_
  unfold f1 at p1
  cases e1 : useO ρ1 oa with
  | none => rw [e1] at p1; exact p1.elim
  | some d =>
    rw [e1] at p1
    dsimp only at p1
    cases e3 : dMinK fn d with
    | none => rw [e3] at p1; exact p1.elim
    | some o =>
      rw [e3] at p1
      have ax : AR X.K F1 H1 va d := .of s1 r1 e1
      unfold dMinK at e3
      cases q1 : lstOf d with
      | none => rw [q1] at e3; cases e3
      | some ds =>
        rw [q1] at e3
        cases q2 : strsOf ds with
        | none => simp [q2] at e3
        | some ts =>
          simp only [Option.bind_some, q2] at e3
          cases q3 : keysP fn ts with
          | none => rw [q3] at e3; cases e3
          | some zs =>
            rw [q3] at e3
            cases zs with
            | nil => cases e3
            | cons p0 qs =>
              dsimp only at e3
              by_cases hl : likeP (p0 :: qs) = true
              · rw [if_pos hl] at e3
                cases e3
                obtain ⟨l, xs, rfl, h, r⟩ := ax.seqL s1.sub q1
                obtain ⟨e4, _⟩ := strsOf_ok r q2
                subst e4
                exact ⟨l, ts, p0, qs, rfl, rfl, h, q3, hl, p1.here s1 (.str _)⟩
              · rw [if_neg hl] at e3; cases e3
end
/-- the end of a def's body -/
def endF (mk : List Bool) : SRes → FRes := fun r => match r with
  | .ret o ρ => match outM mk ρ with
    | none => .stk
    | some ms => match o with
      | .vl d => .ret (.vl d) ms
      | .fr d => .ret (.fr d) ms
      | .pl i => if (mk.getD i false) = true then .stk else match ρ[i]? with
        | some (.ow d) => .ret (.fr d) ms
        | some (.fz d) => .ret (.vl d) ms
        | _ => .stk
  | .nx ρ => match outM mk ρ with
    | none => .stk
    | some ms => .ret (.vl .non) ms
  | .ex c d ρ => match outM mk ρ with
    | none => .stk
    | some ms => .ex c d ms
  | _ => .stk
theorem xRun {r1 : SRes} {mk : List Bool} {un : Nat} {bb : CSt} {ds : List D} {r : FRes} (h : bb (cellsM mk ds ++ List.replicate un .un) = r1) (h2 : endF mk r1 = r) : runF mk un bb ds = r := by
  unfold runF; rw [h]; exact h2
end PL
/-! PL21: reckoning by a tactic: one lemma for each head -/
namespace PL
open PySem PySem.Spec L2
section
variable {fa fb fc : CEx} {ρ ρ1 ρ2 ρ3 : Ev} {oa ob oc o : Opd} {x y z d : D} {b c : Bool} {t u : Ev → Res Bool} {f g : CSt} {i j : Nat} {r r1 : SRes} {q : Res Opd} {qb : Res Bool}
theorem xVz (h : ρ[i]? = some (.fz d)) : cVar i ρ = .ok (.vl d) ρ := by unfold cVar; rw [h]
theorem xVo (h : ρ[i]? = some (.ow d)) : cVar i ρ = .ok (.pl i) ρ := by unfold cVar; rw [h]
theorem xC : cC d ρ = .ok (.vl d) ρ := rfl
theorem zEnd {mk : List Bool} {r : FRes} (h : endF mk r1 = r) : endF mk r1 = r := h
theorem zFreeze {r : Res D} (h : cFreeze o ρ = r) : cFreeze o ρ = r := h
theorem zPerm {pm : List Nat} {ds es : List D} (h : perm pm ds = es) : perm pm ds = es := h
theorem xNilA : cNilA ρ = .ok [] ρ := rfl
theorem xYes : cYes ρ = .ok true ρ := rfl
theorem xNoP : cNoP ρ = .ok none ρ := rfl
theorem xNil : cNil ρ = .nx ρ := rfl
theorem xRetN : cRetN ρ = .ret (.vl .non) ρ := rfl
theorem xBk : cBk ρ = .bk ρ := rfl
theorem xCt : cCt ρ = .ct ρ := rfl
theorem xSeq (h : f ρ = r1) (h2 : r1.sbind g = r) : cSeq f g ρ = r := by unfold cSeq; rw [h]; exact h2
theorem xNx (h : g ρ = r) : (SRes.nx ρ).sbind g = r := h
theorem xRt : (SRes.ret o ρ).sbind g = .ret o ρ := rfl
theorem xRt2 (h : SRes.ret o ρ = r) : (SRes.ret o ρ).sbind g = r := h
theorem xIf (h : t ρ = .ok b ρ1) (h2 : (b = true ∧ f ρ1 = r) ∨ (b = false ∧ g ρ1 = r)) : cIf t f g ρ = r := by
  rcases h2 with ⟨e, h2⟩ | ⟨e, h2⟩ <;> subst e
  · exact evIt h h2
  · exact evIf h h2
theorem xIfE (h : t ρ = .ok b ρ1) (h2 : (b = true ∧ fa ρ1 = q) ∨ (b = false ∧ fb ρ1 = q)) : cIfE t fa fb ρ = q := by
  rcases h2 with ⟨e, h2⟩ | ⟨e, h2⟩ <;> subst e <;> (unfold cIfE; rw [h]; exact h2)
theorem xAnd (h : t ρ = .ok b ρ1) (h2 : (b = false ∧ Res.ok false ρ1 = qb) ∨ (b = true ∧ u ρ1 = qb)) : cAnd t u ρ = qb := by
  rcases h2 with ⟨e, h2⟩ | ⟨e, h2⟩ <;> subst e <;> (unfold cAnd; rw [h]; exact h2)
theorem xOr (h : t ρ = .ok b ρ1) (h2 : (b = true ∧ Res.ok true ρ1 = qb) ∨ (b = false ∧ u ρ1 = qb)) : cOr t u ρ = qb := by
  rcases h2 with ⟨e, h2⟩ | ⟨e, h2⟩ <;> subst e <;> (unfold cOr; rw [h]; exact h2)
theorem xAndS (h : t ρ = .ok b ρ) (h2 : u ρ = .ok c ρ) : cAnd t u ρ = .ok (b && c) ρ := by
  unfold cAnd; rw [h]; cases b
  · rfl
  · exact h2
theorem xOrS (h : t ρ = .ok b ρ) (h2 : u ρ = .ok c ρ) : cOr t u ρ = .ok (b || c) ρ := by
  unfold cOr; rw [h]; cases b
  · exact h2
  · rfl
theorem xAndV (h : fa ρ = .ok (.vl (.bl b)) ρ1) (h2 : (b = false ∧ Res.ok (.vl (.bl false)) ρ1 = q) ∨ (b = true ∧ fb ρ1 = q)) : cAndV fa fb ρ = q := by
  rcases h2 with ⟨e, h2⟩ | ⟨e, h2⟩ <;> subst e <;> (unfold cAndV; rw [h]; exact h2)
theorem xOrV (h : fa ρ = .ok (.vl (.bl b)) ρ1) (h2 : (b = true ∧ Res.ok (.vl (.bl true)) ρ1 = q) ∨ (b = false ∧ fb ρ1 = q)) : cOrV fa fb ρ = q := by
  rcases h2 with ⟨e, h2⟩ | ⟨e, h2⟩ <;> subst e <;> (unfold cOrV; rw [h]; exact h2)
theorem xAndVf (h : fa ρ = .ok (.vl (.bl b)) ρ1) (e : b = false) : cAndV fa fb ρ = .ok (.vl (.bl false)) ρ1 := xAndV h (.inl ⟨e, rfl⟩)
theorem xAndVt (h : fa ρ = .ok (.vl (.bl b)) ρ1) (e : b = true) (h2 : fb ρ1 = q) : cAndV fa fb ρ = q := xAndV h (.inr ⟨e, h2⟩)
theorem xOrVt (h : fa ρ = .ok (.vl (.bl b)) ρ1) (e : b = true) : cOrV fa fb ρ = .ok (.vl (.bl true)) ρ1 := xOrV h (.inl ⟨e, rfl⟩)
theorem xOrVf (h : fa ρ = .ok (.vl (.bl b)) ρ1) (e : b = false) (h2 : fb ρ1 = q) : cOrV fa fb ρ = q := xOrV h (.inr ⟨e, h2⟩)
theorem xAndf (h : t ρ = .ok b ρ1) (e : b = false) : cAnd t u ρ = .ok false ρ1 := xAnd h (.inl ⟨e, rfl⟩)
theorem xAndt (h : t ρ = .ok b ρ1) (e : b = true) (h2 : u ρ1 = qb) : cAnd t u ρ = qb := xAnd h (.inr ⟨e, h2⟩)
theorem xOrt (h : t ρ = .ok b ρ1) (e : b = true) : cOr t u ρ = .ok true ρ1 := xOr h (.inl ⟨e, rfl⟩)
theorem xOrf (h : t ρ = .ok b ρ1) (e : b = false) (h2 : u ρ1 = qb) : cOr t u ρ = qb := xOr h (.inr ⟨e, h2⟩)
theorem orL {p q r : Prop} (h : p) (h2 : q) : (p ∧ q) ∨ r := .inl ⟨h, h2⟩
theorem orR {p q r : Prop} (h : p) (h2 : q) : r ∨ (p ∧ q) := .inr ⟨h, h2⟩
theorem yCall {fn : Fn} {ga : Ev → Res (List D)} {ds : List D} (h : ga ρ = .ok ds ρ1) (h2 : fn ds = .ret (.vl d) []) : cCall fn ga ρ = .ok (.vl d) ρ1 := evCall h h2 trivial
theorem yCallF {fn : Fn} {ga : Ev → Res (List D)} {ds : List D} (h : ga ρ = .ok ds ρ1) (h2 : fn ds = .ret (.fr d) []) : cCall fn ga ρ = .ok (.fr d) ρ1 := evCall h h2 trivial
theorem xAndVS (h : fa ρ = .ok (.vl (.bl b)) ρ) (h2 : fb ρ = .ok (.vl (.bl c)) ρ) : cAndV fa fb ρ = .ok (.vl (.bl (b && c))) ρ := by
  unfold cAndV; rw [h]; cases b
  · rfl
  · exact h2
theorem xOrVS (h : fa ρ = .ok (.vl (.bl b)) ρ) (h2 : fb ρ = .ok (.vl (.bl c)) ρ) : cOrV fa fb ρ = .ok (.vl (.bl (b || c))) ρ := by
  unfold cOrV; rw [h]; cases b
  · exact h2
  · rfl
theorem xChain {G G' : D → D → Option Opd} (h1 : fa ρ = .ok oa ρ) (h2 : fb ρ = .ok ob ρ) (h3 : fc ρ = .ok oc ρ) (u1 : useO ρ oa = some x) (u2 : useO ρ ob = some y) (u3 : useO ρ oc = some z) (g1 : G x y = some (.vl (.bl b))) (g2 : G' y z = some (.vl (.bl c))) : cChain G G' fa fb fc ρ = .ok (.vl (.bl (b && c))) ρ := by
  unfold cChain
  rw [h1]; show (fb ρ).bind _ = _
  rw [h2]; show (f2 G oa ob ρ).bind _ = _
  have e : f2 G oa ob ρ = .ok (.vl (.bl b)) ρ := by simp [f2, u1, u2, g1]
  rw [e]
  cases b
  · rfl
  · show (fc ρ).bind _ = _
    rw [h3]; show f2 G' ob oc ρ = _
    simp [f2, u2, u3, g2]
theorem xAug {G : D → D → Option Opd} (h0 : ρ[i]? = some (.fz x)) (h : fa ρ = .ok o ρ1) (h1 : useO ρ1 o = some y) (h2 : G x y = some oa) (h3 : setN i oa ρ1 = some ρ2) : cAug i G fa ρ = .nx ρ2 := by
  unfold cAug; rw [h0]; show (fa ρ).sbind _ = _; rw [h]
  show (match useO ρ1 o with | some y => _ | none => _) = _
  rw [h1]; show (match G x y with | some o => _ | none => _) = _
  rw [h2]; show optS (setN i oa ρ1) = _
  rw [h3]; rfl
theorem xAsg {fe : Ev → Res D} {gg : D → Ev → Option Ev} (h : fe ρ = .ok d ρ1) (h2 : gg d ρ1 = some ρ2) : cAsg fe gg ρ = .nx ρ2 := by
  unfold cAsg; rw [h]; show optS (gg d ρ1) = _; rw [h2]; rfl
theorem xFz {fe : Ev → Res D} (h : fe ρ = .ok d ρ1) : cFz fe ρ = .ok (.vl d) ρ1 := by unfold cFz; rw [h]; rfl
theorem xSetIx {fe : Ev → Res D} (h : fe ρ = .ok d ρ1) (h0 : ρ1[i]? = some (.ow x)) (h2 : fa ρ1 = .ok o ρ2) (h3 : putAt i d o ρ2 = some ρ3) : cSetIx i fe fa ρ = .nx ρ3 := by
  unfold cSetIx; rw [h]; show (match ρ1[i]? with | some (.ow _) => (fa ρ1).sbind fun o ρ2 => optS (putAt i d o ρ2) | _ => SRes.stk) = _
  rw [h0]; show (fa ρ1).sbind _ = _
  rw [h2]; show optS (putAt i d o ρ2) = _
  rw [h3]; rfl
theorem xAugIx {G : D → D → Option Opd} {ρ4 : Ev} (h0 : ρ[i]? = some (.ow d)) (h : fa ρ = .ok o ρ1) (h1 : getAt i o ρ1 = some x) (h2 : fb ρ1 = .ok ob ρ2) (h3 : useO ρ2 ob = some y) (h4 : G x y = some (.vl z)) (h5 : putAt i z o ρ2 = some ρ4) : cAugIx i G fa fb ρ = .nx ρ4 := by
  unfold cAugIx; rw [h0]; show (fa ρ).sbind _ = _
  rw [h]; show (match getAt i o ρ1 with | some x => (fb ρ1).sbind _ | none => SRes.stk) = _
  rw [h1]; show (fb ρ1).sbind _ = _
  rw [h2]; show (match useO ρ2 ob with | some y => _ | none => SRes.stk) = _
  rw [h3]; show (match G x y with | some (.vl z) => optS (putAt i z o ρ2) | _ => SRes.stk) = _
  rw [h4]; show optS (putAt i z o ρ2) = _
  rw [h5]; rfl
theorem xCallK {fn : Fn} {pm : List Nat} {ga : Ev → Res (List D)} {ds es : List D} (h : ga ρ = .ok ds ρ1) (hp : perm pm ds = es) (h2 : fn es = .ret o []) (hn : isNew o) : cCallK pm fn ga ρ = .ok o ρ1 := evCallK h (by rw [hp]; exact h2) hn
theorem xAppA {ga gb : Ev → Res (List D)} {ds es : List D} (h : ga ρ = .ok ds ρ1) (h2 : gb ρ1 = .ok es ρ2) : cAppA ga gb ρ = .ok (ds ++ es) ρ2 := by unfold cAppA; rw [h]; show (gb ρ1).bind _ = _; rw [h2]; rfl
/-- a comprehension over the data of xs, each item by itself -/
theorem lcR_selA {α : Type} {vs : List Nat} {gg : D → Ev → Option Ev} {e : Ev → Res D} (F : α → D) (P : α → Bool) (G : α → D) : ∀ (xs : List α), (∀ x ∈ xs, ∃ ρ1, gg (F x) (wipeC ρ vs) = some ρ1 ∧ t ρ1 = .ok (P x) ρ1 ∧ (P x = true → ∃ ρ2, e ρ1 = .ok (G x) ρ2 ∧ unwipe ρ2 ρ vs = ρ) ∧ unwipe ρ1 ρ vs = ρ) →
    lcR vs gg t e (xs.map F) ρ = .ok ((xs.filter P).map G) ρ
  | [], _ => rfl
  | x :: xs, h => by
    obtain ⟨ρ1, h1, h2, h3, h4⟩ := h x List.mem_cons_self
    have ih := lcR_selA F P G xs fun y hy => h y (List.mem_cons_of_mem _ hy)
    rw [List.filter_cons]
    by_cases k : P x = true
    · rw [if_pos k]
      rw [k] at h2
      obtain ⟨ρ2, h3, h5⟩ := h3 k
      refine lcR_cons h1 h2 h3 ?_
      rw [h5]
      exact ih
    · rw [if_neg k]
      rw [Bool.eq_false_iff.mpr k] at h2
      refine lcR_skip h1 h2 ?_
      rw [h4]
      exact ih
theorem lcR_mpA {α : Type} {vs : List Nat} {gg : D → Ev → Option Ev} {e : Ev → Res D} (F : α → D) (G : α → D) (xs : List α) (h : ∀ x ∈ xs, ∃ ρ1, gg (F x) (wipeC ρ vs) = some ρ1 ∧ t ρ1 = .ok true ρ1 ∧ ∃ ρ2, e ρ1 = .ok (G x) ρ2 ∧ unwipe ρ2 ρ vs = ρ) : lcR vs gg t e (xs.map F) ρ = .ok (xs.map G) ρ := by
  induction xs with
  | nil => rfl
  | cons x xs ih =>
    obtain ⟨ρ1, h1, h2, ρ2, h3, h5⟩ := h x List.mem_cons_self
    refine lcR_cons h1 h2 h3 ?_
    rw [h5]
    exact ih fun y hy => h y (List.mem_cons_of_mem _ hy)
/-- [e for x in xs] -/
theorem xLcM {α : Type} {it : Ev → Res (List D)} {vs : List Nat} {gg : D → Ev → Option Ev} {e : Ev → Res D} {ds : List D} (F : α → D) (G : α → D) (xs : List α) (h : it ρ = .ok ds ρ1) (hd : ds = xs.map F) (hw : okWipe ρ1 vs = true)
    (h2 : ∀ x ∈ xs, ∃ ρ2, gg (F x) (wipeC ρ1 vs) = some ρ2 ∧ t ρ2 = .ok true ρ2 ∧ ∃ ρ3, e ρ2 = .ok (G x) ρ3 ∧ unwipe ρ3 ρ1 vs = ρ1) (hz : xs.length ≤ sizeLine) : cLc it vs gg t e ρ = .ok (.fr (.lst (xs.map G))) ρ1 := by
  subst hd
  exact evLc h hw (lcR_mpA F G xs h2) (by rw [List.length_map]; exact hz)
/-- [e for x in xs if t] -/
theorem xLcF {α : Type} {it : Ev → Res (List D)} {vs : List Nat} {gg : D → Ev → Option Ev} {e : Ev → Res D} {ds : List D} (F : α → D) (P : α → Bool) (G : α → D) (xs : List α) (h : it ρ = .ok ds ρ1) (hd : ds = xs.map F) (hw : okWipe ρ1 vs = true)
    (h2 : ∀ x ∈ xs, ∃ ρ2, gg (F x) (wipeC ρ1 vs) = some ρ2 ∧ t ρ2 = .ok (P x) ρ2 ∧ (P x = true → ∃ ρ3, e ρ2 = .ok (G x) ρ3 ∧ unwipe ρ3 ρ1 vs = ρ1) ∧ unwipe ρ2 ρ1 vs = ρ1) (hz : xs.length ≤ sizeLine) : cLc it vs gg t e ρ = .ok (.fr (.lst ((xs.filter P).map G))) ρ1 := by
  subst hd
  exact evLc h hw (lcR_selA F P G xs h2) (by rw [List.length_map]; exact Nat.le_trans (List.length_filter_le _ _) hz)
theorem xIt {vs : List Nat} {gg : D → Ev → Option Ev} {e : Ev → Res D} {y : D} {wp : Ev} (h1 : gg d wp = some ρ2) (h2 : t ρ2 = .ok true ρ2) (h3 : e ρ2 = .ok y ρ3) (h4 : unwipe ρ3 ρ1 vs = ρ1) : ∃ ρ2, gg d wp = some ρ2 ∧ t ρ2 = .ok true ρ2 ∧ ∃ ρ3, e ρ2 = .ok y ρ3 ∧ unwipe ρ3 ρ1 vs = ρ1 := ⟨ρ2, h1, h2, ρ3, h3, h4⟩
theorem xItF {vs : List Nat} {gg : D → Ev → Option Ev} {e : Ev → Res D} {y : D} {wp : Ev} {p : Bool} (h1 : gg d wp = some ρ2) (h2 : t ρ2 = .ok p ρ2) (h3 : e ρ2 = .ok y ρ3) (h4 : unwipe ρ3 ρ1 vs = ρ1) (h5 : unwipe ρ2 ρ1 vs = ρ1) : ∃ ρ2, gg d wp = some ρ2 ∧ t ρ2 = .ok p ρ2 ∧ (p = true → ∃ ρ3, e ρ2 = .ok y ρ3 ∧ unwipe ρ3 ρ1 vs = ρ1) ∧ unwipe ρ2 ρ1 vs = ρ1 := ⟨ρ2, h1, h2, fun _ => ⟨ρ3, h3, h4⟩, h5⟩
/-- a for loop as a fold: enc s k: the cells; k: what the turns leave in other names -/
theorem forL_fold {α S κ : Type} {gg : D → Ev → Option Ev} (F : α → D) (enc : S → κ → Ev) (step : S → α → S) (I : S → List α → Prop) : ∀ (xs : List α) (s : S) (k : κ), I s xs → (∀ s k x xs, I s (x :: xs) → ∃ ρ1 k', gg (F x) (enc s k) = some ρ1 ∧ g ρ1 = .nx (enc (step s x) k') ∧ I (step s x) xs) →
    ∃ k', forL gg g (xs.map F) (enc s k) = .nx (enc (xs.foldl step s) k')
  | [], s, k, _, _ => ⟨k, rfl⟩
  | x :: xs, s, k, hI, h => by
    obtain ⟨ρ1, k1, h1, h2, h3⟩ := h s k x xs hI
    obtain ⟨k2, e⟩ := forL_fold F enc step I xs (step s x) k1 h3 h
    exact ⟨k2, forL_cons h1 h2 e⟩
/-- a while loop: one turn -/
theorem xWh {cc : Ev → Res Bool} {n : Nat} (h : cc ρ = .ok true ρ1) (h1 : g ρ1 = .nx ρ2) (h2 : whileN cc g n ρ2 = r) : whileN cc g (n + 1) ρ = r := by
  show (cc ρ).sbind _ = _
  rw [h]
  show loopK (g ρ1) _ = _
  rw [h1]
  exact h2
theorem xWhE {cc : Ev → Res Bool} {n : Nat} (h : cc ρ = .ok false ρ1) : whileN cc g (n + 1) ρ = .nx ρ1 := by
  show (cc ρ).sbind _ = _
  rw [h]
  rfl
end
/-! ### leaves -/
theorem lAddS {a b : List Nat} (h : a.length + b.length ≤ 16777216) : dAdd (.str a) (.str b) = some (.vl (.str (a ++ b))) := by
  have z : (16777216 : Nat) ≤ sizeLine := by decide
  have h2 : a.length + b.length ≤ sizeLine := by omega
  simp only [dAdd, orO, dII, dSS, h2, decide_true, if_true]
theorem lIAddS {a b : List Nat} (h : a.length + b.length ≤ 16777216) : dIAdd (.str a) (.str b) = some (.vl (.str (a ++ b))) := by
  have z : (16777216 : Nat) ≤ sizeLine := by decide
  have h2 : a.length + b.length ≤ sizeLine := by omega
  simp only [dIAdd, orO, dII, dSS, h2, decide_true, if_true]
theorem lAddL {a b : List D} (h : a.length + b.length ≤ 16777216) : dAdd (.lst a) (.lst b) = some (.fr (.lst (a ++ b))) := by
  have z : (16777216 : Nat) ≤ sizeLine := by decide
  have h2 : a.length + b.length ≤ sizeLine := by omega
  simp only [dAdd, orO, dII, dSS, dLL, h2, if_true]
theorem lMulI {a b : Int} (h : mulOk a b = true) : dMul (.int a) (.int b) = some (.vl (.int (a * b))) := by
  simp only [dMul, orO, dII, h, if_true]
theorem mulOkL {a b : Int} (h1 : -(2 ^ 64) < a) (h2 : a < 2 ^ 64) : mulOk a b = true := by
  unfold mulOk; rw [decide_eq_true h1, decide_eq_true h2]; rfl
theorem mulOkR {a b : Int} (h1 : -(2 ^ 64) < b) (h2 : b < 2 ^ 64) : mulOk a b = true := by
  unfold mulOk; rw [decide_eq_true h1, decide_eq_true h2, Bool.and_self, Bool.or_true]
theorem lDiv {a b : Int} (h1 : 0 < b) (h2 : b < 1073741824) : dDiv (.int a) (.int b) = some (.vl (.int (a / b))) := by simp [dDiv, dII, h1, h2]
theorem lMod {a b : Int} (h1 : 0 < b) : dMod (.int a) (.int b) = some (.vl (.int (a % b))) := by simp [dMod, dII, h1]
theorem lLenS {a : List Nat} (h : a.length ≤ 16777216) : dLen (.str a) = some (.vl (.int (a.length : Nat))) := by
  have z : (16777216 : Nat) ≤ sizeLine := by decide
  exact if_pos (by omega)
theorem lLenL {a : List D} : dLen (.lst a) = some (.vl (.int (a.length : Nat))) := rfl
theorem lLenT {a : List D} : dLen (.tup a) = some (.vl (.int (a.length : Nat))) := rfl
theorem lIdxL {a : List D} {i : Int} {d : D} (h : atI a i = some d) : dIdx (.lst a) (.int i) = some (.vl d) := by show (atI a i).map _ = _; rw [h]; rfl
theorem lIdxT {a : List D} {i : Int} {d : D} (h : atI a i = some d) : dIdx (.tup a) (.int i) = some (.vl d) := by show (atI a i).map _ = _; rw [h]; rfl
theorem lIdxS {a : List Nat} {i : Int} {c : Nat} (hl : a.length ≤ 16777216) (h : atI a i = some c) : dIdx (.str a) (.int i) = some (.vl (.str [c])) := by
  have z : (16777216 : Nat) ≤ sizeLine := by decide
  show (if a.length ≤ sizeLine then _ else _) = _
  rw [if_pos (by omega), h]; rfl
theorem lSlcS {a : List Nat} {lo hi : Option Int} (h : a.length ≤ 16777216) : dSlc (.str a) lo hi = some (.vl (.str (cutD a lo hi))) := by
  have z : (16777216 : Nat) ≤ sizeLine := by decide
  exact if_pos (by omega)
theorem lSlcL {a : List D} {lo hi : Option Int} : dSlc (.lst a) lo hi = some (.fr (.lst (cutD a lo hi))) := rfl
theorem lSlcT {a : List D} {lo hi : Option Int} : dSlc (.tup a) lo hi = some (.vl (.tup (cutD a lo hi))) := rfl
theorem lRevS {a : List Nat} (h : a.length ≤ 16777216) : dRev (.str a) = some (.vl (.str a.reverse)) := by
  have z : (16777216 : Nat) ≤ sizeLine := by decide
  exact if_pos (by omega)
theorem lMap {g : Nat → Nat} {a : List Nat} (h : ascii a = true) (hl : a.length ≤ 5592405) : dMap g (.str a) = some (.vl (.str (a.map g))) := by
  show (if (ascii a && decide (a.length ≤ 5592405)) = true then _ else _) = _
  rw [h, decide_eq_true hl]; rfl
theorem lSwap {a : List Nat} (h : ascii a = true) (hl : a.length ≤ 5592405) : dSwap (.str a) = some (.vl (.str (a.map sw1))) := lMap h hl
theorem lLower {a : List Nat} (h : ascii a = true) (hl : a.length ≤ 5592405) : dLower (.str a) = some (.vl (.str (a.map lo1))) := lMap h hl
theorem lUpper {a : List Nat} (h : ascii a = true) (hl : a.length ≤ 5592405) : dUpper (.str a) = some (.vl (.str (a.map up1))) := lMap h hl
theorem strsOf_strsA : ∀ ws : List (List Nat), strsOf (ws.map D.str) = some ws
  | [] => rfl
  | w :: ws => by
    show (strsOf (ws.map D.str)).map (w :: ·) = _
    rw [strsOf_strsA ws]; rfl
theorem lJoin {ws : List (List Nat)} (h : ws.flatten.length ≤ 16777216) : dJoin (.str []) (.lst (ws.map .str)) = some (.vl (.str ws.flatten)) := by
  show (match (some (ws.map D.str)).bind strsOf with | some xs => if (xs.map (fun x : List Nat => x.length)).sum + xs.length * ([] : List Nat).length ≤ 16777216 then some (Opd.vl (.str (joinL [] xs))) else none | none => none) = _
  have e : (some (ws.map D.str)).bind strsOf = some ws := strsOf_strsA ws
  rw [e]
  show (if (ws.map (fun x : List Nat => x.length)).sum + ws.length * 0 ≤ 16777216 then some (Opd.vl (.str (joinL [] ws))) else none) = _
  rw [Nat.mul_zero, Nat.add_zero, ← List.length_flatten, if_pos h, joinL_nil]
theorem lJoinT {ws : List (List Nat)} (h : ws.flatten.length ≤ 16777216) : dJoin (.str []) (.tup (ws.map .str)) = some (.vl (.str ws.flatten)) := by
  show (match (some (ws.map D.str)).bind strsOf with | some xs => if (xs.map (fun x : List Nat => x.length)).sum + xs.length * ([] : List Nat).length ≤ 16777216 then some (Opd.vl (.str (joinL [] xs))) else none | none => none) = _
  have e : (some (ws.map D.str)).bind strsOf = some ws := strsOf_strsA ws
  rw [e]
  show (if (ws.map (fun x : List Nat => x.length)).sum + ws.length * 0 ≤ 16777216 then some (Opd.vl (.str (joinL [] ws))) else none) = _
  rw [Nat.mul_zero, Nat.add_zero, ← List.length_flatten, if_pos h, joinL_nil]
theorem flat1 (w : List Nat) : (w.map fun c => [c]).flatten = w := by
  induction w with
  | nil => rfl
  | cons c w ih => simp [ih]
/-- the signs of a text, joined -/
theorem lJoin1 {w : List Nat} (h : w.length ≤ 16777216) : dJoin (.str []) (.lst (w.map fun c => .str [c])) = some (.vl (.str w)) := by
  have e := lJoin (ws := w.map fun c => [c]) (by rw [flat1]; exact h)
  rw [flat1, List.map_map] at e
  exact e
theorem lAppend {ds : List D} {d : D} (h : ds.length < 16777216) : mAppend ds [d] = some (.non, ds ++ [d]) := by
  have z : (16777216 : Nat) ≤ sizeLine := by decide
  exact if_pos (by omega)
theorem lInt {i : Int} : dInt (.int i) = some (.vl (.int i)) := rfl
/-! ### places, parts -/
theorem atI_neg {α : Type} {xs : List α} {k : Nat} {v : α} {i : Int} (h : xs[xs.length - 1 - k]? = some v) (hk : k < xs.length) (hi : i = -1 - (k : Int)) : atI xs i = some v := by
  unfold atI ixN
  rw [if_neg (by omega), if_pos (by omega)]
  have : (i + (xs.length : Int)).toNat = xs.length - 1 - k := by omega
  simp only [Option.bind_some, this]
  exact h
theorem sIxN (n d k : Nat) : HT.sIx n d (some (k : Int)) = min k n := HT.sIx_nat n d k
theorem cutTo {α : Type} (w : List α) (k : Nat) : cutD w none (some (k : Int)) = w.take k := by
  unfold cutD
  rw [sIxN]
  show (w.drop 0).take (min k w.length - 0) = _
  rw [List.drop_zero, Nat.sub_zero]
  rcases Nat.le_total k w.length with h | h
  · rw [Nat.min_eq_left h]
  · rw [Nat.min_eq_right h, List.take_of_length_le h, List.take_of_length_le (Nat.le_refl _)]
theorem cutFrom {α : Type} (w : List α) (k : Nat) : cutD w (some (k : Int)) none = w.drop k := by
  unfold cutD
  rw [sIxN]
  show (w.drop (min k w.length)).take (w.length - min k w.length) = _
  rw [List.take_of_length_le (by simp)]
  rcases Nat.le_total k w.length with h | h
  · rw [Nat.min_eq_left h]
  · rw [Nat.min_eq_right h, List.drop_of_length_le h, List.drop_of_length_le (Nat.le_refl _)]
theorem cutMid {α : Type} (w : List α) (a b : Nat) (ha : a ≤ w.length) (hb : b ≤ w.length) : cutD w (some (a : Int)) (some (b : Int)) = (w.drop a).take (b - a) := by
  unfold cutD
  rw [sIxN, sIxN, Nat.min_eq_left ha, Nat.min_eq_left hb]
theorem cutInit {α : Type} (w : List α) : cutD w none (some (-1)) = w.dropLast := by
  unfold cutD
  show (w.drop 0).take ((if (-1 : Int) < 0 then ((-1 : Int) + (w.length : Int)).toNat else min (-1 : Int).toNat w.length) - 0) = _
  rw [if_pos (by decide), List.drop_zero, List.dropLast_eq_take]
  congr 1
  omega
theorem cutIn {α : Type} (w : List α) : cutD w (some 1) (some (-1)) = (w.drop 1).dropLast := by
  unfold cutD
  have e : HT.sIx w.length 0 (some 1) = min 1 w.length := sIxN _ _ 1
  rw [e]
  show (w.drop (min 1 w.length)).take ((if (-1 : Int) < 0 then ((-1 : Int) + (w.length : Int)).toNat else min (-1 : Int).toNat w.length) - min 1 w.length) = _
  rw [if_pos (by decide), List.dropLast_eq_take, List.length_drop]
  cases w with
  | nil => rfl
  | cons x w =>
    have : min 1 (x :: w).length = 1 := Nat.min_eq_left (by simp)
    rw [this]
    congr 1
    omega
theorem lSlcTo {a : List Nat} {k : Nat} (h : a.length ≤ 16777216) : dSlc (.str a) none (some (k : Int)) = some (.vl (.str (a.take k))) := by rw [lSlcS h, cutTo]
theorem lSlcFrom {a : List Nat} {k : Nat} (h : a.length ≤ 16777216) : dSlc (.str a) (some (k : Int)) none = some (.vl (.str (a.drop k))) := by rw [lSlcS h, cutFrom]
theorem lIdxN {a : List Nat} {i c : Nat} (hl : a.length ≤ 16777216) (h : a[i]? = some c) : dIdx (.str a) (.int (i : Nat)) = some (.vl (.str [c])) := lIdxS hl (atI_nat h)
theorem iota0 (n : Nat) : iota 0 n = (List.range n).map fun k => D.int (k : Nat) := by
  unfold iota
  refine List.map_congr_left fun k _ => ?_
  rw [Int.zero_add]
theorem lRange {n : Nat} (h : n < 4611686018427387904) : inLine ((n : Nat) : Int) = true := by
  unfold inLine
  rw [decide_eq_true (by omega), decide_eq_true (by omega)]; rfl
theorem evR1N {ga : Ev → Res (List D)} {ρ ρ1 : Ev} {n : Nat} (h : ga ρ = .ok [.int (n : Nat)] ρ1) (hj : inLine ((n : Nat) : Int) = true) : cRange1 ga ρ = .ok (iota 0 n) ρ1 := evR1 h hj
theorem evR2S {ga : Ev → Res (List D)} {ρ ρ1 : Ev} {n : Nat} (h : ga ρ = .ok [.int 1, .int ((n : Nat) + 1)] ρ1) (hj : n < 4611686018427387900) : cRange2 ga ρ = .ok (iota 1 n) ρ1 := by
  have e := evR2 h (by unfold inLine; rw [decide_eq_true (by omega), decide_eq_true (by omega), decide_eq_true (by omega), decide_eq_true (by omega)]; rfl)
  rw [e]
  congr 2
  omega
theorem iota1 (n : Nat) : iota 1 n = (List.range n).map fun k => D.int ((k : Nat) + 1) := by
  unfold iota
  refine List.map_congr_left fun k _ => ?_
  rw [Int.add_comm]
end PL
/-! PL22: exceptions: raise, try, what is read of a caught one -/
namespace PL
open PySem PySem.Spec L2
open PyProof.Rows (envOfC)
/-! ### a name is unset -/
section
variable {K : PySem.W.Frag} {F0 H0 F H : Hp} {ρ0 ρ : Ev} {σ0 σ : St} {i : Nat}
theorem RS.unset (s : RS K F ρ σ H) : RS K F (ρ.set i .un) (σ.set i none) H := by
  have lt : ∀ {j : Nat} {c : Cell}, j ≠ i → (ρ.set i .un)[j]? = some c → ρ[j]? = some c := fun {j c} n e => by rwa [List.getElem?_set_ne (Ne.symm n)] at e
  refine ⟨by simp [s.len], s.sub, fun j d e => ?_, fun j d e => ?_, fun j k d e' s1 t1 a h1 h2 h3 h4 => ?_⟩
  · rcases getElem?_set_some e with ⟨_, z⟩ | ⟨n, e⟩
    · cases z
    · obtain ⟨v, q, r⟩ := s.fz j d e
      exact ⟨v, by rw [List.getElem?_set_ne (Ne.symm n)]; exact q, r⟩
  · rcases getElem?_set_some e with ⟨_, z⟩ | ⟨n, e⟩
    · cases z
    · obtain ⟨a, q, r⟩ := s.ow j d e
      exact ⟨a, by rw [List.getElem?_set_ne (Ne.symm n)]; exact q, r⟩
  · rcases getElem?_set_some h1 with ⟨_, z⟩ | ⟨n1, h1⟩
    · cases z
    · rcases getElem?_set_some h2 with ⟨_, z⟩ | ⟨n2, h2⟩
      · cases z
      · rw [List.getElem?_set_ne (Ne.symm n1)] at h3
        rw [List.getElem?_set_ne (Ne.symm n2)] at h4
        exact s.inj j k d e' s1 t1 a h1 h2 h3 h4
theorem Fr.unset (b : Fr F0 ρ0 σ0 H0 F ρ σ H) (h : ρ0[i]? = some .un) : Fr F0 ρ0 σ0 H0 F (ρ.set i .un) (σ.set i none) H := by
  refine ⟨b.ext, b.keep, b.dom, b.new, fun t a ⟨j, d, e1, e2, e3⟩ => b.ot t a ⟨j, d, ?_⟩, fun j hj => ?_⟩
  · rcases getElem?_set_some e1 with ⟨_, z⟩ | ⟨n, e1⟩
    · cases z
    · rw [List.getElem?_set_ne (Ne.symm n)] at e2
      exact ⟨e1, e2, e3⟩
  · have n : j ≠ i := fun z => by
      subst z
      obtain ⟨d, q⟩ := hj
      rw [h] at q
      rcases q with q | q <;> cases q
    obtain ⟨d, q⟩ := b.lv j hj
    exact ⟨d, by rw [List.getElem?_set_ne (Ne.symm n)]; exact q⟩
theorem Pin.unset {P : List Nat} (p : Pin P σ0 σ) (h : i ∉ P) : Pin P σ0 (σ.set i none) := fun j hj => by
  rw [List.getElem?_set_ne (fun z : i = j => h (by rw [z]; exact hj))]
  exact p j hj
end
/-! ### try: body, except y as n: suite; the exception stays tracked -/
/-- what the clause wishes of an exception of the body -/
def wTr (K : PySem.W.Frag) (c : Value) (i : Nat) (ts : Addr → TS) (Wout : WX) (D : Ends) : WX := fun cls d σ H =>
  ∃ b dx, d = some dx ∧ PySem.W.exmOne K cls c = some b ∧ (b = true → ∀ a, H a = none → ts a { nx := fun σ' H' => D.nx (σ'.set i none) H', rt := D.rt, bk := fun σ' H' => D.bk (σ'.set i none) H', ct := fun σ' H' => D.ct (σ'.set i none) H' } (σ.set i (some (.ref a))) (upd H a (ErO cls dx a))) ∧
    (b = false → Wout cls d σ H)
section
variable {X : Cx} {pins : List (Addr × Obj)} {σ : St} {H : Hp} {s : Shared}
theorem suiteT (I : Inv X pins σ H s) (a : Addr) : Inv (X.suite a (X.pn ++ pins)) [] σ H s :=
  ⟨I.ok.suite _ _, I.os, I.bare, I.base, I.loc, I.cell, I.free, I.freeC, fun p hp => I.pin p (by rw [List.append_nil] at hp; exact hp), I.hok, I.len⟩
theorem unsuiteT {a : Addr} {pn' : List (Addr × Obj)} (I : Inv (X.suite a (X.pn ++ pins)) pn' σ H s) (ok : X.Ok) : Inv X pins σ H s :=
  ⟨ok, I.os, I.bare, I.base, I.loc, I.cell, I.free, I.freeC, fun p hp => I.pin p (List.mem_append_left _ hp), I.hok, I.len⟩
/-- an object that was not there before is tracked -/
theorem trackI {sI : Shared} (I : Inv X pins σ H s) (I0 : Inv X pins σ H sI) {a : Addr} {oe : Obj} {vs : Array Value} {cls : Value} {dx : Addr} (h0 : sI.heap.get? a = none) (ha : s.heap.get? a = some oe) (hz : Zc cls (some dx) oe) (hd : oe.data = .fields vs) (na : H a = none) (nL : a ≠ X.env.locals) (hx : X.ex = []) :
    Inv X pins σ (upd H a (ErO cls dx a)) s := by
  have ne : ∀ {b : Addr} {o : HO}, H b = some o → b ≠ a := fun {b o} e z => by rw [z, na] at e; cases e
  have n0 : ∀ {b : Addr} {o : Obj}, X.s_0.heap.get? b = some o → b ≠ a := fun {b o} e z => by
    obtain ⟨o', e'⟩ := I0.base.there b o e (by rw [hx]; exact fun z => nomatch z)
    rw [z, h0] at e'
    cases e'
  refine ⟨I.ok, I.os, I.bare, ⟨I.base.keep, I.base.slot, fun b o e n hb => ?_, I.base.there, fun b xs e => ?_, fun b o u e => ?_, fun b ps e => ?_⟩, I.loc, I.cell, ?_, fun x c e => ?_, fun p hp => ?_, fun b u e => ?_, I.len⟩
  · rw [upd_ne (n0 e)]
    exact I.base.free b o e n hb
  · have q := I.base.tups b xs e
    rw [upd_ne (ne q)]
    exact q
  · have q := I.base.frzs b o u e
    rw [upd_ne (ne q)]
    exact q
  · obtain ⟨m, q⟩ := I.base.tbls b ps e
    exact ⟨m, by rw [upd_ne (ne q)]; exact q⟩
  · rw [upd_ne (Ne.symm nL)]
    exact I.free
  · have nc : c ≠ a := fun z => by
      obtain ⟨v, o, ho, hdd⟩ := I.cell x c e
      rw [z, ha] at ho
      cases ho
      rw [hd] at hdd
      cases hdd
    rw [upd_ne nc]
    exact I.freeC x c e
  · obtain ⟨e, n, nl, nf, d⟩ := I.pin p hp
    have np : p.1 ≠ a := fun z => by
      obtain ⟨e', _⟩ := I0.pin p hp
      rw [z, h0] at e'
      cases e'
    exact ⟨e, by rw [upd_ne np]; exact n, nl, nf, d⟩
  · by_cases hb : b = a
    · subst hb
      rw [upd_same] at e
      cases e
      exact ⟨⟨oe, vs, ha, hz, hd⟩, ⟨oe, ha⟩, fun h1 h2 ⟨o, v, q, r⟩ k => ⟨o, v, k o q, r⟩⟩
    · rw [upd_ne hb] at e
      exact (I.hok b u e).stay (fun c v _ q => q) (fun c q => by rw [upd_ne (ne q)]; exact q) fun c xs q => by rw [upd_ne (ne q)]; exact q
end
section
variable {X : Cx} {x n : Str} {c : Value} {i : Nat} {body suite : List Stmt} {b₀ : Stmt} {np pos pos' : Pos} {tb : WX → TS} {ts : Addr → TS} {Wout : WX}
theorem ps_try_own (hs : X.stack = X.env :: X.outer) (hf : X.env.frame = some X.env.locals) (hx : X.ex = []) (hN : X.N.Nodup) (hi : X.N[i]? = some n) (hln : X.env.kindOf n = some .local) (hc : Names X x c) (tk : Takes X Wout)
    (hb : ∀ (W : WX) (pn : List (Addr × Obj)) (xe : Value → Shared → Prop), Takes (X.tr pn xe) W → PassesOwn (model X.prog X.w) X.A X.env xe → PSs (X.tr pn xe) body (tb W))
    (hsu : ∀ (a : Addr) (pn : List (Addr × Obj)), PSs (X.suite a pn) (b₀ :: suite) (ts a)) :
    PS X (.Try body [.ExceptHandler (some (.Name x np)) (some n) (b₀ :: suite) pos'] [] [] pos) (fun D σ H => tb (wTr X.K c i ts Wout D) D σ H) := by
  refine ⟨fun pins s σ H D I h => ?_⟩
  have ok := I.ok
  have hfr : X.A.frames = some (X.env :: X.outer) := by rw [ok.frames, hs]
  have hloc : Loc X.env.scope n := .inl hln
  refine wpAny_Try_except ?_
  refine wpAny_mono ((hb (wTr X.K c i ts Wout D) (X.pn ++ pins) (fun e s₁ => wpAny (model X.prog X.w) X.A (noteFrame e X.env) (fun _ s₂ => wpAny (model X.prog X.w) X.A (setFlight e none) (fun _ s₃ =>
    wpAny (model X.prog X.w) X.A (handleBy e X.env [.ExceptHandler (some (.Name x np)) (some n) (b₀ :: suite) pos']) (SP X pins D) X.xe s₃) X.xe s₂) X.xe s₁) (fun u s' xx => ?_) PassesOwn.looking).run [] s σ H D (I.toTry _) h) (fun f s1 hsp => ?_) (fun e s1 he => he)
  · obtain ⟨a, B, sI, pins', σ', H', cls, d, rfl, J', nb, up, sky, na, os, ag, b, dx, rfl, hb1, hyes, hno⟩ := xx
    have J : Inv X pins σ' H' sI := J'.ofTry ok
    have sky' : Sky B (X.env :: X.outer) a (Zc cls (some dx)) X.env.locals s'.heap := by rw [← hs]; exact sky
    show wpAny (model X.prog X.w) X.A (noteFrame (.ref a) X.env) _ _ _
    refine Sky.land Zc.steady hfr hf sky' fun h3 fl3 up3 => ?_
    have J3 : Inv X pins σ' H' { s' with heap := h3 } := J.landed nb fl3.1 (up.trans up3) os ag
    obtain ⟨oe3, vs3, he3, hz3, hd3⟩ := fl3.there
    have nfr : a ∉ frs (X.env :: X.outer) := fun hm => by
      obtain ⟨_, o', e', hnf⟩ := fl3.2.2.1.mem hm
      rw [he3] at e'; cases e'
      exact hnf _ hd3
    have nL : a ≠ X.env.locals := fun z => nfr (List.mem_filterMap.mpr ⟨X.env, List.mem_cons_self, by rw [hf, z]⟩)
    have nI : sI.heap.get? a = none := by
      cases e : sI.heap.get? a with
      | none => rfl
      | some o =>
        have z := nb a o e (by rw [hs]; exact nfr)
        rw [fl3.2.1] at z
        cases z
    have T3 := trackI J3 J nI he3 hz3 hd3 na nL hx
    have S3 := suiteT T3 a
    refine wpAny_handleBy_cons (codeAny_handlers_test ?_) (by intro q; cases q)
    have LT : PySem.W.Looks (model X.prog X.w) h3 (typeOf (.ref a)) cls := fun A Q E s k q => wpAny_typeOf_ref (k _ _ he3) (by rw [hz3.1]; exact q)
    have LM := PySem.W.exm_one (M := model X.prog X.w) (J3.kIn) LT hb1
    have test : ∀ {Q : Value → Shared → Prop} {E : Value → Shared → Prop}, Q c { s' with heap := h3 } → wpAny (model X.prog X.w) (X.A.mark (some (.ref a))) (eval (.Name x np) X.env) Q E { s' with heap := h3 } := fun {Q E} q => by
      obtain ⟨hg, hdbg, hm | ⟨hm, hv, hnn⟩⟩ := hc
      · exact ld_glob (X := X.suite a (X.pn ++ pins)) S3 hg hm q hdbg
      · exact ld_blt (X := X.suite a (X.pn ++ pins)) S3 hg hm hv q hnn hdbg
    refine test (LM.here ?_)
    cases b with
    | true =>
      refine codeAny_handlers_suite_as ?_
      refine HandSPX.lands_againZ fl3 fun h4 fl4 up4 => ?_
      have J4 : Inv X pins σ' H' { s' with heap := h4 } := J.landed nb fl4.1 ((up.trans up3).trans up4) os ag
      obtain ⟨oe4, vs4, he4, hz4, hd4⟩ := fl4.there
      have S4 := suiteT (trackI J4 J nI he4 hz4 hd4 na nL hx) a
      refine store_ok (X := X.suite a (X.pn ++ pins)) (v := .ref a) S4 hN hi hloc rfl (fun s5 S5 => ?_) (.inr hln)
      refine wpAny_mono ((hsu a (X.pn ++ pins)).run [] s5 _ _ _ S5 (hyes rfl a na)) (fun f s6 hsp => ?_) (fun _ _ z => False.elim z)
      have end_ : ∀ {σ6 : St} {H6 : Hp} {Q : Shared → Prop}, Inv (X.suite a (X.pn ++ pins)) [] σ6 H6 s6 → (∀ s7, Inv X pins (σ6.set i none) H6 s7 → Q s7) →
          wpAny (model X.prog X.w) X.A (do bindName X.env n .none; unbindBehindTheSuite X.env n pos') (fun _ s7 => Q s7) X.xe s6 := fun {σ6 H6 Q} S6 hq => gone_ok (unsuiteT S6 ok) hN hi hln hq
      cases f with
      | next =>
        obtain ⟨σ6, H6, S6, q6⟩ := hsp
        exact end_ S6 fun s7 J7 => ⟨_, _, J7, q6⟩
      | brk =>
        obtain ⟨σ6, H6, S6, q6⟩ := hsp
        exact end_ S6 fun s7 J7 => ⟨_, _, J7, q6⟩
      | cont =>
        obtain ⟨σ6, H6, S6, q6⟩ := hsp
        exact end_ S6 fun s7 J7 => ⟨_, _, J7, q6⟩
      | ret u =>
        obtain ⟨v6, σ6, H6, S6, r6, q6⟩ := hsp
        exact end_ S6 fun s7 J7 => ⟨_, _, _, J7, r6, q6⟩
    | false =>
      show wpAny _ X.A (handleBy (.ref a) X.env []) _ _ _
      refine wpAny_handleBy_nil ?_
      obtain ⟨k1, k2, k3, oe, vs, T, oT, ts', he, hz, hd, h1, hr⟩ := id fl3
      unfold PySem.passOn
      refine wpAny_bind (wpAny_field he hd h1 ?_)
      rw [if_neg (show ¬ ((Value.ref T == Value.none) = true) from by simp)]
      have fin : wpAny (model X.prog X.w) X.A (setFlight (.ref a) X.env.frame) (fun _ s4 => wpAny (model X.prog X.w) X.A (throw (.ref a) : Sem Flow) (SP X pins D) X.xe s4) X.xe { s' with heap := h3 } := by
        rw [hf]
        refine HandSPX.setFlight_upZ fl3 fun h4 hh4 up4 => wpAny_throw (tk _ _ ?_)
        exact ⟨a, B, sI, pins, σ', H', cls, some dx, rfl, J, nb, (up.trans up3).trans up4, .inr (.inr (by rw [hs]; exact hh4)), na, os, ag, hno rfl⟩
      first
        | exact wpAny_bind (wpAny_pure (wpAny_bind fin))
        | exact wpAny_bind fin
  · cases f with
    | next =>
      obtain ⟨σ', H', J', q⟩ := hsp
      exact wpAny_execs_nil ⟨σ', H', J'.ofTry ok, q⟩
    | brk =>
      obtain ⟨σ', H', J', q⟩ := hsp
      exact ⟨σ', H', J'.ofTry ok, q⟩
    | cont =>
      obtain ⟨σ', H', J', q⟩ := hsp
      exact ⟨σ', H', J'.ofTry ok, q⟩
    | ret u =>
      obtain ⟨v, σ', H', J', r, q⟩ := hsp
      exact ⟨v, σ', H', J'.ofTry ok, r, q⟩
end
/-- behind the suite the clause's name is unset -/
def unS (i : Nat) : SRes → SRes
  | .nx ρ => .nx (ρ.set i .un)
  | .bk ρ => .bk (ρ.set i .un)
  | .ct ρ => .ct (ρ.set i .un)
  | .ret o ρ => .ret o ρ
  | _ => .stk
/-- try: f, except y as (the name i): g; t tells of a class whether it is one of y -/
def cTry (i : Nat) (t : Str → Option Bool) (f g : CSt) : CSt := fun ρ => match ρ[i]? with
  | some .un => match f ρ with
    | .ex c d ρ1 => match t c with
      | some true => unS i (g (ρ1.set i (.fz (.err c d))))
      | some false => .ex c d ρ1
      | none => .stk
    | r => r
  | _ => .stk
section
variable {X : Cx} {W : WX} {P : List Nat} {y n : Str} {i : Nat} {body suite : List Stmt} {b₀ : Stmt} {np pos pos' : Pos} {f g : CSt} {t : Str → Option Bool}
theorem js_try (i : Nat) (hs : X.stack = X.env :: X.outer) (hf : X.env.frame = some X.env.locals) (hx : X.ex = []) (hN : X.N.Nodup) (tk : Takes X W)
    (ht : ∀ c b, t c = some b → PySem.W.exmOne X.K (.ref (He.ga X.K c)) (.ref (He.ga X.K y)) = some b) (hm : X.mg y = some (.ref (He.ga X.K y)))
    (hb : ∀ (W' : WX) (pn : List (Addr × Obj)) (xe : Value → Shared → Prop), Takes (X.tr pn xe) W' → PassesOwn (model X.prog X.w) X.A X.env xe → JSs (X.tr pn xe) W' P body f)
    (hsu : ∀ (a : Addr) (pn : List (Addr × Obj)), JSs (X.suite a pn) (fun _ _ _ _ => False) P (b₀ :: suite) g)
    (hP : i ∉ P := by decide) (hi : X.N[i]? = some n := by rfl) (hln : X.env.kindOf n = some .local := by rfl) (hg : Gl X y := by rfl) (hdb : (y == ("__debug__" : Str)) = false := by decide) :
    JS X W P (.Try body [.ExceptHandler (some (.Name y np)) (some n) (b₀ :: suite) pos'] [] [] pos) (cTry i t f g) := by
  refine .by (ps_try_own (c := .ref (He.ga X.K y)) (tb := fun W' => tS X.K W' P f) (ts := fun _ => tS X.K (fun _ _ _ _ => False) P g) hs hf hx hN hi hln ⟨hg, hdb, .inl hm⟩ tk (fun W' pn xe tk' hp => (hb W' pn xe tk' hp).pss) fun a pn => (hsu a pn).pss) fun D σ H F ρ s p => ⟨F, ρ, s, ?_⟩
  unfold cTry at p
  cases h0 : ρ[i]? with
  | none => rw [h0] at p; exact p.elim
  | some c0 =>
    cases c0 with
    | fz _ => rw [h0] at p; exact p.elim
    | ow _ => rw [h0] at p; exact p.elim
    | un =>
      simp only [h0] at p
      cases q : f ρ with
      | nx ρ1 => rw [q] at p; exact p
      | bk ρ1 => rw [q] at p; exact p
      | ct ρ1 => rw [q] at p; exact p
      | ret o ρ1 => rw [q] at p; exact p
      | stk => rw [q] at p; exact p
      | ex c d ρ1 =>
        simp only [q] at p
        cases e : t c with
        | none => rw [e] at p; exact p.elim
        | some b =>
          cases b with
          | false =>
            rw [e] at p
            exact fun dx v σ' F' H' s' b' pn' r' hd => ⟨false, dx, rfl, ht c false e, (fun z => Bool.noConfusion z), fun _ => p dx v σ' F' H' s' b' pn' r' hd⟩
          | true =>
            simp only [e] at p
            intro dx v σ' F' H' s' b' pn' r' hd
            refine ⟨true, dx, rfl, ht c true e, fun _ a na => ?_, fun z => Bool.noConfusion z⟩
            have nda : dx ≠ a := fun z => by
              have := s'.sub _ _ hd
              rw [z, na] at this
              cases this
            have s1 := s'.newF (o := ErO (.ref (He.ga X.K c)) dx a) na
            have b1 := b'.trans (Fr.newF s' (o := ErO (.ref (He.ga X.K c)) dx a) na)
            have r1 : Rp X.K (upd F' a (ErO (.ref (He.ga X.K c)) dx a)) (.ref a) (.err c d) := .err upd_same (by rw [upd_ne nda]; exact hd) (r'.mono (Fr.newF s' na).ext)
            have s2 := s1.setF (i := i) r1
            have b2 := b1.setF (i := i) (d := .err c d) (v := .ref a)
            have p2 : Pin P σ (σ'.set i (some (.ref a))) := fun j hj => by
              rw [List.getElem?_set_ne (fun z : i = j => hP (by rw [z]; exact hj))]
              exact pn' j hj
            refine ⟨_, _, s2, ?_⟩
            cases q2 : g (ρ1.set i (.fz (.err c d))) with
            | nx ρ3 => rw [q2] at p; exact fun σ3 F3 H3 s3 b3 pn3 => p _ F3 H3 s3.unset ((b2.trans b3).unset h0) ((p2.trans pn3).unset hP)
            | bk ρ3 => rw [q2] at p; exact fun σ3 F3 H3 s3 b3 pn3 => p _ F3 H3 s3.unset ((b2.trans b3).unset h0) ((p2.trans pn3).unset hP)
            | ct ρ3 => rw [q2] at p; exact fun σ3 F3 H3 s3 b3 pn3 => p _ F3 H3 s3.unset ((b2.trans b3).unset h0) ((p2.trans pn3).unset hP)
            | ret o ρ3 => rw [q2] at p; exact fun v3 σ3 F3 H3 s3 b3 pn3 o3 => p v3 σ3 F3 H3 s3 (b2.trans b3) (p2.trans pn3) (OR.backS b2.dom o3)
            | ex c' d' ρ3 => rw [q2] at p; exact p.elim
            | stk => rw [q2] at p; exact p.elim
end
/-! ### the classes of errors -/
/-- a class of errors made by FreeError.__init__ -/
structure ExK (K : PySem.W.Frag) (c : Str) : Prop where
  oex : OexC K (He.ga K c)
  iC : PySem.W.findIn K (.ref (He.ga K c)) "__init__" = some (some (.ref (He.ma K (He.ga K "FreeError") "__init__")))
  no : PySem.W.findIn K (.ref (He.ga K c)) "value" = some none
  xf : XfC K (He.ga K c)
  is : ExcC K (He.ga K c)
def oexB (K : PySem.W.Frag) (C : Addr) : Bool := match K.lookup C with
  | some ⟨.type "type", _, .cls cd, sl⟩ => (match cd.mro, sl.toList with
    | .ref C' :: bm, [_, _, _, _, some (.builtin n), _] => C' == C && n == "ValueError.__new__" && !cd.hasDel && cd.hasDict && PySem.HandSPX.refsVE bm
    | _, _ => false)
  | _ => false
theorem oexB_ok {K : PySem.W.Frag} {C : Addr} (q : oexB K C = true) : ∃ nm q N bs bm sn sub ab col dd k0 k1 k2 k3 k5, K.lookup C = some (excClassObj nm q C N bs bm true sn sub ab col dd k0 k1 k2 k3 k5 "ValueError.__new__") ∧ PySem.HandSPX.refsVE bm = true := by
  unfold oexB at q
  split at q
  · rename_i dd cd sl ho
    split at q
    · rename_i C' bm k0 k1 k2 k3 n k5 hm hs
      simp only [Bool.and_eq_true, beq_iff_eq, Bool.not_eq_true'] at q
      obtain ⟨⟨⟨⟨rfl, rfl⟩, hdel⟩, hd⟩, ht⟩ := q
      obtain ⟨nm, bs, mro, ns, qn, hdc, sn, sub, ab, col, del⟩ := cd
      dsimp only at hm hdel hd
      subst hm hdel hd
      have hsl : sl = #[k0, k1, k2, k3, some (.builtin "ValueError.__new__"), k5] := by
        obtain ⟨l⟩ := sl
        simp only at hs
        rw [hs]
      subst hsl
      exact ⟨nm, qn, ns, bs, bm, sn, sub, ab, col, dd, k0, k1, k2, k3, k5, ho, ht⟩
    · cases q
  · cases q
def dB (p : Prop) [Decidable p] : Bool := decide p
def exKB (K : PySem.W.Frag) (c : Str) : Bool :=
  oexB K (He.ga K c) && (dB (PySem.W.findIn K (.ref (He.ga K c)) "__setattr__" = some (some (.builtin "object.__setattr__"))) && (dB (PySem.W.subIn K (.ref (He.ga K c)) (.type "BaseException") = some true) && (dB (PySem.W.typeIn K (.ref (He.ga K c)) = some (.type "type")) && (PySem.W.keepIn K (.ref (He.ga K c)) &&
  (dB (PySem.W.findIn K (.ref (He.ga K c)) "__init__" = some (some (.ref (He.ma K (He.ga K "FreeError") "__init__")))) && (dB (PySem.W.findIn K (.ref (He.ga K c)) "value" = some none) && (xfB K (He.ga K c) &&
  (dB (PySem.W.findIn K (.ref (He.ga K c)) "__class__" = some (some (.builtin "object.__class__"))) && (dB (PySem.W.specialIn K (.builtin "object.__class__") "__get__" = some (some (.builtin "getset_descriptor.__get__"))) && (dB (PySem.W.takesIn K (.builtin "object.__class__") = some true) && dB (PySem.W.mroIn K (He.ga K c) (.type "object") = some true)))))))))))
theorem exKB_ok {K : PySem.W.Frag} {c : Str} (h : exKB K c = true) : ExK K c := by
  unfold exKB dB at h
  simp only [Bool.and_eq_true, decide_eq_true_eq] at h
  obtain ⟨h1, h2, h3, h4, h5, h6, h7, h8, h9, h10, h11, h12⟩ := h
  have xf := xfB_ok h8
  exact ⟨⟨oexB_ok h1, h2, h3, h4, h5⟩, h6, h7, xf, ⟨xf.ga, xf.gg, h3, xf.hdC, h9, h10, h11, h12⟩⟩
/-- ValueError.__init__ is as it should be -/
def veB (K : PySem.W.Frag) : Bool := match PySem.W.findCls K (.type "ValueError") (.type "type") "__init__" with
  | some (.val (.builtin n)) => n == "ValueError.__init__"
  | _ => false
theorem veB_ok {K : PySem.W.Frag} (h : veB K = true) : PySem.W.findCls K (.type "ValueError") (.type "type") "__init__" = some (.val (.builtin "ValueError.__init__")) := by
  unfold veB at h
  split at h
  · rename_i n e
    rw [e, beq_iff_eq.mp h]
  · cases h
/-- FreeError.__init__ -/
def spI (K : PySem.W.Frag) : Sp := fun vs H Q _ => ∃ (a C : Addr) (v : V), vs = [.ref a, v] ∧ OexC K C ∧ PySem.W.findIn K (.ref C) "value" = some none ∧ H a = some (exo a C none) ∧
  ∀ dx, H dx = none → dx ≠ a → Q .non (upd (upd H dx (exd dx [("value", v)])) a (exo a C (some dx)))
section
variable {P : Program} {w : World} {K : PySem.W.Frag} {mg : Str → Option Value} {base : Heap} {fI : Addr} {fd : FuncData} {params : Arguments} {scope : Scope} {p2 p3 p4 p5 p6 p7 p8 p9 p10 p11 : Pos} {x qual : Str}
theorem ok_init (F : FunD K x qual params [.Expr (.Call (.Attribute (.Name "ValueError" p2) "__init__" p3) [.Name "self" p4, .Name "value" p5] [] p6) p7, .Assign [.Attribute (.Name "self" p8) "value" p9] (.Name "value" p10) p11] scope [] [] fI fd)
    (S : FnScope ["self", "value"] ["self", "value"] scope) (hV : mg "ValueError" = none) (vV : veB K = true) (hg : ∀ cdv A outer s H E, Gl (cxOf (L2.CX P w) P w K mg base ["self", "value"] qual scope fI cdv A outer s H E) "ValueError")
    (hc : ∀ cdv A outer s H E, ∃ pl : Sem Bool, eval (.Call (.Attribute (.Name "ValueError" p2) "__init__" p3) [.Name "self" p4, .Name "value" p5] [] p6) (cxOf (L2.CX P w) P w K mg base ["self", "value"] qual scope fI cdv A outer s H E).env = (do
      let ov ← eval (.Name "ValueError" p2) (cxOf (L2.CX P w) P w K mg base ["self", "value"] qual scope fI cdv A outer s H E).env
      standAt p3.atName
      let (f, first) ← holding [ov] (getMethod ov "__init__" pl)
      callWith p6 f first (backTo p6 (starEach [.Name "self" p4, .Name "value" p5] (cxOf (L2.CX P w) P w K mg base ["self", "value"] qual scope fI cdv A outer s H E).env)) (backToKw p6 (keywordEach [] (cxOf (L2.CX P w) P w K mg base ["self", "value"] qual scope fI cdv A outer s H E).env))))
    (hv0 : ∀ cdv A outer s H E, Vis (cxOf (L2.CX P w) P w K mg base ["self", "value"] qual scope fI cdv A outer s H E).env.scope "self") (hv1 : ∀ cdv A outer s H E, Vis (cxOf (L2.CX P w) P w K mg base ["self", "value"] qual scope fI cdv A outer s H E).env.scope "value") :
    FnOk P w K mg base (L2.CX P w) 1 fI fd ["self", "value"] (spI K) := by
  refine F.ok (k := 0) S (fun vs H Q E h => ?_) (fun cdv A outer s H vs Q E hr h => ?_)
  · obtain ⟨_, _, _, rfl, _⟩ := h
    rfl
  · obtain ⟨pl, hcc⟩ := hc cdv A outer s H E
    have pS : PE (cxOf (L2.CX P w) P w K mg base ["self", "value"] qual scope fI cdv A outer s H E) (.Name "self" p4) _ := pe_var (i := 0) rfl (hv0 cdv A outer s H E)
    have pS8 : PE (cxOf (L2.CX P w) P w K mg base ["self", "value"] qual scope fI cdv A outer s H E) (.Name "self" p8) _ := pe_var (i := 0) rfl (hv0 cdv A outer s H E)
    have pV : PE (cxOf (L2.CX P w) P w K mg base ["self", "value"] qual scope fI cdv A outer s H E) (.Name "value" p5) _ := pe_var (i := 1) rfl (hv1 cdv A outer s H E)
    have pV10 : PE (cxOf (L2.CX P w) P w K mg base ["self", "value"] qual scope fI cdv A outer s H E) (.Name "value" p10) _ := pe_var (i := 1) rfl (hv1 cdv A outer s H E)
    refine ⟨_, (pss_cons (ps_expr (pe_veinit (hg cdv A outer s H E) hV (veB_ok vV) (pa_cons pS (pa_cons pV pa_nil)) hcc)) (pss_one (ps_ost pS8 pV10))), ?_⟩
    obtain ⟨a, C, v, rfl, T, no, ha, k⟩ := h
    refine ⟨.ref a, rfl, v, rfl, a, C, [v], rfl, by simp, T, ha, ?_⟩
    exact ⟨v, rfl, .ref a, rfl, a, C, rfl, T, no, .inl ⟨ha, fun dx h1 h2 => k dx h1 h2⟩⟩
end
/-- what a raise leans on -/
structure IniK (P : Program) (w : World) (K : PySem.W.Frag) (mg : Str → Option Value) (base : Heap) : Prop where
  ex : ∃ fd, FnOk P w K mg base (L2.CX P w) 1 (He.ma K (He.ga K "FreeError") "__init__") fd ["self", "value"] (spI K) ∧ Binds K fd ["self", "value"] []
  tI : PySem.W.typeIn K (.ref (He.ma K (He.ga K "FreeError") "__init__")) = some (.type "function")
/-- raise c(e) -/
def cRaise (c : Str) (fe : Ev → Res D) : CSt := fun ρ => (fe ρ).sbind fun d ρ' => .ex c d ρ'
section
variable {X : Cx} {W : WX} {P : List Nat} {c : Str} {e : Expr} {p pos pos2 : Pos} {fe : Ev → Res D}
theorem js_raise (hc : X.calm = true) (tk : Takes X W) (T : ExK X.K c) (B : IniK X.prog X.w X.K X.mg X.base) (hr : Room 2 X.A) (hm : X.mg c = some (.ref (He.ga X.K c))) (he : JV X W e fe) (hg : Gl X c := by rfl) (hdb : (c == ("__debug__" : Str)) = false := by decide)
    (hs : starEach (e :: []) X.env = (false, eval e X.env) :: starEach [] X.env := by rfl) (hpl : (backTo pos (starEach [] X.env)).any (·.1) = false := by rfl) :
    JS X W P (.Raise (some (.Call (.Name c p) [e] [] pos)) none pos2) (cRaise c fe) := by
  obtain ⟨fd, F1, hb⟩ := B.ex
  have ha : JA X W [e] (cConsA fe cNilA) := ja_cons he ja_nil hs
  refine .by (ps_raise hc tk (pmk_oex T.oex T.iC B.tI F1 hr hb .nil (passes_call tk fun _ _ _ _ z => z.elim) hg hm ha.pa hdb hs hpl)) fun D σ H F ρ s p => ⟨F, ρ, s, ?_⟩
  unfold cRaise at p
  unfold cConsA cNilA
  cases q : fe ρ with
  | stk => rw [q] at p; exact p.elim
  | ex c' d' ρ' => rw [q] at p; exact fun dx v F' H' s' b' => p dx v σ F' H' s' b' (Pin.refl _ _)
  | ok d ρ1 =>
    rw [q] at p
    intro vs F1 H1 s1 b1 r1
    cases r1 with
    | @cons v _ _ _ rv rn =>
      cases rn
      refine ⟨by simp, fun a ha => ⟨a, He.ga X.K c, v, rfl, T.oex, T.no, upd_same, fun dx hdx hne => ?_⟩⟩
      have ndx : H1 dx = none := by rwa [upd_ne hne] at hdx
      have eH : upd (del (upd (upd (upd H1 a (exo a (He.ga X.K c) none)) dx (exd dx [("value", v)])) a (exo a (He.ga X.K c) (some dx))) a) dx (.xd [("value", v)]) = upd H1 dx (.xd [("value", v)]) := by
        funext b
        by_cases h1 : b = dx
        · subst h1; rw [upd_same, upd_same]
        · rw [upd_ne h1, upd_ne h1]
          by_cases h2 : b = a
          · subst h2; rw [del_same, ha]
          · rw [del_ne h2, upd_ne h2, upd_ne h1, upd_ne h2]
      refine ⟨rfl, dx, [("value", v)], upd_same, by rw [upd_ne hne, upd_same], ndx, ?_⟩
      rw [eH]
      exact p dx v σ _ _ (s1.newF ndx) (b1.trans (Fr.newF s1 ndx)) (Pin.refl _ _) (rv.mono (Fr.newF s1 ndx (o := .xd [("value", v)])).ext) upd_same
/-- e.value, e an error that was caught -/
def cFld (cs : List Str) (fe : CEx) : CEx := fun ρ => (fe ρ).bind fun o ρ1 => match useO ρ1 o with
  | some (.err c d) => if c ∈ cs then .ok (.vl d) ρ1 else .stk
  | _ => .stk
theorem pe_val {te : TE} (he : PE X e te) (hb : attributeBase e "value" X.env (eval e X.env) = eval e X.env) :
    PE X (.Attribute e "value" pos) (fun σ H Q => te σ H fun x H1 => ∃ a C dd v, x = .ref a ∧ H1 a = some (ErO (.ref C) dd a) ∧ XfC X.K C ∧ PySem.W.findIn X.K (.ref C) "value" = some none ∧ H1 dd = some (.xd [("value", v)]) ∧ Q v H1) := by
  refine ⟨fun pins s σ H Q I h => ?_⟩
  refine attr_of hb (thn (he.run pins s σ H _ I h) fun u s1 hh => ?_)
  obtain ⟨x, H1, I1, rx, a, C, dd, v, ex, ea, T, hno, ed, q⟩ := hh
  subst ex
  obtain rfl : u = Value.ref a := rx
  obtain ⟨⟨oe, vs, ho1, hz, hd⟩, _⟩ := I1.hok a _ ea
  have hx : ObjOk X.prog X.w H1 s1.heap dd (.xd [("value", v)]) := I1.hok dd _ ed
  obtain ⟨mA, hns, hr⟩ := hx
  obtain ⟨od, ho, hl⟩ := lookIn_ns hns
  have l : List.lookup ("value" : Str) [(("value" : Str), v)] = some v := by simp [List.lookup]
  obtain ⟨u, hu, ru⟩ := RelO.some_of (v := v) (o := mA "value") (by rw [← l]; exact hr "value")
  have J : PySem.W.InstAt s1.heap a oe C (some od) := ⟨ho1, hz.1, by unfold PySem.W.notCls; rw [hd] <;> rfl, by rw [hz.2]; exact ho⟩
  exact HandSPX.exc_get I1.kIn J T.ga T.gg T.exC (PySem.W.findObj_own T.hdC hno rfl (by rw [hl, hu])) (handed_of ru) ⟨v, H1, I1.tok _, ru, q⟩
theorem je_value {cs : List Str} {f : CEx} (T : ∀ c ∈ cs, ExK X.K c) (he : JE X W e f) (hb : attributeBase e "value" X.env (eval e X.env) = eval e X.env := by rfl) : JE X W (.Attribute e "value" pos) (cFld cs f) :=
  .by (pe_val he.pe hb) fun σ H Q F ρ s p => ⟨F, ρ, s, by
    unfold cFld at p
    cases q : f ρ with
    | stk => rw [q] at p; exact p.elim
    | ex c d ρ' => rw [q] at p; exact p
    | ok o ρ1 =>
      rw [q] at p
      intro v F1 H1 s1 b1 r1
      have p1 : Po X.K W (OR X.K) F ρ σ H Q (match useO ρ1 o with
        | some (.err c d) => if c ∈ cs then .ok (.vl d) ρ1 else .stk
        | _ => .stk) := p
      cases e1 : useO ρ1 o with
      | none => rw [e1] at p1; exact p1.elim
      | some x =>
        rw [e1] at p1
        cases x with
        | err c d =>
          dsimp only at p1
          by_cases hc : c ∈ cs
          · rw [if_pos hc] at p1
            have ar := AR.of s1 r1 e1
            rcases ar with ar | ⟨a, _, w⟩
            · cases ar with
              | err h1 h2 r =>
                exact ⟨_, _, _, _, rfl, s1.sub _ _ h1, (T c hc).xf, (T c hc).no, s1.sub _ _ h2, p1 _ F1 H1 s1 b1 r⟩
            · exact w.elim
          · rw [if_neg hc] at p1; exact p1.elim
        | _ => exact p1.elim⟩
/-- isinstance(e, y), e an error that was caught -/
def dIsE (t : Str → Option Bool) : D → Option Opd
  | .err c _ => (t c).map fun b => .vl (.bl b)
  | _ => none
end
theorem binds_of {K : PySem.W.Frag} {fd : FuncData} {ps : List Str} (h : ∀ (s : Shared) (us : List Value), us.length = ps.length → BindsTo s fd ⟨us, []⟩ (ps.zip us)) : Binds K fd ps [] := fun s us _ hl => by
  rw [List.append_nil] at hl ⊢
  exact h s us hl
/-! ### a, b, c = x, y, z -/
def newB : Opd → Bool
  | .pl _ => false
  | _ => true
theorem newB_ok {o : Opd} (h : newB o = true) : isNew o := by cases o <;> first | trivial | cases h
def set3 (i j l : Nat) (oa ob oc : Opd) (ρ : Ev) : Option Ev := if newB oa = true ∧ newB ob = true ∧ newB oc = true then ((setC i oa ρ).bind fun ρ1 => setC j ob ρ1).bind fun ρ2 => setC l oc ρ2 else none
def cPar3 (i j l : Nat) (fa fb fc : CEx) : CSt := fun ρ => (fa ρ).sbind fun oa ρ1 => (fb ρ1).sbind fun ob ρ2 => (fc ρ2).sbind fun oc ρ3 => optS (set3 i j l oa ob oc ρ3)
section
variable {X : Cx} {W : WX} {P : List Nat} {a b c : Expr} {fa fb fc : CEx} {pos : Pos}
theorem js_par3 (i j l : Nat) {x y z : Str} {px py pz pt : Pos} {kt k2 pt2} (hc : X.calm = true) (hN : X.N.Nodup) (ha : JE X W a fa) (hb : JE X W b fb) (hcc : JE X W c fc)
    (hw : swappedStores [.Tuple [.Name x px, .Name y py, .Name z pz] kt pt] (.Tuple [a, b, c] k2 pt2) X.env = pure (some [x, y, z])) (hi : X.N[i]? = some x := by rfl) (hj : X.N[j]? = some y := by rfl) (hl : X.N[l]? = some z := by rfl) (hij : i ≠ j := by decide) (hil : i ≠ l := by decide) (hjl : j ≠ l := by decide)
    (hPi : i ∉ P := by decide) (hPj : j ∉ P := by decide) (hPl : l ∉ P := by decide)
    (hx : X.env.scope.names.lookup x = some .local := by rfl) (hy : X.env.scope.names.lookup y = some .local := by rfl) (hz : X.env.scope.names.lookup z = some .local := by rfl)
    (hs : swapsWithSole [.Tuple [.Name x px, .Name y py, .Name z pz] kt pt] (.Tuple [a, b, c] k2 pt2) pos.line X.env = pure false := by rfl) (hs1 : starEach [a, b, c] X.env = (false, eval a X.env) :: starEach [b, c] X.env := by rfl) (hs2 : starEach [b, c] X.env = (false, eval b X.env) :: starEach [c] X.env := by rfl) (hs3 : starEach [c] X.env = (false, eval c X.env) :: starEach [] X.env := by rfl) :
    JS X W P (.Assign [.Tuple [.Name x px, .Name y py, .Name z pz] kt pt] (.Tuple [a, b, c] k2 pt2) pos) (cPar3 i j l fa fb fc) :=
  .by (ps_par3 hc hN hi hj hl hij hil hjl hx hy hz (pa_cons ha.pe (pa_cons hb.pe (pa_cons hcc.pe pa_nil hs3) hs2) hs1) hw hs) fun D σ H F ρ s p => ⟨F, ρ, s, by
    unfold cPar3 at p
    cases qa : fa ρ with
    | stk => rw [qa] at p; exact p
    | ex c d ρ' => rw [qa] at p; exact fun dx v F' H' s' r' => p dx v σ F' H' s' r' (Pin.refl _ _)
    | ok oa ρ1 =>
      rw [qa] at p
      intro v F1 H1 s1 b1 r1
      refine ⟨F1, ρ1, s1, ?_⟩
      have p1 : Ps X.K W P F ρ σ H D ((fb ρ1).sbind fun ob ρ2 => (fc ρ2).sbind fun oc ρ3 => optS (set3 i j l oa ob oc ρ3)) := p
      cases qb : fb ρ1 with
      | stk => rw [qb] at p1; exact p1
      | ex c d ρ' => rw [qb] at p1; exact fun dx v F' H' s' r' => p1 dx v σ F' H' s' (b1.trans r') (Pin.refl _ _)
      | ok ob ρ2 =>
        rw [qb] at p1
        intro w F2 H2 s2 b2 r2
        refine ⟨F2, ρ2, s2, ?_⟩
        have p2 : Ps X.K W P F ρ σ H D ((fc ρ2).sbind fun oc ρ3 => optS (set3 i j l oa ob oc ρ3)) := p1
        cases qc : fc ρ2 with
        | stk => rw [qc] at p2; exact p2
        | ex c d ρ' => rw [qc] at p2; exact fun dx v F' H' s' r' => p2 dx v σ F' H' s' ((b1.trans b2).trans r') (Pin.refl _ _)
        | ok oc ρ3 =>
          rw [qc] at p2
          intro u F3 H3 s3 b3 r3
          refine ⟨v, w, u, rfl, ?_⟩
          have p3 : Ps X.K W P F ρ σ H D (optS (set3 i j l oa ob oc ρ3)) := p2
          unfold set3 at p3
          by_cases hn : newB oa = true ∧ newB ob = true ∧ newB oc = true
          · rw [if_pos hn] at p3
            have na := newB_ok hn.1
            have nb := newB_ok hn.2.1
            have nc := newB_ok hn.2.2
            cases q1 : setC i oa ρ3 with
            | none => rw [q1] at p3; exact p3.elim
            | some ρ4 =>
              rw [q1] at p3
              have p4 : Ps X.K W P F ρ σ H D (optS ((setC j ob ρ4).bind fun ρ2 => setC l oc ρ2)) := p3
              cases q2 : setC j ob ρ4 with
              | none => rw [q2] at p4; exact p4.elim
              | some ρ5 =>
                rw [q2] at p4
                have p5 : Ps X.K W P F ρ σ H D (optS (setC l oc ρ5)) := p4
                cases q3 : setC l oc ρ5 with
                | none => rw [q3] at p5; exact p5.elim
                | some ρ6 =>
                  rw [q3] at p5
                  have r1 : OR X.K F1 ρ1 σ H H1 v oa := r1
                  have r2 : OR X.K F2 ρ2 σ H1 H2 w ob := r2
                  have r3 : OR X.K F3 ρ3 σ H2 H3 u oc := r3
                  have r1' : OR X.K F3 ρ3 σ H H3 v oa := OR.step (OR.step r1 b2) b3
                  have r2' : OR X.K F3 ρ3 σ H1 H3 w ob := OR.step r2 b3
                  have old1 : ∀ d t c, oa = .fr d → v = .ref t → In H3 t d c → H1 c ≠ none := fun d t c e1 e2 hc => by
                    subst e1
                    obtain ⟨a', e3, nn3, w3⟩ := r1
                    rw [e2] at e3
                    cases e3
                    exact w3.there (In.keep w3 (fun c hc => (nn3 c hc).2.2) (b2.trans b3) hc)
                  have old2 : ∀ d t c, ob = .fr d → w = .ref t → In H3 t d c → H2 c ≠ none := fun d t c e1 e2 hc => by
                    subst e1
                    obtain ⟨a', e3, nn3, w3⟩ := r2
                    rw [e2] at e3
                    cases e3
                    exact w3.there (In.keep w3 (fun c hc => (nn3 c hc).2.2) b3 hc)
                  obtain ⟨s4, b4⟩ := set_new na s3 ((b1.trans b2).trans b3) r1' q1
                  have r2b := OR.set na nb q1 r1' r2' old1
                  have r3b := OR.set na nc q1 r1' r3 fun d t c e1 e2 hc => b2.dom c (old1 d t c e1 e2 hc)
                  obtain ⟨s5, b5⟩ := set_new nb s4 b4 (OR.backS (fun a z => b1.dom a z) r2b) q2
                  have r3c := OR.set nb nc q2 r2b r3b old2
                  obtain ⟨s6, b6⟩ := set_new nc s5 b5 (OR.backS (fun a z => b2.dom a (b1.dom a z)) r3c) q3
                  refine p5 _ F3 H3 s6 b6 fun k hk => ?_
                  rw [List.getElem?_set_ne (fun (z : l = k) => hPl (by rw [z]; exact hk)), List.getElem?_set_ne (fun (z : j = k) => hPj (by rw [z]; exact hk)), List.getElem?_set_ne (fun (z : i = k) => hPi (by rw [z]; exact hk))]
          · rw [if_neg hn] at p3; exact p3.elim⟩
end
/-! ### the hook, with facts of the classes -/
def hookB (n : Nat) (fa : List He.Fa) (fn : List He.DefD) (xb : PySem.W.Frag → Bool) : PySem.W.Hook where
  α := He.AlD × Bool
  obs := fun s => (He.obsDG n fa fn s.heap.get?, xb (He.frG s.heap.get? (He.asD s.heap.get? n)))
  val := fun _ => (He.valD fn, true)
  says := fun _ h => ∃ K : PySem.W.Frag, K.In h ∧ He.SaysD fa fn K ∧ xb K = true
  of := fun _ _ e => ⟨_, He.frG_in, congrArg (fun z : He.AlD × Bool => z.1) e, congrArg (fun z : He.AlD × Bool => z.2) e⟩
  keeps := fun _ _ _ ⟨K, hK, c⟩ k => ⟨K, PySem.W.Frag.In.keeps hK k, c⟩
def obsBG (n : Nat) (fa : List He.Fa) (fn : List He.DefD) (xb : PySem.W.Frag → Bool) (g : Addr → Option Obj) : He.AlD × Bool := (He.obsDG n fa fn g, xb (He.frG g (He.asD g n)))
theorem obsBG_eq {n : Nat} {fa : List He.Fa} {fn : List He.DefD} {xb : PySem.W.Frag → Bool} {g : Addr → Option Obj} {s : Shared} (h : ∀ a, g a = s.heap.get? a) : obsBG n fa fn xb g = (hookB n fa fn xb).obs s := by
  have e : g = s.heap.get? := funext h
  rw [e] <;> rfl
end PL
/-! PL23: tuple * int, tuple(text) -/
namespace PL
open PySem PySem.Spec L2 PyProof.Rows
theorem tuple_mul1 (l : Addr) (items : Array Value) (n : Nat) (dd : Option Addr) (sl : Array (Option Value)) (x : Int) (u : Tok) (c0 : (decide (x < -(2 ^ 63)) || decide (x ≥ 2 ^ 63)) = false) (c1 : (items.isEmpty || x == 1) = true) :
    Meets (Builtin.«tuple.__mul__» ⟨[.ref l, .int x u], []⟩) (fun _ R s => s.heap.get? l = some { cls := .type "tuple", dict := dd, data := .seq items n, slots := sl } ∧ R (.ok (.ret (Value.ref l))) s) :=
  .of_wp fun prog w A R s h => by
    obtain ⟨hp, g, d, tk, os⟩ := s
    obtain ⟨hl, h⟩ := h
    have f1 := AutoSeq1.idx_int
    wp_walk using PySem.AutoSeq1.wpAny_loadPart' hl
    repeat (first
      | (refine wpAny_ite_false (decide_eq_false (by rw [c0]; exact Bool.false_ne_true)) ?_; wp_walk using PySem.AutoSeq1.wpAny_loadPart' hl)
      | (refine wpAny_ite_true (decide_eq_true c1) ?_; wp_walk using PySem.AutoSeq1.wpAny_loadPart' hl))
    exact ⟨_, rfl, h⟩
def rRepT1 (K : PySem.W.Frag) : R2 := fun x y H Q => ∃ l k xs, x = .ref l ∧ y = .int k ∧ SqT K H l xs ∧ in63 k = true ∧ (xs = [] ∨ k = 1) ∧ Q (.ref l) H
section
variable {X : Cx} {K : PySem.W.Frag}
theorem op_repT1 : OpR X (binaryOp .Mult) (rRepT1 X.K) := by
  intro pins s σ H x y v u Q I rx ry h
  obtain ⟨l, k, xs, rfl, rfl, hT, hk, hne, q⟩ := h
  cases rx
  obtain ⟨t, rfl⟩ := ry
  obtain ⟨its, r, ⟨⟨cls, dd, data, sl⟩, ho, hc, n, hd⟩, hs⟩ := I.tuple hT
  simp only at hc hd
  subst hc hd
  obtain ⟨k1, k2⟩ := Bool.and_eq_true_iff.mp hk
  have k1 := of_decide_eq_true k1
  have k2 := of_decide_eq_true k2
  have c0 : (decide (k < -(2 ^ 63)) || decide (k ≥ 2 ^ 63)) = false := by
    rw [decide_eq_false (by omega), decide_eq_false (by omega)] <;> rfl
  have c1 : (its.toArray.isEmpty || k == 1) = true := by
    rcases hne with h | h
    · subst h
      have : its = [] := List.eq_nil_of_length_eq_zero (r.length.symm)
      subst this
      rfl
    · subst h; simp
  refine wpAny_binaryOp_repeat_ref (T := "tuple") (U := "int") (by decide) ⟨_, ho, rfl⟩ (fun s' => typeIs_int s' k t) noFill_tuple_mul F.fills_int_mul F.slot_int_rmul repeat_tuple F.slot_int_index.lookup
    (call_meets F.slot_int_rmul (typeIs_int s k t) F.entry_int_rmul (F.args_int_rmul_2 _ _) (int_rmul_tuple k t l its.toArray n dd sl)
      ⟨ho, rfl, ⟨_, ho, rfl⟩, call_meets F.slot_tuple_mul ⟨_, ho, rfl⟩ F.entry_tuple_mul (F.args_tuple_mul_2 _ _) (tuple_mul1 l its.toArray n dd sl k t c0 c1) ⟨ho, ?_⟩⟩)
  exact ⟨.ref l, H, I, rfl, q⟩
/-- tuple * int -/
def dRepT : D → D → Option Opd := fun x y => match x, y with
  | .tup a, .int k => if in63 k = true ∧ (a.length = 0 ∨ k = 1) then some (.vl (.tup a)) else if a.length ≠ 0 ∧ 2 ≤ k ∧ k ≤ 1000 ∧ a.length ≤ 1000 then some (.vl (.tup (repL a k))) else none
  | _, _ => none
theorem op_dRepT : OpR X (binaryOp .Mult) (fun x y H Q => rRepT1 X.K x y H Q ∨ rRepT X.K x y H Q) := op_repT1.or op_repT
theorem sm_dRepT : Sem2 K (fun x y H Q => rRepT1 K x y H Q ∨ rRepT K x y H Q) dRepT := fun W F ρ σ H x y dx dy o Q s ax ay e p => by
  cases dx with
  | tup a =>
    cases dy with
    | int k =>
      have e' : (if in63 k = true ∧ (a.length = 0 ∨ k = 1) then some (Opd.vl (.tup a)) else if a.length ≠ 0 ∧ 2 ≤ k ∧ k ≤ 1000 ∧ a.length ≤ 1000 then some (.vl (.tup (repL a k))) else none) = some o := e
      obtain ⟨l, xs, rfl, hF, hH, r⟩ := ax.tup s.sub
      rw [ay.int]
      by_cases h : in63 k = true ∧ (a.length = 0 ∨ k = 1)
      · rw [if_pos h] at e'
        cases e'
        refine .inl ⟨l, k, xs, rfl, rfl, hH, h.1, h.2.imp_left fun z => List.eq_nil_of_length_eq_zero (r.length.trans z), p.here s (.tup hF r)⟩
      · rw [if_neg h] at e'
        by_cases h2 : a.length ≠ 0 ∧ 2 ≤ k ∧ k ≤ 1000 ∧ a.length ≤ 1000
        · rw [if_pos h2] at e'
          cases e'
          exact .inr ⟨l, k, xs, rfl, rfl, hH, fun z => h2.1 (by rw [← r.length, z]; rfl), h2.2.1, h2.2.2.1, by rw [r.length]; exact h2.2.2.2, fun q hq => PoX.newT s p hq (r.rep _)⟩
        · rw [if_neg h2] at e'; cases e'
    | _ => cases e
  | _ => cases e
/-! ### tuple(text) -/
def rTupTx : List V → Hp → VK → Prop := fun xs H Q => ∃ z : List Nat, xs = [.str ⟨z.toArray⟩] ∧ z.length ≤ sizeLine ∧ ∀ l, H l = none → Q (.ref l) (upd H l (.tup (z.map fun c => .str ⟨#[c]⟩)))
theorem cr_tupTx (hc : X.calm = true) : CallR X (.type "tuple") rTupTx := by
  intro pins s σ H xs us Q I r h
  obtain ⟨z, rfl, hz, q⟩ := h
  obtain ⟨u, rfl, t, rfl⟩ := vals1 r
  refine call_tuple_str (I.ok.hd hc) _ t (fun h' tk acc hk hi => ?_) (by simpa using hz)
  have I1 : Inv X pins σ H { s with heap := h', toks := tk } := I.kept (t' := tk) hk
  refine ⟨.ref h'.objs.size, upd H h'.objs.size (.tup (z.map fun c => .str ⟨#[c]⟩)), I1.laid (t' := tk) (fun b o e => Heap.get?_push_of_some _ e) (Nat.le_refl _) (show ObjOk X.prog X.w _ _ _ (.tup (z.map fun c => .str ⟨#[c]⟩)) from ⟨by rw [List.length_map]; exact hz, acc.toList, ?_, by rw [Array.toArray_toList]; exact IsTup.new _ _⟩), rfl, q _ (I1.hok.fresh (Nat.le_refl _))⟩
  refine vals_of_idx _ _ (by rw [Array.length_toList, hi.1, List.length_map]; simp) fun j u hj => ?_
  obtain ⟨c, tk2, h1, rfl⟩ := hi.2 j u (by rw [← hj, Array.getElem?_toList])
  exact ⟨.str ⟨#[c]⟩, by rw [List.getElem?_map]; have h2 : z[j]? = some c := by simpa using h1
                         rw [h2]; rfl, _, rfl⟩
def dTupA : D → Option Opd := fun d => match d with
  | .str z => if z.length ≤ sizeLine then some (.vl (.tup (z.map fun c => .str [c]))) else none
  | d => dTuple d
def rTupA (K : PySem.W.Frag) : List V → Hp → VK → Prop := fun xs H Q => (∃ p ys, xs = [V.ref p] ∧ ((SqL K H p ys ∧ ∀ l, H l = none → Q (.ref l) (upd H l (.tup ys))) ∨ (SqT K H p ys ∧ Q (.ref p) H))) ∨ rTupTx xs H Q
theorem cr_tupA (hc : X.calm = true) : CallR X (.type "tuple") (rTupA X.K) := call_tuple_of.or (cr_tupTx hc)
theorem sm_tupA : Sem1 K (fun x H Q => rTupA K [x] H Q) dTupA := fun W F ρ σ H x dx o Q s ax e p => by
  cases dx with
  | str z =>
    have e' : (if z.length ≤ sizeLine then some (Opd.vl (.tup (z.map fun c => .str [c]))) else none) = some o := e
    by_cases h : z.length ≤ sizeLine
    · rw [if_pos h] at e'
      cases e'
      rw [ax.str]
      exact .inr ⟨z, rfl, h, fun l hl => PoX.newT s p hl (Rps.signs z)⟩
    · rw [if_neg h] at e'; cases e'
  | lst zs => exact .inl (sm_tuple W F ρ σ H x (.lst zs) o Q s ax e p)
  | scr zs => exact .inl (sm_tuple W F ρ σ H x (.scr zs) o Q s ax e p)
  | tup zs => exact .inl (sm_tuple W F ρ σ H x (.tup zs) o Q s ax e p)
  | _ => cases e
end
end PL
/-! PL24: the ev tactic's lemmas for exceptions -/
namespace PL
open PySem PySem.Spec L2
/-! ### reckoning -/
theorem xSeqX {f g : CSt} {ρ ρ1 : Ev} {c : Str} {d : D} (h : f ρ = .ex c d ρ1) : cSeq f g ρ = .ex c d ρ1 := by unfold cSeq; rw [h]; rfl
theorem xRaise {c : Str} {d : D} {fe : Ev → Res D} {ρ ρ1 : Ev} (h : fe ρ = .ok d ρ1) : cRaise c fe ρ = .ex c d ρ1 := by unfold cRaise; rw [h]; rfl
/-- e.value -/
theorem xFld {cs : List Str} {fe : CEx} {ρ ρ1 : Ev} {o : Opd} {c : Str} {d : D} (h : fe ρ = .ok o ρ1) (h1 : useO ρ1 o = some (.err c d)) (hc : c ∈ cs) : cFld cs fe ρ = .ok (.vl d) ρ1 := by
  unfold cFld
  rw [h]
  simp only [Res.bind, h1, if_pos hc]
theorem xCallX {fn : Fn} {g : Ev → Res (List D)} {ρ ρ1 : Ev} {ds : List D} {c : Str} {d : D} (h : g ρ = .ok ds ρ1) (h2 : fn ds = .ex c d []) : cCall fn g ρ = .ex c d ρ1 := by
  unfold cCall
  rw [h]
  show retE (fn ds) ρ1 = _
  rw [h2]; rfl
theorem xExprX {fe : CEx} {ρ ρ1 : Ev} {c : Str} {d : D} (h : fe ρ = .ex c d ρ1) : cExpr fe ρ = .ex c d ρ1 := by unfold cExpr; rw [h]; rfl
/-- the body ends well -/
theorem xTryN {i : Nat} {t : Str → Option Bool} {f g : CSt} {ρ ρ1 : Ev} (h0 : ρ[i]? = some .un) (h : f ρ = .nx ρ1) : cTry i t f g ρ = .nx ρ1 := by
  unfold cTry
  rw [h0]
  show (match f ρ with | .ex c d ρ1 => _ | r => r) = _
  rw [h]
/-- the body raises, the clause is for it -/
theorem xTryX {i : Nat} {t : Str → Option Bool} {f g : CSt} {ρ ρ1 : Ev} {c : Str} {d : D} {r r' : SRes} (h0 : ρ[i]? = some .un) (h : f ρ = .ex c d ρ1) (ht : t c = some true) (h2 : g (ρ1.set i (.fz (.err c d))) = r) (h3 : unS i r = r') : cTry i t f g ρ = r' := by
  unfold cTry
  rw [h0]
  show (match f ρ with | .ex c d ρ1 => (match t c with | some true => unS i (g (ρ1.set i (.fz (.err c d)))) | some false => .ex c d ρ1 | none => .stk) | r => r) = _
  rw [h]
  show (match t c with | some true => unS i (g (ρ1.set i (.fz (.err c d)))) | some false => .ex c d ρ1 | none => .stk) = _
  rw [ht, ← h3, ← h2]
end PL
/-! PL25: [::-1] of a tuple -/
namespace PL
open PySem PySem.Spec L2 PyProof.Rows HT
section
variable {prog : Program} {w : World} {A : Around} {E : Value → Shared → Prop} {s : Shared}
theorem adjust_rev (n : Nat) : Builtin.Slice.sliceAdjust none none (-1) (n : Int) = ((n : Int) - 1, -1) := by
  unfold Builtin.Slice.sliceAdjust
  simp
theorem places_rev (n : Nat) : Builtin.Slice.slicePlaces ((n : Int) - 1) (-1) (-1) = n := by
  unfold Builtin.Slice.slicePlaces
  have h1 : ¬ ((-1 : Int) > 0) := by omega
  simp only [h1, if_false]
  by_cases h : n = 0
  · subst h; simp
  · rw [if_pos (by omega)]
    have : ((n : Int) - 1 - -1 - 1) / (- -1) = (n : Int) - 1 := by
      rw [show (- -1 : Int) = 1 from rfl, Int.ediv_one]; omega
    rw [this]; omega
theorem sliceApplied_rev {sl : Addr} {vs : Value} {n : Nat} {Q : Int × Int × Nat → Shared → Prop} (hs : s.heap.IsSliceOf sl .none .none vs) (ps : IsPart vs (some (-1)))
    (h : Q ((n : Int) - 1, -1, n) s) : wpAny (model prog w) A (Builtin.Slice.sliceApplied (.ref sl) (pure (n : Int))) Q E s := by
  obtain ⟨os, hos, hcs, hds⟩ := id hs
  unfold Builtin.Slice.sliceApplied Builtin.Slice.sliceFields
  refine wpAny_bind (wpAny_bind (wpAny_field hos hds (x := .none) rfl (wpAny_bind (wpAny_field hos hds (x := .none) rfl (wpAny_bind (wpAny_field hos hds (x := vs) rfl (wpAny_pure ?_)))))))
  refine wpAny_bind (slicePart_ ps ?_)
  show wpAny _ _ (if ((-1 : Int) == 0) = true then _ else _) _ _ s
  rw [if_neg (by decide)]
  refine wpAny_bind (slicePart_ .none (wpAny_bind (slicePart_ .none (wpAny_bind (wpAny_pure ?_)))))
  show wpAny _ _ (match Builtin.Slice.sliceAdjust none none (-1) (n : Int) with | (lo, hi) => pure (lo, (-1 : Int), Builtin.Slice.slicePlaces lo hi (-1))) _ _ s
  rw [adjust_rev n]
  show wpAny _ _ (pure ((n : Int) - 1, (-1 : Int), Builtin.Slice.slicePlaces ((n : Int) - 1) (-1) (-1))) _ _ s
  rw [places_rev]
  exact wpAny_pure h
theorem pick_rev (xs : List Value) : ((List.range xs.length).filterMap fun (m : Nat) => xs.toArray[(((xs.length : Nat) : Int) - 1 + (m : Int) * (-1)).toNat]?) = xs.reverse := by
  have key : ∀ n, n ≤ xs.length → ((List.range n).filterMap fun (m : Nat) => xs.toArray[(((xs.length : Nat) : Int) - 1 + (m : Int) * (-1)).toNat]?) = xs.reverse.take n := by
    intro n
    induction n with
    | zero => intro _; simp
    | succ n ih =>
      intro hn
      rw [List.range_succ, List.filterMap_append, ih (by omega)]
      have e : (((xs.length : Nat) : Int) - 1 + (n : Int) * (-1)).toNat = xs.length - 1 - n := by omega
      have h1 : xs[xs.length - 1 - n]? = some xs[xs.length - 1 - n] := List.getElem?_eq_getElem (by omega)
      rw [List.take_add_one, List.getElem?_reverse (by omega)]
      simp only [List.filterMap_cons, List.filterMap_nil, e, List.getElem?_toArray, h1]
      rfl
  rw [key xs.length (Nat.le_refl _), ← List.length_reverse, List.take_length]
theorem getItem_tuple_rev {t sl : Addr} {items : List Value} {vs : Value} {Q : Value → Shared → Prop} (ht : IsTup s.heap t items.toArray) (hs : s.heap.IsSliceOf sl .none .none vs) (ps : IsPart vs (some (-1)))
    (h : Q (.ref s.heap.objs.size) { s with heap := s.heap.push { cls := .type "tuple", data := .seq items.reverse.toArray } })
    (hsz : items.length ≤ sizeLine) : wpAny (model prog w) A (getItem (.ref t) (.ref sl)) Q E s := by
  have htake : sizeOk (.seq items.reverse.toArray) := by
    show items.reverse.toArray.size ≤ sizeLine
    rw [List.size_toArray, List.length_reverse]
    exact hsz
  obtain ⟨os, hos, hcs, hds⟩ := id hs
  have hTs : s.TypeIs (.ref sl) "slice" := ⟨os, hos, hcs⟩
  unfold getItem
  try with_reducible refine wpAny_holding ?_
  first | refine wpAny_bind (wpAny_pure ?_) | skip
  refine wpAny_bind (wpAny_sequenceKey ht.typeIs (by decide) ?_)
  refine wpAny_bind (wpAny_callSpecial?_slot (name := Str.ofString "__getitem__") ht.typeIs PyProof.Rows.slot_tuple_getitem
    (wpAny_call_entry PyProof.Rows.slot_tuple_getitem ht.typeIs entry_tuple_getitem ?_ (args_tuple_getitem _ _)))
  show wpAny _ _ (Builtin.Tuple.tupleItemsOf (.ref t) >>= _) _ _ s
  refine wpAny_bind (tupleItemsOf_ ht ?_)
  refine wpAny_bind (wpAny_typeOf hTs ?_)
  rw [if_pos (by decide)]
  refine wpAny_bind ?_
  rw [List.size_toArray]
  refine sliceApplied_rev hs ps ?_
  have hno : ¬ ((((items.length : Nat) : Int) - 1 == 0 && (-1 : Int) == 1 && items.length == items.toArray.size) = true) := by
    intro q
    rw [Bool.and_eq_true, Bool.and_eq_true] at q
    exact absurd q.1.2 (by decide)
  show wpAny _ _ (if (((items.length : Nat) : Int) - 1 == 0 && (-1 : Int) == 1 && items.length == items.toArray.size) = true then _ else _) _ _ s
  rw [if_neg hno, pick_rev]
  first
    | exact wpAny_bind (m := Builtin.Tuple.tupleExact _) (wpAny_newObj_type (wpAny_pure ⟨_, rfl, wpAny_pure h⟩) htake)
    | exact wpAny_bind (m := Builtin.Tuple.tupleExact _) (wpAny_newObj_type (wpAny_bind (wpAny_pure (wpAny_pure ⟨_, rfl, wpAny_pure h⟩))) htake)
    | exact wpAny_bind (wpAny_bind (m := Builtin.Tuple.tupleExact _) (wpAny_newObj_type (wpAny_pure (wpAny_pure ⟨_, rfl, wpAny_pure h⟩)) htake))
    | exact wpAny_bind (wpAny_bind (m := Builtin.Tuple.tupleExact _) (wpAny_newObj_type (wpAny_pure ⟨_, rfl, wpAny_pure h⟩) htake))
end
section
variable {X : Cx} {W : WX}
theorem pe_revT {e : Expr} {te : TE} {k : Nat} {p1 p2 p3 pos : Pos} (he : PE X e te) : PE X (.Subscript e (.Slice none none (some (.UnaryOp .USub (.Constant (.int 1) k p1) p2)) p3) pos)
    (fun σ H Q => te σ H fun x H1 => ∃ a xs, x = .ref a ∧ SqT X.K H1 a xs ∧ ∀ p, H1 p = none → Q (.ref p) (upd H1 p (.tup xs.reverse))) := by
  refine ⟨fun pins s σ H Q I h => ?_⟩
  refine Subscript_ (thn (he.run pins s σ H _ I h) fun v s1 ⟨x, H1, I1, r1, q1⟩ => ?_)
  obtain ⟨a, xs, ex, hx, q⟩ := q1
  subst ex
  cases r1
  have hst : PO X (some (.UnaryOp .USub (.Constant (.int 1) k p1) p2)) (tPart (tUn (rU fun i => .int (-i)) (tC (.int 1)))) := po_some (pe_un un_neg pe_int)
  refine wpAny_Slice (thn (po_none.run pins s1 σ H1 (fun o H2 => o = none ∧ H2 = H1) I1 ⟨rfl, rfl⟩) fun vl s2 ⟨l, H2, I2, pl, el, e2⟩ => ?_)
  subst el e2
  refine thn (po_none.run pins s2 σ H2 (fun o H3 => o = none ∧ H3 = H2) I2 ⟨rfl, rfl⟩) fun vu s3 ⟨u, H3, I3, pu, eu, e3⟩ => ?_
  subst eu e3
  refine thn (hst.run pins s3 σ H3 (fun o H4 => o = some (-1) ∧ H4 = H3) I3 ⟨1, rfl, -1, rfl, rfl, rfl⟩) fun vs s4 ⟨o, H4, I4, ps, eo, e4⟩ => ?_
  subst eo e4
  have I5 : Inv X pins σ H4 { s4 with heap := s4.heap.push { cls := .type "slice", data := .fields #[vl, vu, vs] } } := I4.kept (t' := s4.toks) fun b ob q => Heap.get?_push_of_some _ q
  obtain ⟨its, r, ht, hz⟩ := I5.tuple hx
  have hlen := r.length
  show wpAny (model X.prog X.w) X.A (subscriptTail e (.Slice none none (some (.UnaryOp .USub (.Constant (.int 1) k p1) p2)) p3) (.ref a) (.ref s4.heap.objs.size)) (EP X pins σ Q) X.xe { s4 with heap := s4.heap.push { cls := .type "slice", data := .fields #[vl, vu, vs] } }
  refine tail_any (ops := [.ref a, .ref s4.heap.objs.size]) ht.typeIs (PyProof.Rows.slot_tuple_getitem.lookup) ?_ (by with_unfolding_all rfl)
  cases pl
  cases pu
  refine getItem_tuple_rev ht (Heap.IsSliceOf.new _ .none .none vs) ps ?_ (by omega)
  refine ⟨.ref _, _, I5.laid (t' := s4.toks) (o := .tup xs.reverse) (fun b ob q => Heap.get?_push_of_some _ q) (Nat.le_refl _) ?_, rfl, q _ (I5.hok.fresh (Nat.le_refl _))⟩
  exact ⟨by rw [List.length_reverse]; exact hz, _, r.reverse, IsTup.new _ _⟩
/-- xs[::-1], of tuples too -/
def dRevA : D → Option Opd := fun d => match d with
  | .tup ds => some (.vl (.tup ds.reverse))
  | d => dRev d
theorem je_revA {e : Expr} {fe : CEx} {k : Nat} {p1 p2 p3 pos : Pos} (he : JE X W e fe) : JE X W (.Subscript e (.Slice none none (some (.UnaryOp .USub (.Constant (.int 1) k p1) p2)) p3) pos) (cOp1 dRevA fe) :=
  .by (PE.or (je_rev (W := W) he).pe (pe_revT he.pe)) fun σ H Q F ρ s p => by
    unfold cOp1 at p
    cases q : fe ρ with
    | stk => rw [q] at p; exact p.elim
    | ex c d ρ' => rw [q] at p; exact .inr ⟨F, ρ, s, by rw [q]; exact p⟩
    | ok o ρ1 =>
      rw [q] at p
      have p1 : Po X.K W (OR X.K) F ρ σ H Q (f1 dRevA o ρ1) := p
      unfold f1 at p1
      cases e1 : useO ρ1 o with
      | none => rw [e1] at p1; exact p1.elim
      | some x =>
        rw [e1] at p1
        dsimp only at p1
        have old : dRevA x = dRev x → tX X.K W (cOp1 dRev fe) σ H Q := fun e2 => ⟨F, ρ, s, by
          unfold cOp1
          rw [q]
          show Po X.K W (OR X.K) F ρ σ H Q (f1 dRev o ρ1)
          unfold f1
          rw [e1]
          dsimp only
          rw [← e2]
          exact p1⟩
        cases x with
        | tup ds => exact .inr ⟨F, ρ, s, by
            rw [q]
            intro v F1 H1 s1 b1 r1
            obtain ⟨a, xs, rfl, _, h, r⟩ := (AR.of s1 r1 e1).tup s1.sub
            exact ⟨a, xs, rfl, h, fun pq hq => PoX.newT s1 (PoX.from b1 p1) hq r.reverse⟩⟩
        | _ => exact .inl (old rfl)
end
end PL
/-! PL34: errors made with a keyword, errors as values, isinstance of a kept error -/
namespace PySem
namespace PLkw
open PySem.W PySem.Calls PyProof.Rows PySem.HandSPX
/-! ### an own class of errors called with keywords alone -/
section
variable {prog : Program} {w : World} {A : Around} {E : Value → Shared → Prop} {R : Result → Shared → Prop} {h : Heap} {g : Array GenState} {d : Drawn} {t : Nat} {os : OsState}
variable {nm q : Str} {C N : Addr} {bs bm bmB : List Value} {hdct : Bool} {sn : List Str} {sub : List Value} {ab : Bool} {col : Option Bool} {dd : Option Addr} {k0 k1 k2 k3 k5 : Option Value} {B newId initId : String} {kw : List (Str × Value)}
theorem kwChk {M : Model} (F : ExcBaseFacts B newId initId bmB) (hT : ∀ X : String, bm.contains (.type X) = bmB.contains (.type X)) {Q : Unit → Shared → Prop}
    (hC : h.get? C = some (excClassObj nm q C N bs bm hdct sn sub ab col dd k0 k1 k2 k3 k5 newId)) (hq : Q () ⟨h, g, d, t, os⟩) : wpAny M A (checkBuiltinCall newId ⟨[.ref C], kw⟩) Q E ⟨h, g, d, t, os⟩ := by
  have hcont : (Value.ref C :: bm).contains (.type B) = true := by rw [List.contains_cons, hT, F.hasB, Bool.or_true]
  have hstar := F.noStar
  simp only [checkBuiltinCall, F.newKind, F.newSplit, F.newRow]
  repeat (first | refine wpAny_loadPart_at hC ?_ | (refine wpAny_isSubtype_exc hC ?_; rw [hcont]) | refine wpAny_staticBase_exc hC ?_ | refine wpAny_madeBy_exc hC ?_ | simp only [bne_self_eq_false, Bool.false_eq_true, if_false] | wp_step)
  exact hq
theorem kwNew (F : ExcBaseFacts B newId initId bmB) (hT : ∀ X : String, bm.contains (.type X) = bmB.contains (.type X))
    (hC : h.get? C = some (excClassObj nm q C N bs bm hdct sn sub ab col dd k0 k1 k2 k3 k5 newId))
    (hq : R (.ok (.ret (.ref (h.objs.size + 1)))) ⟨(h.push { cls := .type "tuple", data := .seq (#[] : Array Value) }).push
      { cls := .ref C, data := .fields #[.ref h.objs.size, .none, .none, .none, .bool false, .none] }, g, d, t, os⟩) :
    codeAny (model prog w) A (.builtin newId ⟨[.ref C], kw⟩) R ⟨h, g, d, t, os⟩ := by
  have hends := F.ends
  have hcB : (Value.ref C :: bm).contains (.type B) = true := by rw [List.contains_cons, hT, F.hasB, Bool.or_true]
  have hcA : (Value.ref C :: bm).contains (.type "AttributeError") = false := by rw [List.contains_cons, hT, F.noAttr]; rfl
  have hcN : (Value.ref C :: bm).contains (.type "NameError") = false := by rw [List.contains_cons, hT, F.noName]; rfl
  refine codeAny_builtinAt F.entry ?_
  unfold Builtin.«BaseException.__new__»
  refine wpAt_bind ?_
  show wpAt _ _ _ (stack >>= _) _ _ _
  refine wpAt_bind (wpAt_stack fun p below => wpAt_of_wpAny ?_)
  wp_walk
  refine wpAt_of_wpAny ?_
  rw [F.owner]
  repeat (first | with_reducible refine wpAny_madeHere_exc F.canon hC ?_ | with_reducible refine wpAny_loadPart_at hC ?_ | (with_reducible refine wpAny_isSubtype_exc hC ?_; first | rw [hcB] | rw [hcA] | rw [hcN]) | wp_step)
  show R _ _
  rw [Heap.size_push]
  exact hq
theorem kwType (F : ExcBaseFacts B newId initId bmB) (hT : ∀ X : String, bm.contains (.type X) = bmB.contains (.type X)) {fI : Addr} {Q : Fin → Shared → Prop}
    (hC : h.get? C = some (excClassObj nm q C N bs bm hdct sn sub ab col dd k0 k1 k2 k3 k5 newId))
    (hi : W.Looks (model prog w) h (typeLookup (.ref C) "__init__") (some (.ref fI))) (hb : ∀ self, W.Looks (model prog w) h (bindSpecial (.ref fI) self) (.ref fI, [self]))
    (hq : codeAny (model prog w) A (.call (.ref fI) ⟨[.ref (h.objs.size + 1)], kw⟩)
      (fun r s' => match r with | .ok (.ret v) => v = .none ∧ Q (.done (.ret (.ref (h.objs.size + 1)))) s' | .ok _ => False | .error e => E e s')
      ⟨(h.push (W.kdv_tup [])).push (excO C h.objs.size), g, d, t, os⟩) :
    wpAny (model prog w) A (Builtin.«type.__call__» ⟨[.ref C], kw⟩) Q E ⟨h, g, d, t, os⟩ := by
  repeat (first | with_reducible refine wpAny_loadPart_at hC ?_ | with_reducible refine wpAny_madeBy_exc hC ?_ | wp_step)
  refine codeAny_call_builtin_code (Code.quiet_builtin _ F.quiet) (kwChk F hT hC ?_)
  refine kwNew F hT hC ?_
  show wpAny _ _ _ _ _ _
  have k : ∀ b o, h.get? b = some o → ((h.push (W.kdv_tup [])).push (excO C h.objs.size)).get? b = some o := fun b o e => Heap.get?_push_of_some _ (Heap.get?_push_of_some _ e)
  have hC₁ := k _ _ hC
  have hget : ((h.push (W.kdv_tup [])).push (excO C h.objs.size)).get? (h.objs.size + 1) = some (excO C h.objs.size) := by heap_get
  have hcC : (Value.ref C :: bm).contains (.ref C) = true := by simp
  have i1 := hi.keeps k
  have b1 := (hb (.ref (h.objs.size + 1))).keeps k
  unfold isInstance
  repeat (first | with_reducible refine wpAny_loadPart_at hget ?_ | (with_reducible refine wpAny_isSubtype_exc hC₁ ?_; rw [hcC]) | wp_step)
  show wpAny _ _ (typeLookup (.ref C) _) _ _ _
  refine i1.at ?_
  refine wpAny_holding (wpAny_bind (b1.at ?_))
  refine wpAny_bind (wpAny_call (codeAny_mono hq fun r s' z => ?_))
  rcases r with e | (v | _ | _ | _) <;> first | exact z | exact z.elim | skip
  obtain ⟨rfl, z⟩ := z
  first
    | exact wpAny_pure (wpAny_pure z)
    | (wp_walk; exact z)
theorem kwCall (F : ExcBaseFacts B newId initId bmB) (hT : ∀ X : String, bm.contains (.type X) = bmB.contains (.type X)) {fI : Addr}
    (hC : h.get? C = some (excClassObj nm q C N bs bm hdct sn sub ab col dd k0 k1 k2 k3 k5 newId))
    (hi : W.Looks (model prog w) h (typeLookup (.ref C) "__init__") (some (.ref fI))) (hb : ∀ self, W.Looks (model prog w) h (bindSpecial (.ref fI) self) (.ref fI, [self]))
    (hq : codeAny (model prog w) (A.under (.builtin "type.__call__" ⟨[.ref C], kw⟩)) (.call (.ref fI) ⟨[.ref (h.objs.size + 1)], kw⟩) (W.InitBack (h.objs.size + 1) R)
      ⟨(h.push (W.kdv_tup [])).push (excO C h.objs.size), g, d, t, os⟩) :
    codeAny (model prog w) A (.call (.ref C) ⟨[], kw⟩) R ⟨h, g, d, t, os⟩ := by
  have f1 := tc_lookup
  have f2 := tc_bind (.ref C)
  have hTy : (⟨h, g, d, t, os⟩ : Shared).TypeIs (.ref C) "type" := ⟨_, hC, rfl⟩
  refine codeAny_of_tree ?_
  show wpAny _ _ (callAny (.ref C) _) _ _ _
  repeat (any_goals (first | assumption | with_reducible refine wpAny_loadPart_at hC ?_ | wp_step))
  refine ⟨rfl, ?_⟩
  refine codeAny_call_builtin_at (Code.quiet_builtin _ (by decide +kernel)) entry_typeCall (wpAny_check_type_call_sub hC (kwType F hT hC hi hb ?_))
  refine codeAny_mono hq fun r s' z => ?_
  rcases r with e | (v | _ | _ | _) <;> exact z
end
end PLkw
end PySem
/-! PL35: raise C(value=e), C(e) and C(value=e) as values, isinstance(e, C) of a kept error -/
namespace PL
open PySem PySem.Spec L2
/-- FreeError.__init__ by place and by keyword -/
structure IniW (P : Program) (w : World) (K : PySem.W.Frag) (mg : Str → Option Value) (base : Heap) : Prop where
  ex : ∃ fd, FnOk P w K mg base (L2.CX P w) 1 (He.ma K (He.ga K "FreeError") "__init__") fd ["self", "value"] (spI K) ∧ Binds K fd ["self", "value"] [] ∧ KB K fd ["self", "value"] ["value"] 1 1 [0, 1]
  tI : PySem.W.typeIn K (.ref (He.ma K (He.ga K "FreeError") "__init__")) = some (.type "function")
theorem IniW.k {P : Program} {w : World} {K : PySem.W.Frag} {mg : Str → Option Value} {base : Heap} (B : IniW P w K mg base) : IniK P w K mg base := by
  obtain ⟨fd, h1, h2, _⟩ := B.ex
  exact ⟨⟨fd, h1, h2⟩, B.tI⟩
section
variable {K : PySem.W.Frag} {c : Str} {H1 : Hp} {a : Addr} {v : V} {Qx : XK}
theorem spI_at (T : ExK K c) (ha : H1 a = none) (k : ∀ dx, H1 dx = none → dx ≠ a → Qx (.ref (He.ga K c)) (some dx) (upd H1 dx (.xd [("value", v)]))) :
    spI K [.ref a, v] (upd H1 a (exo a (He.ga K c) none)) (fun x H2 => x = .non ∧ ∃ (d : Addr) (fs : List (Str × V)), H2 a = some (exo a (He.ga K c) (some d)) ∧ H2 d = some (exd d fs) ∧ H1 d = none ∧ Qx (.ref (He.ga K c)) (some d) (upd (del H2 a) d (.xd fs))) (fun _ _ _ => False) := by
  refine ⟨a, He.ga K c, v, rfl, T.oex, T.no, upd_same, fun dx hdx hne => ?_⟩
  have ndx : H1 dx = none := by rwa [upd_ne hne] at hdx
  have eH : upd (del (upd (upd (upd H1 a (exo a (He.ga K c) none)) dx (exd dx [("value", v)])) a (exo a (He.ga K c) (some dx))) a) dx (.xd [("value", v)]) = upd H1 dx (.xd [("value", v)]) := by
    funext b
    by_cases h1 : b = dx
    · subst h1; rw [upd_same, upd_same]
    · rw [upd_ne h1, upd_ne h1]
      by_cases h2 : b = a
      · subst h2; rw [del_same, ha]
      · rw [del_ne h2, upd_ne h2, upd_ne h1, upd_ne h2]
  refine ⟨rfl, dx, [("value", v)], upd_same, by rw [upd_ne hne, upd_same], ndx, ?_⟩
  rw [eH]
  exact k dx ndx hne
end
/-- C(k = v, ..) -/
def tMkW (C : Addr) (sp : Sp) (pm : List Nat) (m : Nat) (ta : TA) : St → Hp → XK → Prop := fun σ H Q => ta σ H fun vs H1 => vs.length = m ∧ ∀ a, H1 a = none → sp (perm pm ([.ref a] ++ vs)) (upd H1 a (exo a C none))
  (fun v H2 => v = .non ∧ ∃ (d : Addr) (fs : List (Str × V)), H2 a = some (exo a C (some d)) ∧ H2 d = some (exd d fs) ∧ H1 d = none ∧ Q (.ref C) (some d) (upd (del H2 a) d (.xd fs))) (fun _ _ _ => False)
section
variable {X : Cx} {W : WX} {ta : TA} {k m : Nat} {C fI : Addr} {fd : FuncData} {ps ks : List Str} {sp : Sp} {x : Str} {p pos : Pos} {kws : List Keyword} {pm : List Nat}
theorem pmk_oexW {CX : CXT} (T : OexC X.K C) (iC : PySem.W.findIn X.K (.ref C) "__init__" = some (some (.ref fI))) (tI : PySem.W.typeIn X.K (.ref fI) = some (.type "function"))
    (F1 : FnOk X.prog X.w X.K X.mg X.base CX k fI fd ps sp) (hr : Room (k + 1) X.A) (hb : KB X.K fd ps ks 1 m pm) (hx : Passes CX X (fun _ _ _ => False)) (hg : Gl X x) (hm : X.mg x = some (.ref C)) (hkw : PK X kws ta)
    (hall : (backToKw pos (keywordEach kws X.env)).all (·.1.isSome) = true := by rfl) (hks : (backToKw pos (keywordEach kws X.env)).filterMap (·.1) = ks := by rfl)
    (hdb : (x == ("__debug__" : Str)) = false := by decide) (hpl : ((backTo pos (starEach [] X.env)).any (·.1) || (backToKw pos (keywordEach kws X.env)).any (·.1.isNone)) = false := by rfl) :
    PMk X (.Call (.Name x p) [] kws pos) (tMkW C sp pm m ta) := by
  intro pins s σ H Q I h
  obtain ⟨nm, q, N, bs, bm, sn, sub, ab, col, dd, k0, k1, k2, k3, k5, hC, hbm⟩ := T.cls
  refine wpAny_Call_Name_kw (ld_glob I hg hm ?_ hdb)
  refine PySem.W.callWith_KW0 (h₀ := X.base) I.ok.mod.kin T.kC hall ?_ hpl
  refine thn (hkw.run pos pins s σ H _ I h) fun us s1 ⟨vs, H1, I1, r1, hz, q1⟩ => ⟨I1.kIn, ?_⟩
  rw [hks]
  show wpAny _ _ (call (.ref C) [] (ks.zip us)) _ _ _
  obtain ⟨hp, g, dr, tk, os⟩ := s1
  have hsz : hp.objs.size ≤ hp.objs.size + 1 := Nat.le_succ _
  have hn : H1 (hp.objs.size + 1) = none := I1.hok.fresh hsz
  have hq := q1 (hp.objs.size + 1) hn
  have kk : ∀ b o, hp.get? b = some o → ((hp.push (PySem.W.kdv_tup [])).push (PySem.HandSPX.excO C hp.objs.size)).get? b = some o := fun b o e => Heap.get?_push_of_some _ (Heap.get?_push_of_some _ e)
  have hget : ((hp.push (PySem.W.kdv_tup [])).push (PySem.HandSPX.excO C hp.objs.size)).get? (hp.objs.size + 1) = some (PySem.HandSPX.excO C hp.objs.size) := by heap_get
  have I2 : Inv X pins σ (upd H1 (hp.objs.size + 1) (exo (hp.objs.size + 1) C none)) ⟨(hp.push (PySem.W.kdv_tup [])).push (PySem.HandSPX.excO C hp.objs.size), g, dr, tk, os⟩ :=
    I1.laid (t' := tk) (a := hp.objs.size + 1) (o := exo (hp.objs.size + 1) C none) (h' := (hp.push (PySem.W.kdv_tup [])).push (PySem.HandSPX.excO C hp.objs.size)) kk hsz (exo_ok hget)
  have r0 : Vals [V.ref (hp.objs.size + 1)] [Value.ref (hp.objs.size + 1)] := .cons rfl .nil
  have r2 : Vals (perm pm ([V.ref (hp.objs.size + 1)] ++ vs)) (perm pm ([Value.ref (hp.objs.size + 1)] ++ us)) := PL.Vals.perm (r0.append r1) pm
  refine wpAny_call (PySem.PLkw.kwCall F.excBase_ValueError (fun Y => PySem.HandSPX.refsVE_contains Y bm hbm) (I1.kIn _ _ hC) (PySem.W.looks_findIn I1.kIn iC) (fun self => PySem.W.bind_fn I1.kIn self tI)
    (codeAny_mono (F1.run _ X.stack _ _ ⟨[Value.ref (hp.objs.size + 1)], ks.zip us⟩ (perm pm ([Value.ref (hp.objs.size + 1)] ++ us)) _ _ (fun _ _ _ => False) (hr.make C [] (ks.zip us)) (I2.env0.make C [] (ks.zip us)) (hb _ [Value.ref (hp.objs.size + 1)] us I2.kIn rfl (by rw [← r1.length]; exact hz)) r2 hq) fun r s' hq' => ?_))
  cases r with
  | error er => exact hx pins σ _ _ er s' I2 hq'
  | ok fl =>
    cases fl with
    | ret u =>
      obtain ⟨v, H2, os2, bare2, un2, hok2, rv, ev, d, fs, ea, ed, hd1, q2⟩ := hq'
      subst ev
      obtain ⟨h2, g2, d2, t2, os'⟩ := s'
      exact ⟨rv, mk_end (raises_own T.exC T.tyC) I1 hsz kk un2 hok2 os2 bare2 ea ed hd1 q2⟩
    | next => exact False.elim hq'
    | brk => exact False.elim hq'
    | cont => exact False.elim hq'
/-- what makes an exception, as a value: it is kept -/
theorem pe_ofMk {e : Expr} {t : St → Hp → XK → Prop} (h : PMk X e t) : PE X e (fun σ H Q => t σ H fun cls d H' => ∃ dx, d = some dx ∧ ∀ a, H' a = none → Q (.ref a) (upd H' a (ErO cls dx a))) := by
  refine ⟨fun pins s σ H Q I q => wpAny_mono (h pins s σ H _ I q) (fun u s1 hu => ?_) fun _ _ x => x⟩
  obtain ⟨a, oe, vs, sI, H', cls, d, rfl, J, k, hne, ha, hz, hd, h1, na, os, ag, r, dx, rfl, q2⟩ := hu
  have L := J.laidN (t' := sI.toks) (h' := s1.heap) (o := ErO cls dx a) k hne na ⟨⟨oe, vs, ha, hz, hd⟩, ⟨oe, ha⟩, fun h1 h2 ⟨o, v, q, r⟩ k => ⟨o, v, k o q, r⟩⟩
  exact ⟨.ref a, _, ⟨L.ok, os.trans J.os, ag, L.base, L.loc, L.cell, L.free, L.freeC, L.pin, L.hok, L.len⟩, rfl, q2 a na⟩
end
section
variable {X : Cx} {W : WX} {P : List Nat} {c : Str} {e : Expr} {p pos pos2 kp : Pos} {fe : Ev → Res D}
/-- raise c(value = e) -/
theorem js_raiseK (hc : X.calm = true) (tk : Takes X W) (T : ExK X.K c) (B : IniW X.prog X.w X.K X.mg X.base) (hr : Room 2 X.A) (hm : X.mg c = some (.ref (He.ga X.K c))) (he : JV X W e fe) (hg : Gl X c := by rfl)
    (hall : (backToKw pos (keywordEach [⟨some "value", e, kp⟩] X.env)).all (·.1.isSome) = true := by rfl) (hks : (backToKw pos (keywordEach [⟨some "value", e, kp⟩] X.env)).filterMap (·.1) = (["value"] : List Str) := by rfl)
    (hdb : (c == ("__debug__" : Str)) = false := by decide) (hpl : ((backTo pos (starEach [] X.env)).any (·.1) || (backToKw pos (keywordEach [⟨some "value", e, kp⟩] X.env)).any (·.1.isNone)) = false := by rfl) :
    JS X W P (.Raise (some (.Call (.Name c p) [] [⟨some "value", e, kp⟩] pos)) none pos2) (cRaise c fe) := by
  obtain ⟨fd, F1, _, hb⟩ := B.ex
  have ha : JK X W [⟨some "value", e, kp⟩] (cConsA fe cNilA) := jk_cons he jk_nil
  refine .by (ps_raise hc tk (pmk_oexW T.oex T.iC B.tI F1 hr hb (passes_call tk fun _ _ _ _ z => z.elim) hg hm ha.pk hall hks hdb hpl)) fun D σ H F ρ s p => ⟨F, ρ, s, ?_⟩
  unfold cRaise at p
  unfold cConsA cNilA
  cases q : fe ρ with
  | stk => rw [q] at p; exact p.elim
  | ex c' d' ρ' => rw [q] at p; exact fun dx v F' H' s' b' => p dx v σ F' H' s' b' (Pin.refl _ _)
  | ok d ρ1 =>
    rw [q] at p
    intro vs F1 H1 s1 b1 r1
    cases r1 with
    | @cons v _ _ _ rv rn =>
      cases rn
      exact ⟨rfl, fun a ha => spI_at (v := v) (Qx := fun cls d H' => W cls d σ H') T ha fun dx ndx hne => p dx v σ _ _ (s1.newF ndx) (b1.trans (Fr.newF s1 ndx)) (Pin.refl _ _) (rv.mono (Fr.newF s1 ndx (o := .xd [("value", v)])).ext) upd_same⟩
/-- c(e) as a value -/
def cMkE (c : Str) (fe : Ev → Res D) : CEx := fun ρ => (fe ρ).bind fun d ρ1 => .ok (.vl (.err c d)) ρ1
theorem je_mkE (tk : Takes X W) (T : ExK X.K c) (B : IniW X.prog X.w X.K X.mg X.base) (hr : Room 2 X.A) (hm : X.mg c = some (.ref (He.ga X.K c))) (he : JV X W e fe) (hg : Gl X c := by rfl) (hdb : (c == ("__debug__" : Str)) = false := by decide)
    (hs : starEach (e :: []) X.env = (false, eval e X.env) :: starEach [] X.env := by rfl) (hpl : (backTo pos (starEach [] X.env)).any (·.1) = false := by rfl) :
    JE X W (.Call (.Name c p) [e] [] pos) (cMkE c fe) := by
  obtain ⟨fd, F1, hb, _⟩ := B.ex
  have ha : JA X W [e] (cConsA fe cNilA) := ja_cons he ja_nil hs
  refine .by (pe_ofMk (pmk_oex T.oex T.iC B.tI F1 hr hb .nil (passes_call tk fun _ _ _ _ z => z.elim) hg hm ha.pa hdb hs hpl)) fun σ H Q F ρ s p => ⟨F, ρ, s, ?_⟩
  unfold cMkE at p
  unfold cConsA cNilA
  cases q : fe ρ with
  | stk => rw [q] at p; exact p.elim
  | ex c' d' ρ' => rw [q] at p; exact p
  | ok d ρ1 =>
    rw [q] at p
    intro vs F1 H1 s1 b1 r1
    cases r1 with
    | @cons v _ _ _ rv rn =>
      cases rn
      refine ⟨by simp, fun a ha => spI_at (v := v) (Qx := fun cls d H' => ∃ dx, d = some dx ∧ ∀ a, H' a = none → Q (.ref a) (upd H' a (ErO cls dx a))) T ha fun dx ndx hne => ⟨dx, rfl, fun a2 na => ?_⟩⟩
      have s2 := s1.newF (o := .xd [("value", v)]) ndx
      have b2 := b1.trans (Fr.newF s1 (o := .xd [("value", v)]) ndx)
      have nda : dx ≠ a2 := fun z => by rw [← z, upd_same] at na; cases na
      exact p _ _ _ (s2.newF na) (b2.trans (Fr.newF s2 na)) (.err upd_same (by rw [upd_ne nda]; exact upd_same) ((rv.mono (Fr.newF s1 ndx (o := .xd [("value", v)])).ext).mono (Fr.newF s2 na).ext))
/-- c(value = e) as a value -/
theorem je_mkEK (tk : Takes X W) (T : ExK X.K c) (B : IniW X.prog X.w X.K X.mg X.base) (hr : Room 2 X.A) (hm : X.mg c = some (.ref (He.ga X.K c))) (he : JV X W e fe) (hg : Gl X c := by rfl)
    (hall : (backToKw pos (keywordEach [⟨some "value", e, kp⟩] X.env)).all (·.1.isSome) = true := by rfl) (hks : (backToKw pos (keywordEach [⟨some "value", e, kp⟩] X.env)).filterMap (·.1) = (["value"] : List Str) := by rfl)
    (hdb : (c == ("__debug__" : Str)) = false := by decide) (hpl : ((backTo pos (starEach [] X.env)).any (·.1) || (backToKw pos (keywordEach [⟨some "value", e, kp⟩] X.env)).any (·.1.isNone)) = false := by rfl) :
    JE X W (.Call (.Name c p) [] [⟨some "value", e, kp⟩] pos) (cMkE c fe) := by
  obtain ⟨fd, F1, _, hb⟩ := B.ex
  have ha : JK X W [⟨some "value", e, kp⟩] (cConsA fe cNilA) := jk_cons he jk_nil
  refine .by (pe_ofMk (pmk_oexW T.oex T.iC B.tI F1 hr hb (passes_call tk fun _ _ _ _ z => z.elim) hg hm ha.pk hall hks hdb hpl)) fun σ H Q F ρ s p => ⟨F, ρ, s, ?_⟩
  unfold cMkE at p
  unfold cConsA cNilA
  cases q : fe ρ with
  | stk => rw [q] at p; exact p.elim
  | ex c' d' ρ' => rw [q] at p; exact p
  | ok d ρ1 =>
    rw [q] at p
    intro vs F1 H1 s1 b1 r1
    cases r1 with
    | @cons v _ _ _ rv rn =>
      cases rn
      refine ⟨rfl, fun a ha => spI_at (v := v) (Qx := fun cls d H' => ∃ dx, d = some dx ∧ ∀ a, H' a = none → Q (.ref a) (upd H' a (ErO cls dx a))) T ha fun dx ndx hne => ⟨dx, rfl, fun a2 na => ?_⟩⟩
      have s2 := s1.newF (o := .xd [("value", v)]) ndx
      have b2 := b1.trans (Fr.newF s1 (o := .xd [("value", v)]) ndx)
      have nda : dx ≠ a2 := fun z => by rw [← z, upd_same] at na; cases na
      exact p _ _ _ (s2.newF na) (b2.trans (Fr.newF s2 na)) (.err upd_same (by rw [upd_ne nda]; exact upd_same) ((rv.mono (Fr.newF s1 ndx (o := .xd [("value", v)])).ext).mono (Fr.newF s2 na).ext))
end
/-! ### isinstance(e, C), e a kept error -/
def rIsX (K : PySem.W.Frag) (c : V) (cv : Value) : List V → Hp → VK → Prop := fun xs H Q => ∃ (a C dx : Addr) (v : V) (b : Bool), xs = [.ref a, c] ∧ H a = some (ErO (.ref C) dx a) ∧ H dx = some (.xd [("value", v)]) ∧ ExcC K C ∧ PySem.W.kitOne K (.ref C) cv = some b ∧ Q (.bl b) H
theorem call_isX {X : Cx} {c : V} {cv : Value} (hcv : ∀ u, RelV c u → u = cv) : CallR X (.builtin "isinstance") (rIsX X.K c cv) := by
  intro pins s σ H xs us Q I r h
  obtain ⟨a, C, dx, v, b, rfl, ea, ed, T, e, q⟩ := h
  cases r with
  | cons rx rr =>
    cases rr with
    | cons rt rr =>
      cases rr
      cases rx
      have ec := hcv _ rt
      subst ec
      obtain ⟨⟨oe, vs, ho1, hz, hd⟩, _⟩ := I.hok a _ ea
      have hx : ObjOk X.prog X.w H s.heap dx (.xd [("value", v)]) := I.hok dx _ ed
      obtain ⟨mA, hns, hr⟩ := hx
      obtain ⟨od, ho, hl⟩ := lookIn_ns hns
      have J : PySem.W.InstAt s.heap a oe C (some od) := ⟨ho1, hz.1, by unfold PySem.W.notCls; rw [hd] <;> rfl, by rw [hz.2]; exact ho⟩
      have hcl : (PySem.W.clsIn X.K C).isSome = true := by
        obtain ⟨cd, hc, _⟩ := PySem.W.any_some T.hd
        rw [hc]; rfl
      exact PySem.W.kia_one (PySem.W.kitx_exc hcl T.hg T.hk T.hs T.ha T.hn T.ht T.hm) I.kIn J e (fun z => nomatch z) fun tk => ⟨.bl b, H, I.kept (t' := tk) fun _ _ z => z, rfl, q⟩
section
variable {X : Cx} {W : WX} {a : Expr} {fa : CEx} {x y : Str} {p q pos : Pos}
theorem je_isX {c : V} {cv : Value} (t : Str → Option Bool) (hcv : ∀ u, RelV c u → u = cv) (py : PE X (.Name y q) (tC c)) (ht : ∀ z b, t z = some b → ExK X.K z ∧ PySem.W.kitOne X.K (.ref (He.ga X.K z)) cv = some b) (hm : X.mg x = none) (hv : bootBuiltins x = some (.builtin "isinstance")) (ha : JE X W a fa)
    (hg : Gl X x := by rfl) (hn : x ≠ "__name__" := by decide) (hdb : (x == ("__debug__" : Str)) = false := by decide)
    (he : starEach [a, .Name y q] X.env = (false, eval a X.env) :: starEach [.Name y q] X.env := by rfl) (hpl : (backTo pos (starEach [.Name y q] X.env)).any (·.1) = false := by rfl) :
    JE X W (.Call (.Name x p) [a, .Name y q] [] pos) (cOp1 (dIsE t) fa) :=
  .by (pe_callB (call_isX hcv) hg hm hv (pa_cons ha.pe (pa_cons py pa_nil) he) hn hdb he hpl) fun σ H Q F ρ s p => by
    have sm : Sem1 X.K (fun x H Q => rIsX X.K c cv [x, c] H Q) (dIsE t) := fun W F ρ σ H x dx o Q s ax e p => by
      cases dx with
      | err z d =>
        have e : (t z).map (fun b => Opd.vl (.bl b)) = some o := e
        cases e1 : t z with
        | none => rw [e1] at e; cases e
        | some b =>
          rw [e1] at e
          cases e
          obtain ⟨T, kk⟩ := ht z b e1
          rcases ax with ar | ⟨a, _, w⟩
          · cases ar with
            | err h1 h2 r => exact ⟨_, _, _, _, b, rfl, s.sub _ _ h1, s.sub _ _ h2, T.is, kk, p.here s (.bl _)⟩
          · exact w.elim
      | _ => cases e
    exact tUn_ok sm s p
/-- isinstance(e, y), y an own class -/
theorem je_isC (t : Str → Option Bool) (ht : ∀ z b, t z = some b → ExK X.K z ∧ PySem.W.kitOne X.K (.ref (He.ga X.K z)) (.ref (He.ga X.K y)) = some b) (hm : X.mg x = none) (hv : bootBuiltins x = some (.builtin "isinstance")) (hmy : X.mg y = some (.ref (He.ga X.K y))) (ha : JE X W a fa)
    (hg : Gl X x := by rfl) (hgy : Gl X y := by rfl) (hn : x ≠ "__name__" := by decide) (hdb : (x == ("__debug__" : Str)) = false := by decide) (hdy : (y == ("__debug__" : Str)) = false := by decide)
    (he : starEach [a, .Name y q] X.env = (false, eval a X.env) :: starEach [.Name y q] X.env := by rfl) (hpl : (backTo pos (starEach [.Name y q] X.env)).any (·.1) = false := by rfl) :
    JE X W (.Call (.Name x p) [a, .Name y q] [] pos) (cOp1 (dIsE t) fa) :=
  je_isX (c := .ref (He.ga X.K y)) t (fun _ h => h) (pe_glob hgy hmy rfl hdy) ht hm hv ha hg hn hdb he hpl
/-- isinstance(e, y), y a class of the language -/
theorem je_isT (T : String) (t : Str → Option Bool) (ht : ∀ z b, t z = some b → ExK X.K z ∧ PySem.W.kitOne X.K (.ref (He.ga X.K z)) (.type T) = some b) (hm : X.mg x = none) (hv : bootBuiltins x = some (.builtin "isinstance")) (hmy : X.mg y = none) (hvy : bootBuiltins y = some (.type T)) (ha : JE X W a fa)
    (hg : Gl X x := by rfl) (hgy : Gl X y := by rfl) (hn : x ≠ "__name__" := by decide) (hdb : (x == ("__debug__" : Str)) = false := by decide) (hny : y ≠ "__name__" := by decide) (hdy : (y == ("__debug__" : Str)) = false := by decide)
    (he : starEach [a, .Name y q] X.env = (false, eval a X.env) :: starEach [.Name y q] X.env := by rfl) (hpl : (backTo pos (starEach [.Name y q] X.env)).any (·.1) = false := by rfl) :
    JE X W (.Call (.Name x p) [a, .Name y q] [] pos) (cOp1 (dIsE t) fa) :=
  je_isX (c := .ty T) t (fun _ h => h) (pe_bltn hgy hmy hvy (v := .ty T) rfl hny hdy) ht hm hv ha hg hn hdb he hpl
end
end PL
namespace LK
open PySem PySem.Spec L2 PL
open PyProof.Rows (envOfC)
def top (i : Nat) : Stmt := PySem.Challenge.pw_wholefree_k00_errors.main.body.getD i (.Pass ⟨0, 0, 0, 0⟩)
theorem t_ValueError : bootBuiltins "ValueError" = some (.type "ValueError") := by decide +kernel
theorem t_all : bootBuiltins "all" = some (.builtin "all") := by decide +kernel
theorem t_bool : bootBuiltins "bool" = some (.type "bool") := by decide +kernel
theorem t_int : bootBuiltins "int" = some (.type "int") := by decide +kernel
theorem t_isinstance : bootBuiltins "isinstance" = some (.builtin "isinstance") := by decide +kernel
theorem t_len : bootBuiltins "len" = some (.builtin "len") := by decide +kernel
theorem t_list : bootBuiltins "list" = some (.type "list") := by decide +kernel
theorem t_range : bootBuiltins "range" = some (.type "range") := by decide +kernel
theorem t_str : bootBuiltins "str" = some (.type "str") := by decide +kernel
theorem t_tuple : bootBuiltins "tuple" = some (.type "tuple") := by decide +kernel
def excs : List Str := ["FreeError", "InvalidInteger", "InvalidWord", "InvalidWords", "InvalidRows", "InvalidGraph", "InvalidSubgroup", "InvalidMapping", "InvalidTable", "InvalidPresentation", "NotFinite", "NotIncluded", "NotOneToOne", "NotAutomorphism", "NotNormal", "InvalidName", "UnknownName", "NothingToUndo", "Unreadable", "InvalidCommand"]
def isaB (c y : Str) : Bool := decide (c = y) || decide (y = "FreeError") || decide (y = "ValueError")
def kt (y c : Str) : Option Bool := if c ∈ excs then some (isaB c y) else none
def tx_FreeError : Str → Option Bool := fun c => if c = "FreeError" then some true else if c = "InvalidInteger" then some true else if c = "InvalidWord" then some true else if c = "InvalidWords" then some true else if c = "InvalidRows" then some true else if c = "InvalidGraph" then some true else if c = "InvalidSubgroup" then some true else if c = "InvalidMapping" then some true else if c = "InvalidTable" then some true else if c = "InvalidPresentation" then some true else if c = "NotFinite" then some true else if c = "NotIncluded" then some true else if c = "NotOneToOne" then some true else if c = "NotAutomorphism" then some true else if c = "NotNormal" then some true else if c = "InvalidName" then some true else if c = "UnknownName" then some true else if c = "NothingToUndo" then some true else if c = "Unreadable" then some true else if c = "InvalidCommand" then some true else none
section
variable {P : Program} {w : World} {K : PySem.W.Frag} {mg : Str → Option Value} {base : Heap}
/-! ### _law_pot -/
abbrev b__law_pot : CSt := (cRet (cOp2 dAdd (cLst (cConsA (cVal (cC (.int 0))) (cConsA (cVal (cC (.int 50331653))) (cConsA (cVal (cC (.int 0))) (cConsA (cVal (cC (.int 4))) cNilA))))) (cOp1 dListA (cVar 0))))
def fn__law_pot : Fn := runF (noM 1) 0 b__law_pot
theorem go__law_pot {a0 : D} {r1 : SRes} {r : FRes} (h : b__law_pot [.fz a0] = r1) (h2 : endF (noM 1) r1 = r) : fn__law_pot [a0] = r := xRun h h2
theorem po__law_pot : PoB "_law_pot" (top 22) ["script"] := fun _ _ _ _ _ _ us hl => match us, hl with | [_], _ => rfl
theorem sc__law_pot : FnScope ["script"] ["script"] (defScope (top 22)) := ⟨rfl, rfl, rfl, by decide +kernel, rfl, by decide +kernel, by decide +kernel⟩
theorem ok__law_pot (b_list : mg "list" = none) {f : Addr} {fd : FuncData} (FD : FunD K "_law_pot" "_law_pot" (defArgs (top 22)) (defBody (top 22)) (defScope (top 22)) [] [] f fd) (hg : mg "_law_pot" = some (.ref f)) : OkF P w K mg base (top 22) "_law_pot" 2 ["script"] (noM 1) fn__law_pot :=
  okF (k := 1) FD hg po__law_pot sc__law_pot rfl [] rfl fun cdv A outer s H E hr => by
    have tk := takes_of (X := cxOf (L2.CX P w) P w K mg base ["script"] "_law_pot" (defScope (top 22)) f cdv A outer s H E) (E := E) rfl rfl rfl rfl
    have hu := hr.units
    have hu5 := PL.Room.u65 hr
    have nd := sc__law_pot.nd
    exact (jss_one (js_ret (je_bin op_dAdd sm_dAdd (je_lst (ja_cons (JE.val je_int) (ja_cons (JE.val je_int) (ja_cons (JE.val je_int) (ja_cons (JE.val je_int) ja_nil))))) (je_t1 (cr_listA rfl) sm_listA b_list t_list (je_var 0)))))
/-! ### _law_take -/
abbrev b__law_take_5 : CSt := (cRet (cOp2 dMod (cOp1 dInt (cOp2 dDiv (cVar 4) (cC (.int 64)))) (cVar 1)))
abbrev b__law_take_4 : CSt := (cSeq (cSet 4 (cOp2 dMod (cOp1 dInt (cOp2 dPow (cOp2 dAdd (cVar 4) (cOp2 dMul (cC (.int 97)) (cOp2 dIdx (cVar 0) (cC (.int 2))))) (cC (.int 2)))) (cC (.int 1000000000000000003))))
    b__law_take_5)
abbrev b__law_take_3 : CSt := (cSeq (cSet 4 (cOp2 dMod (cOp1 dInt (cOp2 dPow (cOp2 dAdd (cOp2 dIdx (cVar 0) (cC (.int 1))) (cOp2 dMul (cC (.int 6291469)) (cOp2 dIdx (cVar 0) (cC (.int 2))))) (cC (.int 3)))) (cC (.int 2305843009213693951))))
    b__law_take_4)
abbrev b__law_take_2 : CSt := (cSeq (cAugIx 0 dIAdd (cC (.int 2)) (cC (.int 1)))
    b__law_take_3)
abbrev b__law_take_1 : CSt := (cSeq (cIf (cTru (cOp2 dGtA (cOp2 dIdx (cVar 0) (cC (.int 0))) (cC (.int 0))))
    (cSeq (cSet 3 (cOp2 dMod (cOp1 dInt (cOp2 dIdx (cVar 0) (cC (.int 0)))) (cVar 1)))
    (cSeq (cSetIx 0 (cVal (cOp2 dDiv (cOp2 dIdx (cVar 0) (cC (.int 0))) (cVar 1))) (cC (.int 0)))
    (cRet (cVar 3))))
    cNil)
    b__law_take_2)
abbrev b__law_take : CSt := (cSeq (cIf (cAnd (cTru (cOp2 dEq (cOp2 dIdx (cVar 0) (cC (.int 0))) (cC (.int 0)))) (cTru (cOp2 dLtA (cOp2 dIdx (cVar 0) (cC (.int 3))) (cOp1 dLen (cVar 0)))))
    (cSeq (cSet 2 (cOp2 dIdx (cVar 0) (cOp2 dIdx (cVar 0) (cC (.int 3)))))
    (cSeq (cAugIx 0 dIAdd (cC (.int 3)) (cC (.int 1)))
    (cIf (cTru (cOp2 dGeA (cVar 2) (cOp2 dPow (cC (.int 10)) (cC (.int 18)))))
    (cSetIx 0 (cVal (cOp2 dSub (cVar 2) (cOp2 dPow (cC (.int 10)) (cC (.int 18))))) (cC (.int 0)))
    (cSetIx 0 (cVal (cOp2 dMod (cOp1 dInt (cOp2 dAdd (cOp2 dMul (cOp2 dAdd (cOp2 dIdx (cVar 0) (cC (.int 1))) (cVar 2)) (cC (.int 12582917))) (cOp2 dMul (cC (.int 389)) (cOp2 dIdx (cVar 0) (cC (.int 3)))))) (cC (.int 2305843009213693951)))) (cC (.int 1))))))
    cNil)
    b__law_take_1)
def fn__law_take : Fn := runF (true :: noM 1) 3 b__law_take
theorem go__law_take {a0 a1 : D} {r1 : SRes} {r : FRes} (h : b__law_take [.ow a0, .fz a1, .un, .un, .un] = r1) (h2 : endF (true :: noM 1) r1 = r) : fn__law_take [a0, a1] = r := xRun h h2
theorem po__law_take : PoB "_law_take" (top 23) ["pot", "many"] := fun _ _ _ _ _ _ us hl => match us, hl with | [_, _], _ => rfl
theorem sc__law_take : FnScope ["pot", "many", "cell", "drawn", "mixed"] ["pot", "many"] (defScope (top 23)) := ⟨rfl, rfl, rfl, by decide +kernel, rfl, by decide +kernel, by decide +kernel⟩
theorem ok__law_take (b_int : mg "int" = none) (b_len : mg "len" = none) {f : Addr} {fd : FuncData} (FD : FunD K "_law_take" "_law_take" (defArgs (top 23)) (defBody (top 23)) (defScope (top 23)) [] [] f fd) (hg : mg "_law_take" = some (.ref f)) : OkF P w K mg base (top 23) "_law_take" 2 ["pot", "many"] (true :: noM 1) fn__law_take :=
  okF (k := 1) FD hg po__law_take sc__law_take rfl [0] rfl fun cdv A outer s H E hr => by
    have tk := takes_of (X := cxOf (L2.CX P w) P w K mg base ["pot", "many", "cell", "drawn", "mixed"] "_law_take" (defScope (top 23)) f cdv A outer s H E) (E := E) rfl rfl rfl rfl
    have hu := hr.units
    have hu5 := PL.Room.u65 hr
    have nd := sc__law_take.nd
    exact (jss_cons (js_if (jw_pt (jw_and (jt_cmp (op_dEq hu) sm_dEq (je_ix (je_var 0) je_int) je_int (by first | exact nomark _ | with_unfolding_all rfl)) (jw_and1 (jt_cmp (op_dLtA hu) sm_dLtA (je_ix (je_var 0) je_int) (je_b1 call_len sm_len b_len t_len (je_var 0)) (by first | exact nomark _ | with_unfolding_all rfl)))))
    (jss_cons (js_set 2 nd (je_ix (je_var 0) (je_ix (je_var 0) je_int)))
    (jss_cons (js_augIx 0 op_dIAdd sm_dIAdd je_int je_int)
    (jss_one (js_if (jt_cmp (op_dGeA hu) sm_dGeA (je_var 2) (je_bin L2.op_pow sm_dPow je_int je_int) (by first | exact nomark _ | with_unfolding_all rfl))
    (jss_one (js_setIx 0 (JE.val (je_bin L2.op_sub sm_dSub (je_var 2) (je_bin L2.op_pow sm_dPow je_int je_int))) je_int))
    (jss_one (js_setIx 0 (JE.val (je_bin L2.op_mod sm_dMod (je_t1 call_int1 sm_int b_int t_int (je_bin op_dAdd sm_dAdd (je_bin op_dMul sm_dMul (je_bin op_dAdd sm_dAdd (je_ix (je_var 0) je_int) (je_var 2)) je_int) (je_bin op_dMul sm_dMul je_int (je_ix (je_var 0) je_int)))) je_int)) je_int))))))
    jss_nil)
    (jss_cons (js_if (jt_cmp (op_dGtA hu) sm_dGtA (je_ix (je_var 0) je_int) je_int (by first | exact nomark _ | with_unfolding_all rfl))
    (jss_cons (js_set 3 nd (je_bin L2.op_mod sm_dMod (je_t1 call_int1 sm_int b_int t_int (je_ix (je_var 0) je_int)) (je_var 1)))
    (jss_cons (js_setIx 0 (JE.val (je_bin L2.op_fdiv sm_dDiv (je_ix (je_var 0) je_int) (je_var 1))) je_int)
    (jss_one (js_ret (je_var 3)))))
    jss_nil)
    (jss_cons (js_augIx 0 op_dIAdd sm_dIAdd je_int je_int)
    (jss_cons (js_set 4 nd (je_bin L2.op_mod sm_dMod (je_t1 call_int1 sm_int b_int t_int (je_bin L2.op_pow sm_dPow (je_bin op_dAdd sm_dAdd (je_ix (je_var 0) je_int) (je_bin op_dMul sm_dMul je_int (je_ix (je_var 0) je_int))) je_int)) je_int))
    (jss_cons (js_set 4 nd (je_bin L2.op_mod sm_dMod (je_t1 call_int1 sm_int b_int t_int (je_bin L2.op_pow sm_dPow (je_bin op_dAdd sm_dAdd (je_var 4) (je_bin op_dMul sm_dMul je_int (je_ix (je_var 0) je_int))) je_int)) je_int))
    (jss_one (js_ret (je_bin L2.op_mod sm_dMod (je_t1 call_int1 sm_int b_int t_int (je_bin L2.op_fdiv sm_dDiv (je_var 4) je_int)) (je_var 1)))))))))
/-! ### _law_same -/
abbrev b__law_same_4 (self : Fn) : CSt := (cRet (cAndV (cOp2 dEq (cOp1 dLen (cVar 0)) (cOp1 dLen (cVar 1))) (cOp1 dAll (cLc (cRange1 (cConsA (cVal (cOp1 dLen (cVar 1))) cNilA)) (List.map Prod.snd ([("at", 2)] : List (Str × Nat))) (gN 2) cYes (cVal (cCall self (cConsA (cVal (cOp2 dIdx (cVar 0) (cVar 2))) (cConsA (cVal (cOp2 dIdx (cVar 1) (cVar 2))) cNilA))))))))
abbrev b__law_same_3 (self : Fn) : CSt := (cSeq (cIf (cOr (cTru (cOp2 dNe (cOp1 (dIsi "list") (cVar 1)) (cOp1 (dIsi "list") (cVar 0)))) (cTru (cOp2 dNe (cOp1 (dIsi "tuple") (cVar 1)) (cOp1 (dIsi "tuple") (cVar 0)))))
    (cRet (cC (.bl false)))
    cNil)
    (b__law_same_4 self))
abbrev b__law_same_2 (self : Fn) : CSt := (cSeq (cIf (cTru (cOp1 (dIsi "int") (cVar 1)))
    (cRet (cAndV (cOp1 (dIsi "int") (cVar 0)) (cAndV (cNotV (cOp1 (dIsi "bool") (cVar 0))) (cOp2 dEq (cVar 0) (cVar 1)))))
    cNil)
    (b__law_same_3 self))
abbrev b__law_same_1 (self : Fn) : CSt := (cSeq (cIf (cTru (cOp1 (dIsi2 "bool" "str") (cVar 1)))
    (cRet (cAndV (cOp2 dEq (cOp1 (dIsi "bool") (cVar 0)) (cOp1 (dIsi "bool") (cVar 1))) (cAndV (cOp1 (dIsi2 "bool" "str") (cVar 0)) (cOp2 dEq (cVar 0) (cVar 1)))))
    cNil)
    (b__law_same_2 self))
abbrev b__law_same (self : Fn) : CSt := (cSeq (cIf (cTru (cOp2 dIsN (cVar 1) (cC .non)))
    (cRet (cOp2 dIsN (cVar 0) (cC .non)))
    cNil)
    (b__law_same_1 self))
def fn__law_same : Nat → Fn
  | 0 => fun _ => .stk
  | n + 1 => runF (noM 2) 1 (b__law_same (fn__law_same n))
theorem go__law_same {a0 a1 : D} {n : Nat} {r1 : SRes} {r : FRes} (h : b__law_same (fn__law_same n) [.fz a0, .fz a1, .un] = r1) (h2 : endF (noM 2) r1 = r) : fn__law_same (n + 1) [a0, a1] = r := xRun h h2
theorem po__law_same : PoB "_law_same" (top 24) ["got", "due"] := fun _ _ _ _ _ _ us hl => match us, hl with | [_, _], _ => rfl
theorem sc__law_same : FnScope ["got", "due", "at"] ["got", "due"] (defScope (top 24)) := ⟨rfl, rfl, rfl, by decide +kernel, rfl, by decide +kernel, by decide +kernel⟩
theorem ok__law_same (b_all : mg "all" = none) (b_bool : mg "bool" = none) (b_int : mg "int" = none) (b_isinstance : mg "isinstance" = none) (b_len : mg "len" = none) (b_list : mg "list" = none) (b_range : mg "range" = none) (b_str : mg "str" = none) (b_tuple : mg "tuple" = none) {f : Addr} {fd : FuncData} (FD : FunD K "_law_same" "_law_same" (defArgs (top 24)) (defBody (top 24)) (defScope (top 24)) [] [] f fd) (hg : mg "_law_same" = some (.ref f)) : ∀ n : Nat, OkF P w K mg base (top 24) "_law_same" (2 + n) ["got", "due"] (noM 2) (fn__law_same n)
  | 0 => okStk FD hg po__law_same
  | n + 1 => okF (k := 2 + n) FD hg po__law_same sc__law_same rfl [] rfl fun cdv A outer s H E hr => by
    have tk := takes_of (X := cxOf (L2.CX P w) P w K mg base ["got", "due", "at"] "_law_same" (defScope (top 24)) f cdv A outer s H E) (E := E) rfl rfl rfl rfl
    have hu := hr.units
    have hu5 := PL.Room.u65 hr
    have nd := sc__law_same.nd
    have ih := ok__law_same b_all b_bool b_int b_isinstance b_len b_list b_range b_str b_tuple FD hg n
    have hrs := hr
    replace hr := Room.mono (j := 2) hr (by omega)
    exact (jss_cons (js_if (jt_cmp L2.op_isN sm_dIsN (je_var 1) je_non (by first | exact nomark _ | with_unfolding_all rfl))
    (jss_one (js_ret (je_cmp L2.op_isN sm_dIsN (je_var 0) je_non (by first | exact nomark _ | with_unfolding_all rfl))))
    jss_nil)
    (jss_cons (js_if (jt_val (je_isi2 "bool" "str" .bool .str b_isinstance t_isinstance b_bool t_bool b_str t_str (je_var 1)))
    (jss_one (js_ret (je_and (je_cmp (op_dEq hu) sm_dEq (je_isi "bool" .bool b_isinstance t_isinstance b_bool t_bool (je_var 0)) (je_isi "bool" .bool b_isinstance t_isinstance b_bool t_bool (je_var 1)) (by first | exact nomark _ | with_unfolding_all rfl)) (je_and (je_isi2 "bool" "str" .bool .str b_isinstance t_isinstance b_bool t_bool b_str t_str (je_var 0)) (je_one (je_cmp (op_dEq hu) sm_dEq (je_var 0) (je_var 1) (by first | exact nomark _ | with_unfolding_all rfl)))))))
    jss_nil)
    (jss_cons (js_if (jt_val (je_isi "int" .int b_isinstance t_isinstance b_int t_int (je_var 1)))
    (jss_one (js_ret (je_and (je_isi "int" .int b_isinstance t_isinstance b_int t_int (je_var 0)) (je_and (je_not (je_isi "bool" .bool b_isinstance t_isinstance b_bool t_bool (je_var 0))) (je_one (je_cmp (op_dEq hu) sm_dEq (je_var 0) (je_var 1) (by first | exact nomark _ | with_unfolding_all rfl)))))))
    jss_nil)
    (jss_cons (js_if (jw_pt (jw_or (jt_cmp (op_dNe hu) sm_dNe (je_isi "list" .list b_isinstance t_isinstance b_list t_list (je_var 1)) (je_isi "list" .list b_isinstance t_isinstance b_list t_list (je_var 0)) (by first | exact nomark _ | with_unfolding_all rfl)) (jw_or1 (jt_cmp (op_dNe hu) sm_dNe (je_isi "tuple" .tuple b_isinstance t_isinstance b_tuple t_tuple (je_var 1)) (je_isi "tuple" .tuple b_isinstance t_isinstance b_tuple t_tuple (je_var 0)) (by first | exact nomark _ | with_unfolding_all rfl)))))
    (jss_one (js_ret je_bl))
    jss_nil)
    (jss_one (js_ret (je_and (je_cmp (op_dEq hu) sm_dEq (je_b1 call_len sm_len b_len t_len (je_var 0)) (je_b1 call_len sm_len b_len t_len (je_var 1)) (by first | exact nomark _ | with_unfolding_all rfl)) (je_one (je_b1 (cr_all rfl) sm_all b_all t_all (je_lc [("at", 2)] rfl nd (ji_range1 rfl b_range (ja_cons (JE.val (je_b1 call_len sm_len b_len t_len (je_var 1))) ja_nil)) (blk_ok (by kernel_rfl)) (fun s H C cl fp => (jg_name 2 nd)) (by decide) (fun s H C cl fp => jts_nil) (fun s H C cl fp => (JE.val (jc ih W0.takes hrs (ja_cons (JE.val (je_ix (je_var 0) (je_var 2))) (ja_cons (JE.val (je_ix (je_var 1) (je_var 2))) ja_nil)) (cConsA_len (cConsA_len (fun _ _ _ => cNilA_len))))))))))))))))
/-! ### _law_raised -/
abbrev b__law_raised_10 : CSt := (cRaise "NotFinite" (cVal (cVar 1)))
abbrev b__law_raised_9 : CSt := (cSeq (cIf (cTru (cVar 2))
    (cRaise "NotFinite" (cVal (cVar 1)))
    cNil)
    b__law_raised_10)
abbrev b__law_raised_8 : CSt := (cSeq (cIf (cTru (cOp2 dEq (cVar 0) (cC (.int 8))))
    (cSeq (cIf (cTru (cVar 2))
    (cRaise "InvalidPresentation" (cVal (cVar 1)))
    cNil)
    (cRaise "InvalidPresentation" (cVal (cVar 1))))
    cNil)
    b__law_raised_9)
abbrev b__law_raised_7 : CSt := (cSeq (cIf (cTru (cOp2 dEq (cVar 0) (cC (.int 7))))
    (cSeq (cIf (cTru (cVar 2))
    (cRaise "InvalidTable" (cVal (cVar 1)))
    cNil)
    (cRaise "InvalidTable" (cVal (cVar 1))))
    cNil)
    b__law_raised_8)
abbrev b__law_raised_6 : CSt := (cSeq (cIf (cTru (cOp2 dEq (cVar 0) (cC (.int 6))))
    (cSeq (cIf (cTru (cVar 2))
    (cRaise "InvalidMapping" (cVal (cVar 1)))
    cNil)
    (cRaise "InvalidMapping" (cVal (cVar 1))))
    cNil)
    b__law_raised_7)
abbrev b__law_raised_5 : CSt := (cSeq (cIf (cTru (cOp2 dEq (cVar 0) (cC (.int 5))))
    (cSeq (cIf (cTru (cVar 2))
    (cRaise "InvalidSubgroup" (cVal (cVar 1)))
    cNil)
    (cRaise "InvalidSubgroup" (cVal (cVar 1))))
    cNil)
    b__law_raised_6)
abbrev b__law_raised_4 : CSt := (cSeq (cIf (cTru (cOp2 dEq (cVar 0) (cC (.int 4))))
    (cSeq (cIf (cTru (cVar 2))
    (cRaise "InvalidGraph" (cVal (cVar 1)))
    cNil)
    (cRaise "InvalidGraph" (cVal (cVar 1))))
    cNil)
    b__law_raised_5)
abbrev b__law_raised_3 : CSt := (cSeq (cIf (cTru (cOp2 dEq (cVar 0) (cC (.int 3))))
    (cSeq (cIf (cTru (cVar 2))
    (cRaise "InvalidRows" (cVal (cVar 1)))
    cNil)
    (cRaise "InvalidRows" (cVal (cVar 1))))
    cNil)
    b__law_raised_4)
abbrev b__law_raised_2 : CSt := (cSeq (cIf (cTru (cOp2 dEq (cVar 0) (cC (.int 2))))
    (cSeq (cIf (cTru (cVar 2))
    (cRaise "InvalidWords" (cVal (cVar 1)))
    cNil)
    (cRaise "InvalidWords" (cVal (cVar 1))))
    cNil)
    b__law_raised_3)
abbrev b__law_raised_1 : CSt := (cSeq (cIf (cTru (cOp2 dEq (cVar 0) (cC (.int 1))))
    (cSeq (cIf (cTru (cVar 2))
    (cRaise "InvalidWord" (cVal (cVar 1)))
    cNil)
    (cRaise "InvalidWord" (cVal (cVar 1))))
    cNil)
    b__law_raised_2)
abbrev b__law_raised : CSt := (cSeq (cIf (cTru (cOp2 dEq (cVar 0) (cC (.int 0))))
    (cSeq (cIf (cTru (cVar 2))
    (cRaise "InvalidInteger" (cVal (cVar 1)))
    cNil)
    (cRaise "InvalidInteger" (cVal (cVar 1))))
    cNil)
    b__law_raised_1)
def fn__law_raised : Fn := runF (noM 3) 0 b__law_raised
theorem go__law_raised {a0 a1 a2 : D} {r1 : SRes} {r : FRes} (h : b__law_raised [.fz a0, .fz a1, .fz a2] = r1) (h2 : endF (noM 3) r1 = r) : fn__law_raised [a0, a1, a2] = r := xRun h h2
theorem po__law_raised : PoB "_law_raised" (top 25) ["which", "given", "named"] := fun _ _ _ _ _ _ us hl => match us, hl with | [_, _, _], _ => rfl
theorem sc__law_raised : FnScope ["which", "given", "named"] ["which", "given", "named"] (defScope (top 25)) := ⟨rfl, rfl, rfl, by decide +kernel, rfl, by decide +kernel, by decide +kernel⟩
theorem ok__law_raised (e_InvalidGraph : ExK K "InvalidGraph" ∧ mg "InvalidGraph" = some (.ref (He.ga K "InvalidGraph"))) (e_InvalidInteger : ExK K "InvalidInteger" ∧ mg "InvalidInteger" = some (.ref (He.ga K "InvalidInteger"))) (e_InvalidMapping : ExK K "InvalidMapping" ∧ mg "InvalidMapping" = some (.ref (He.ga K "InvalidMapping"))) (e_InvalidPresentation : ExK K "InvalidPresentation" ∧ mg "InvalidPresentation" = some (.ref (He.ga K "InvalidPresentation"))) (e_InvalidRows : ExK K "InvalidRows" ∧ mg "InvalidRows" = some (.ref (He.ga K "InvalidRows"))) (e_InvalidSubgroup : ExK K "InvalidSubgroup" ∧ mg "InvalidSubgroup" = some (.ref (He.ga K "InvalidSubgroup"))) (e_InvalidTable : ExK K "InvalidTable" ∧ mg "InvalidTable" = some (.ref (He.ga K "InvalidTable"))) (e_InvalidWord : ExK K "InvalidWord" ∧ mg "InvalidWord" = some (.ref (He.ga K "InvalidWord"))) (e_InvalidWords : ExK K "InvalidWords" ∧ mg "InvalidWords" = some (.ref (He.ga K "InvalidWords"))) (e_NotFinite : ExK K "NotFinite" ∧ mg "NotFinite" = some (.ref (He.ga K "NotFinite"))) (i_nit : IniW P w K mg base) {f : Addr} {fd : FuncData} (FD : FunD K "_law_raised" "_law_raised" (defArgs (top 25)) (defBody (top 25)) (defScope (top 25)) [] [] f fd) (hg : mg "_law_raised" = some (.ref f)) : OkF P w K mg base (top 25) "_law_raised" 3 ["which", "given", "named"] (noM 3) fn__law_raised :=
  okF (k := 2) FD hg po__law_raised sc__law_raised rfl [] rfl fun cdv A outer s H E hr => by
    have tk := takes_of (X := cxOf (L2.CX P w) P w K mg base ["which", "given", "named"] "_law_raised" (defScope (top 25)) f cdv A outer s H E) (E := E) rfl rfl rfl rfl
    have hu := hr.units
    have hu5 := PL.Room.u65 hr
    have nd := sc__law_raised.nd
    exact (jss_cons (js_if (jt_cmp (op_dEq hu) sm_dEq (je_var 0) je_int (by first | exact nomark _ | with_unfolding_all rfl))
    (jss_cons (js_if (jt_val (je_var 2))
    (jss_one (js_raiseK rfl tk e_InvalidInteger.1 i_nit (hr.mono (by decide)) e_InvalidInteger.2 (JE.val (je_var 1))))
    jss_nil)
    (jss_one (js_raise rfl tk e_InvalidInteger.1 i_nit.k (hr.mono (by decide)) e_InvalidInteger.2 (JE.val (je_var 1)))))
    jss_nil)
    (jss_cons (js_if (jt_cmp (op_dEq hu) sm_dEq (je_var 0) je_int (by first | exact nomark _ | with_unfolding_all rfl))
    (jss_cons (js_if (jt_val (je_var 2))
    (jss_one (js_raiseK rfl tk e_InvalidWord.1 i_nit (hr.mono (by decide)) e_InvalidWord.2 (JE.val (je_var 1))))
    jss_nil)
    (jss_one (js_raise rfl tk e_InvalidWord.1 i_nit.k (hr.mono (by decide)) e_InvalidWord.2 (JE.val (je_var 1)))))
    jss_nil)
    (jss_cons (js_if (jt_cmp (op_dEq hu) sm_dEq (je_var 0) je_int (by first | exact nomark _ | with_unfolding_all rfl))
    (jss_cons (js_if (jt_val (je_var 2))
    (jss_one (js_raiseK rfl tk e_InvalidWords.1 i_nit (hr.mono (by decide)) e_InvalidWords.2 (JE.val (je_var 1))))
    jss_nil)
    (jss_one (js_raise rfl tk e_InvalidWords.1 i_nit.k (hr.mono (by decide)) e_InvalidWords.2 (JE.val (je_var 1)))))
    jss_nil)
    (jss_cons (js_if (jt_cmp (op_dEq hu) sm_dEq (je_var 0) je_int (by first | exact nomark _ | with_unfolding_all rfl))
    (jss_cons (js_if (jt_val (je_var 2))
    (jss_one (js_raiseK rfl tk e_InvalidRows.1 i_nit (hr.mono (by decide)) e_InvalidRows.2 (JE.val (je_var 1))))
    jss_nil)
    (jss_one (js_raise rfl tk e_InvalidRows.1 i_nit.k (hr.mono (by decide)) e_InvalidRows.2 (JE.val (je_var 1)))))
    jss_nil)
    (jss_cons (js_if (jt_cmp (op_dEq hu) sm_dEq (je_var 0) je_int (by first | exact nomark _ | with_unfolding_all rfl))
    (jss_cons (js_if (jt_val (je_var 2))
    (jss_one (js_raiseK rfl tk e_InvalidGraph.1 i_nit (hr.mono (by decide)) e_InvalidGraph.2 (JE.val (je_var 1))))
    jss_nil)
    (jss_one (js_raise rfl tk e_InvalidGraph.1 i_nit.k (hr.mono (by decide)) e_InvalidGraph.2 (JE.val (je_var 1)))))
    jss_nil)
    (jss_cons (js_if (jt_cmp (op_dEq hu) sm_dEq (je_var 0) je_int (by first | exact nomark _ | with_unfolding_all rfl))
    (jss_cons (js_if (jt_val (je_var 2))
    (jss_one (js_raiseK rfl tk e_InvalidSubgroup.1 i_nit (hr.mono (by decide)) e_InvalidSubgroup.2 (JE.val (je_var 1))))
    jss_nil)
    (jss_one (js_raise rfl tk e_InvalidSubgroup.1 i_nit.k (hr.mono (by decide)) e_InvalidSubgroup.2 (JE.val (je_var 1)))))
    jss_nil)
    (jss_cons (js_if (jt_cmp (op_dEq hu) sm_dEq (je_var 0) je_int (by first | exact nomark _ | with_unfolding_all rfl))
    (jss_cons (js_if (jt_val (je_var 2))
    (jss_one (js_raiseK rfl tk e_InvalidMapping.1 i_nit (hr.mono (by decide)) e_InvalidMapping.2 (JE.val (je_var 1))))
    jss_nil)
    (jss_one (js_raise rfl tk e_InvalidMapping.1 i_nit.k (hr.mono (by decide)) e_InvalidMapping.2 (JE.val (je_var 1)))))
    jss_nil)
    (jss_cons (js_if (jt_cmp (op_dEq hu) sm_dEq (je_var 0) je_int (by first | exact nomark _ | with_unfolding_all rfl))
    (jss_cons (js_if (jt_val (je_var 2))
    (jss_one (js_raiseK rfl tk e_InvalidTable.1 i_nit (hr.mono (by decide)) e_InvalidTable.2 (JE.val (je_var 1))))
    jss_nil)
    (jss_one (js_raise rfl tk e_InvalidTable.1 i_nit.k (hr.mono (by decide)) e_InvalidTable.2 (JE.val (je_var 1)))))
    jss_nil)
    (jss_cons (js_if (jt_cmp (op_dEq hu) sm_dEq (je_var 0) je_int (by first | exact nomark _ | with_unfolding_all rfl))
    (jss_cons (js_if (jt_val (je_var 2))
    (jss_one (js_raiseK rfl tk e_InvalidPresentation.1 i_nit (hr.mono (by decide)) e_InvalidPresentation.2 (JE.val (je_var 1))))
    jss_nil)
    (jss_one (js_raise rfl tk e_InvalidPresentation.1 i_nit.k (hr.mono (by decide)) e_InvalidPresentation.2 (JE.val (je_var 1)))))
    jss_nil)
    (jss_cons (js_if (jt_val (je_var 2))
    (jss_one (js_raiseK rfl tk e_NotFinite.1 i_nit (hr.mono (by decide)) e_NotFinite.2 (JE.val (je_var 1))))
    jss_nil)
    (jss_one (js_raise rfl tk e_NotFinite.1 i_nit.k (hr.mono (by decide)) e_NotFinite.2 (JE.val (je_var 1))))))))))))))
/-! ### _law_raised_next -/
abbrev b__law_raised_next_9 : CSt := (cRaise "InvalidCommand" (cVal (cVar 1)))
abbrev b__law_raised_next_8 : CSt := (cSeq (cIf (cTru (cVar 2))
    (cRaise "InvalidCommand" (cVal (cVar 1)))
    cNil)
    b__law_raised_next_9)
abbrev b__law_raised_next_7 : CSt := (cSeq (cIf (cTru (cOp2 dEq (cVar 0) (cC (.int 17))))
    (cSeq (cIf (cTru (cVar 2))
    (cRaise "Unreadable" (cVal (cVar 1)))
    cNil)
    (cRaise "Unreadable" (cVal (cVar 1))))
    cNil)
    b__law_raised_next_8)
abbrev b__law_raised_next_6 : CSt := (cSeq (cIf (cTru (cOp2 dEq (cVar 0) (cC (.int 16))))
    (cSeq (cIf (cTru (cVar 2))
    (cRaise "NothingToUndo" (cVal (cVar 1)))
    cNil)
    (cRaise "NothingToUndo" (cVal (cVar 1))))
    cNil)
    b__law_raised_next_7)
abbrev b__law_raised_next_5 : CSt := (cSeq (cIf (cTru (cOp2 dEq (cVar 0) (cC (.int 15))))
    (cSeq (cIf (cTru (cVar 2))
    (cRaise "UnknownName" (cVal (cVar 1)))
    cNil)
    (cRaise "UnknownName" (cVal (cVar 1))))
    cNil)
    b__law_raised_next_6)
abbrev b__law_raised_next_4 : CSt := (cSeq (cIf (cTru (cOp2 dEq (cVar 0) (cC (.int 14))))
    (cSeq (cIf (cTru (cVar 2))
    (cRaise "InvalidName" (cVal (cVar 1)))
    cNil)
    (cRaise "InvalidName" (cVal (cVar 1))))
    cNil)
    b__law_raised_next_5)
abbrev b__law_raised_next_3 : CSt := (cSeq (cIf (cTru (cOp2 dEq (cVar 0) (cC (.int 13))))
    (cSeq (cIf (cTru (cVar 2))
    (cRaise "NotNormal" (cVal (cVar 1)))
    cNil)
    (cRaise "NotNormal" (cVal (cVar 1))))
    cNil)
    b__law_raised_next_4)
abbrev b__law_raised_next_2 : CSt := (cSeq (cIf (cTru (cOp2 dEq (cVar 0) (cC (.int 12))))
    (cSeq (cIf (cTru (cVar 2))
    (cRaise "NotAutomorphism" (cVal (cVar 1)))
    cNil)
    (cRaise "NotAutomorphism" (cVal (cVar 1))))
    cNil)
    b__law_raised_next_3)
abbrev b__law_raised_next_1 : CSt := (cSeq (cIf (cTru (cOp2 dEq (cVar 0) (cC (.int 11))))
    (cSeq (cIf (cTru (cVar 2))
    (cRaise "NotOneToOne" (cVal (cVar 1)))
    cNil)
    (cRaise "NotOneToOne" (cVal (cVar 1))))
    cNil)
    b__law_raised_next_2)
abbrev b__law_raised_next : CSt := (cSeq (cIf (cTru (cOp2 dEq (cVar 0) (cC (.int 10))))
    (cSeq (cIf (cTru (cVar 2))
    (cRaise "NotIncluded" (cVal (cVar 1)))
    cNil)
    (cRaise "NotIncluded" (cVal (cVar 1))))
    cNil)
    b__law_raised_next_1)
def fn__law_raised_next : Fn := runF (noM 3) 0 b__law_raised_next
theorem go__law_raised_next {a0 a1 a2 : D} {r1 : SRes} {r : FRes} (h : b__law_raised_next [.fz a0, .fz a1, .fz a2] = r1) (h2 : endF (noM 3) r1 = r) : fn__law_raised_next [a0, a1, a2] = r := xRun h h2
theorem po__law_raised_next : PoB "_law_raised_next" (top 26) ["which", "given", "named"] := fun _ _ _ _ _ _ us hl => match us, hl with | [_, _, _], _ => rfl
theorem sc__law_raised_next : FnScope ["which", "given", "named"] ["which", "given", "named"] (defScope (top 26)) := ⟨rfl, rfl, rfl, by decide +kernel, rfl, by decide +kernel, by decide +kernel⟩
theorem ok__law_raised_next (e_InvalidCommand : ExK K "InvalidCommand" ∧ mg "InvalidCommand" = some (.ref (He.ga K "InvalidCommand"))) (e_InvalidName : ExK K "InvalidName" ∧ mg "InvalidName" = some (.ref (He.ga K "InvalidName"))) (e_NotAutomorphism : ExK K "NotAutomorphism" ∧ mg "NotAutomorphism" = some (.ref (He.ga K "NotAutomorphism"))) (e_NotIncluded : ExK K "NotIncluded" ∧ mg "NotIncluded" = some (.ref (He.ga K "NotIncluded"))) (e_NotNormal : ExK K "NotNormal" ∧ mg "NotNormal" = some (.ref (He.ga K "NotNormal"))) (e_NotOneToOne : ExK K "NotOneToOne" ∧ mg "NotOneToOne" = some (.ref (He.ga K "NotOneToOne"))) (e_NothingToUndo : ExK K "NothingToUndo" ∧ mg "NothingToUndo" = some (.ref (He.ga K "NothingToUndo"))) (e_UnknownName : ExK K "UnknownName" ∧ mg "UnknownName" = some (.ref (He.ga K "UnknownName"))) (e_Unreadable : ExK K "Unreadable" ∧ mg "Unreadable" = some (.ref (He.ga K "Unreadable"))) (i_nit : IniW P w K mg base) {f : Addr} {fd : FuncData} (FD : FunD K "_law_raised_next" "_law_raised_next" (defArgs (top 26)) (defBody (top 26)) (defScope (top 26)) [] [] f fd) (hg : mg "_law_raised_next" = some (.ref f)) : OkF P w K mg base (top 26) "_law_raised_next" 3 ["which", "given", "named"] (noM 3) fn__law_raised_next :=
  okF (k := 2) FD hg po__law_raised_next sc__law_raised_next rfl [] rfl fun cdv A outer s H E hr => by
    have tk := takes_of (X := cxOf (L2.CX P w) P w K mg base ["which", "given", "named"] "_law_raised_next" (defScope (top 26)) f cdv A outer s H E) (E := E) rfl rfl rfl rfl
    have hu := hr.units
    have hu5 := PL.Room.u65 hr
    have nd := sc__law_raised_next.nd
    exact (jss_cons (js_if (jt_cmp (op_dEq hu) sm_dEq (je_var 0) je_int (by first | exact nomark _ | with_unfolding_all rfl))
    (jss_cons (js_if (jt_val (je_var 2))
    (jss_one (js_raiseK rfl tk e_NotIncluded.1 i_nit (hr.mono (by decide)) e_NotIncluded.2 (JE.val (je_var 1))))
    jss_nil)
    (jss_one (js_raise rfl tk e_NotIncluded.1 i_nit.k (hr.mono (by decide)) e_NotIncluded.2 (JE.val (je_var 1)))))
    jss_nil)
    (jss_cons (js_if (jt_cmp (op_dEq hu) sm_dEq (je_var 0) je_int (by first | exact nomark _ | with_unfolding_all rfl))
    (jss_cons (js_if (jt_val (je_var 2))
    (jss_one (js_raiseK rfl tk e_NotOneToOne.1 i_nit (hr.mono (by decide)) e_NotOneToOne.2 (JE.val (je_var 1))))
    jss_nil)
    (jss_one (js_raise rfl tk e_NotOneToOne.1 i_nit.k (hr.mono (by decide)) e_NotOneToOne.2 (JE.val (je_var 1)))))
    jss_nil)
    (jss_cons (js_if (jt_cmp (op_dEq hu) sm_dEq (je_var 0) je_int (by first | exact nomark _ | with_unfolding_all rfl))
    (jss_cons (js_if (jt_val (je_var 2))
    (jss_one (js_raiseK rfl tk e_NotAutomorphism.1 i_nit (hr.mono (by decide)) e_NotAutomorphism.2 (JE.val (je_var 1))))
    jss_nil)
    (jss_one (js_raise rfl tk e_NotAutomorphism.1 i_nit.k (hr.mono (by decide)) e_NotAutomorphism.2 (JE.val (je_var 1)))))
    jss_nil)
    (jss_cons (js_if (jt_cmp (op_dEq hu) sm_dEq (je_var 0) je_int (by first | exact nomark _ | with_unfolding_all rfl))
    (jss_cons (js_if (jt_val (je_var 2))
    (jss_one (js_raiseK rfl tk e_NotNormal.1 i_nit (hr.mono (by decide)) e_NotNormal.2 (JE.val (je_var 1))))
    jss_nil)
    (jss_one (js_raise rfl tk e_NotNormal.1 i_nit.k (hr.mono (by decide)) e_NotNormal.2 (JE.val (je_var 1)))))
    jss_nil)
    (jss_cons (js_if (jt_cmp (op_dEq hu) sm_dEq (je_var 0) je_int (by first | exact nomark _ | with_unfolding_all rfl))
    (jss_cons (js_if (jt_val (je_var 2))
    (jss_one (js_raiseK rfl tk e_InvalidName.1 i_nit (hr.mono (by decide)) e_InvalidName.2 (JE.val (je_var 1))))
    jss_nil)
    (jss_one (js_raise rfl tk e_InvalidName.1 i_nit.k (hr.mono (by decide)) e_InvalidName.2 (JE.val (je_var 1)))))
    jss_nil)
    (jss_cons (js_if (jt_cmp (op_dEq hu) sm_dEq (je_var 0) je_int (by first | exact nomark _ | with_unfolding_all rfl))
    (jss_cons (js_if (jt_val (je_var 2))
    (jss_one (js_raiseK rfl tk e_UnknownName.1 i_nit (hr.mono (by decide)) e_UnknownName.2 (JE.val (je_var 1))))
    jss_nil)
    (jss_one (js_raise rfl tk e_UnknownName.1 i_nit.k (hr.mono (by decide)) e_UnknownName.2 (JE.val (je_var 1)))))
    jss_nil)
    (jss_cons (js_if (jt_cmp (op_dEq hu) sm_dEq (je_var 0) je_int (by first | exact nomark _ | with_unfolding_all rfl))
    (jss_cons (js_if (jt_val (je_var 2))
    (jss_one (js_raiseK rfl tk e_NothingToUndo.1 i_nit (hr.mono (by decide)) e_NothingToUndo.2 (JE.val (je_var 1))))
    jss_nil)
    (jss_one (js_raise rfl tk e_NothingToUndo.1 i_nit.k (hr.mono (by decide)) e_NothingToUndo.2 (JE.val (je_var 1)))))
    jss_nil)
    (jss_cons (js_if (jt_cmp (op_dEq hu) sm_dEq (je_var 0) je_int (by first | exact nomark _ | with_unfolding_all rfl))
    (jss_cons (js_if (jt_val (je_var 2))
    (jss_one (js_raiseK rfl tk e_Unreadable.1 i_nit (hr.mono (by decide)) e_Unreadable.2 (JE.val (je_var 1))))
    jss_nil)
    (jss_one (js_raise rfl tk e_Unreadable.1 i_nit.k (hr.mono (by decide)) e_Unreadable.2 (JE.val (je_var 1)))))
    jss_nil)
    (jss_cons (js_if (jt_val (je_var 2))
    (jss_one (js_raiseK rfl tk e_InvalidCommand.1 i_nit (hr.mono (by decide)) e_InvalidCommand.2 (JE.val (je_var 1))))
    jss_nil)
    (jss_one (js_raise rfl tk e_InvalidCommand.1 i_nit.k (hr.mono (by decide)) e_InvalidCommand.2 (JE.val (je_var 1)))))))))))))
/-! ### _law_kinds -/
abbrev b__law_kinds_3 : CSt := (cRet (cOp2 dAdd (cVar 1) (cLst (cConsA (cVal (cOp1 (dIsE (kt "UnknownName")) (cVar 0))) (cConsA (cVal (cOp1 (dIsE (kt "NothingToUndo")) (cVar 0))) (cConsA (cVal (cOp1 (dIsE (kt "Unreadable")) (cVar 0))) (cConsA (cVal (cOp1 (dIsE (kt "InvalidCommand")) (cVar 0))) cNilA)))))))
abbrev b__law_kinds_2 : CSt := (cSeq (cSet 1 (cOp2 dAdd (cVar 1) (cLst (cConsA (cVal (cOp1 (dIsE (kt "NotIncluded")) (cVar 0))) (cConsA (cVal (cOp1 (dIsE (kt "NotOneToOne")) (cVar 0))) (cConsA (cVal (cOp1 (dIsE (kt "NotAutomorphism")) (cVar 0))) (cConsA (cVal (cOp1 (dIsE (kt "NotNormal")) (cVar 0))) (cConsA (cVal (cOp1 (dIsE (kt "InvalidName")) (cVar 0))) cNilA))))))))
    b__law_kinds_3)
abbrev b__law_kinds_1 : CSt := (cSeq (cSet 1 (cOp2 dAdd (cVar 1) (cLst (cConsA (cVal (cOp1 (dIsE (kt "InvalidSubgroup")) (cVar 0))) (cConsA (cVal (cOp1 (dIsE (kt "InvalidMapping")) (cVar 0))) (cConsA (cVal (cOp1 (dIsE (kt "InvalidTable")) (cVar 0))) (cConsA (cVal (cOp1 (dIsE (kt "InvalidPresentation")) (cVar 0))) (cConsA (cVal (cOp1 (dIsE (kt "NotFinite")) (cVar 0))) cNilA))))))))
    b__law_kinds_2)
abbrev b__law_kinds : CSt := (cSeq (cSet 1 (cLst (cConsA (cVal (cOp1 (dIsE (kt "InvalidInteger")) (cVar 0))) (cConsA (cVal (cOp1 (dIsE (kt "InvalidWord")) (cVar 0))) (cConsA (cVal (cOp1 (dIsE (kt "InvalidWords")) (cVar 0))) (cConsA (cVal (cOp1 (dIsE (kt "InvalidRows")) (cVar 0))) (cConsA (cVal (cOp1 (dIsE (kt "InvalidGraph")) (cVar 0))) cNilA)))))))
    b__law_kinds_1)
def fn__law_kinds : Fn := runF (noM 1) 1 b__law_kinds
theorem go__law_kinds {a0 : D} {r1 : SRes} {r : FRes} (h : b__law_kinds [.fz a0, .un] = r1) (h2 : endF (noM 1) r1 = r) : fn__law_kinds [a0] = r := xRun h h2
theorem po__law_kinds : PoB "_law_kinds" (top 27) ["e"] := fun _ _ _ _ _ _ us hl => match us, hl with | [_], _ => rfl
theorem sc__law_kinds : FnScope ["e", "found"] ["e"] (defScope (top 27)) := ⟨rfl, rfl, rfl, by decide +kernel, rfl, by decide +kernel, by decide +kernel⟩
theorem ok__law_kinds (b_isinstance : mg "isinstance" = none) (e_InvalidCommand : ExK K "InvalidCommand" ∧ mg "InvalidCommand" = some (.ref (He.ga K "InvalidCommand"))) (e_InvalidGraph : ExK K "InvalidGraph" ∧ mg "InvalidGraph" = some (.ref (He.ga K "InvalidGraph"))) (e_InvalidInteger : ExK K "InvalidInteger" ∧ mg "InvalidInteger" = some (.ref (He.ga K "InvalidInteger"))) (e_InvalidMapping : ExK K "InvalidMapping" ∧ mg "InvalidMapping" = some (.ref (He.ga K "InvalidMapping"))) (e_InvalidName : ExK K "InvalidName" ∧ mg "InvalidName" = some (.ref (He.ga K "InvalidName"))) (e_InvalidPresentation : ExK K "InvalidPresentation" ∧ mg "InvalidPresentation" = some (.ref (He.ga K "InvalidPresentation"))) (e_InvalidRows : ExK K "InvalidRows" ∧ mg "InvalidRows" = some (.ref (He.ga K "InvalidRows"))) (e_InvalidSubgroup : ExK K "InvalidSubgroup" ∧ mg "InvalidSubgroup" = some (.ref (He.ga K "InvalidSubgroup"))) (e_InvalidTable : ExK K "InvalidTable" ∧ mg "InvalidTable" = some (.ref (He.ga K "InvalidTable"))) (e_InvalidWord : ExK K "InvalidWord" ∧ mg "InvalidWord" = some (.ref (He.ga K "InvalidWord"))) (e_InvalidWords : ExK K "InvalidWords" ∧ mg "InvalidWords" = some (.ref (He.ga K "InvalidWords"))) (e_NotAutomorphism : ExK K "NotAutomorphism" ∧ mg "NotAutomorphism" = some (.ref (He.ga K "NotAutomorphism"))) (e_NotFinite : ExK K "NotFinite" ∧ mg "NotFinite" = some (.ref (He.ga K "NotFinite"))) (e_NotIncluded : ExK K "NotIncluded" ∧ mg "NotIncluded" = some (.ref (He.ga K "NotIncluded"))) (e_NotNormal : ExK K "NotNormal" ∧ mg "NotNormal" = some (.ref (He.ga K "NotNormal"))) (e_NotOneToOne : ExK K "NotOneToOne" ∧ mg "NotOneToOne" = some (.ref (He.ga K "NotOneToOne"))) (e_NothingToUndo : ExK K "NothingToUndo" ∧ mg "NothingToUndo" = some (.ref (He.ga K "NothingToUndo"))) (e_UnknownName : ExK K "UnknownName" ∧ mg "UnknownName" = some (.ref (He.ga K "UnknownName"))) (e_Unreadable : ExK K "Unreadable" ∧ mg "Unreadable" = some (.ref (He.ga K "Unreadable"))) (k_InvalidCommand : ∀ z b, kt "InvalidCommand" z = some b → ExK K z ∧ PySem.W.kitOne K (.ref (He.ga K z)) (.ref (He.ga K "InvalidCommand")) = some b) (k_InvalidGraph : ∀ z b, kt "InvalidGraph" z = some b → ExK K z ∧ PySem.W.kitOne K (.ref (He.ga K z)) (.ref (He.ga K "InvalidGraph")) = some b) (k_InvalidInteger : ∀ z b, kt "InvalidInteger" z = some b → ExK K z ∧ PySem.W.kitOne K (.ref (He.ga K z)) (.ref (He.ga K "InvalidInteger")) = some b) (k_InvalidMapping : ∀ z b, kt "InvalidMapping" z = some b → ExK K z ∧ PySem.W.kitOne K (.ref (He.ga K z)) (.ref (He.ga K "InvalidMapping")) = some b) (k_InvalidName : ∀ z b, kt "InvalidName" z = some b → ExK K z ∧ PySem.W.kitOne K (.ref (He.ga K z)) (.ref (He.ga K "InvalidName")) = some b) (k_InvalidPresentation : ∀ z b, kt "InvalidPresentation" z = some b → ExK K z ∧ PySem.W.kitOne K (.ref (He.ga K z)) (.ref (He.ga K "InvalidPresentation")) = some b) (k_InvalidRows : ∀ z b, kt "InvalidRows" z = some b → ExK K z ∧ PySem.W.kitOne K (.ref (He.ga K z)) (.ref (He.ga K "InvalidRows")) = some b) (k_InvalidSubgroup : ∀ z b, kt "InvalidSubgroup" z = some b → ExK K z ∧ PySem.W.kitOne K (.ref (He.ga K z)) (.ref (He.ga K "InvalidSubgroup")) = some b) (k_InvalidTable : ∀ z b, kt "InvalidTable" z = some b → ExK K z ∧ PySem.W.kitOne K (.ref (He.ga K z)) (.ref (He.ga K "InvalidTable")) = some b) (k_InvalidWord : ∀ z b, kt "InvalidWord" z = some b → ExK K z ∧ PySem.W.kitOne K (.ref (He.ga K z)) (.ref (He.ga K "InvalidWord")) = some b) (k_InvalidWords : ∀ z b, kt "InvalidWords" z = some b → ExK K z ∧ PySem.W.kitOne K (.ref (He.ga K z)) (.ref (He.ga K "InvalidWords")) = some b) (k_NotAutomorphism : ∀ z b, kt "NotAutomorphism" z = some b → ExK K z ∧ PySem.W.kitOne K (.ref (He.ga K z)) (.ref (He.ga K "NotAutomorphism")) = some b) (k_NotFinite : ∀ z b, kt "NotFinite" z = some b → ExK K z ∧ PySem.W.kitOne K (.ref (He.ga K z)) (.ref (He.ga K "NotFinite")) = some b) (k_NotIncluded : ∀ z b, kt "NotIncluded" z = some b → ExK K z ∧ PySem.W.kitOne K (.ref (He.ga K z)) (.ref (He.ga K "NotIncluded")) = some b) (k_NotNormal : ∀ z b, kt "NotNormal" z = some b → ExK K z ∧ PySem.W.kitOne K (.ref (He.ga K z)) (.ref (He.ga K "NotNormal")) = some b) (k_NotOneToOne : ∀ z b, kt "NotOneToOne" z = some b → ExK K z ∧ PySem.W.kitOne K (.ref (He.ga K z)) (.ref (He.ga K "NotOneToOne")) = some b) (k_NothingToUndo : ∀ z b, kt "NothingToUndo" z = some b → ExK K z ∧ PySem.W.kitOne K (.ref (He.ga K z)) (.ref (He.ga K "NothingToUndo")) = some b) (k_UnknownName : ∀ z b, kt "UnknownName" z = some b → ExK K z ∧ PySem.W.kitOne K (.ref (He.ga K z)) (.ref (He.ga K "UnknownName")) = some b) (k_Unreadable : ∀ z b, kt "Unreadable" z = some b → ExK K z ∧ PySem.W.kitOne K (.ref (He.ga K z)) (.ref (He.ga K "Unreadable")) = some b) {f : Addr} {fd : FuncData} (FD : FunD K "_law_kinds" "_law_kinds" (defArgs (top 27)) (defBody (top 27)) (defScope (top 27)) [] [] f fd) (hg : mg "_law_kinds" = some (.ref f)) : OkF P w K mg base (top 27) "_law_kinds" 2 ["e"] (noM 1) fn__law_kinds :=
  okF (k := 1) FD hg po__law_kinds sc__law_kinds rfl [] rfl fun cdv A outer s H E hr => by
    have tk := takes_of (X := cxOf (L2.CX P w) P w K mg base ["e", "found"] "_law_kinds" (defScope (top 27)) f cdv A outer s H E) (E := E) rfl rfl rfl rfl
    have hu := hr.units
    have hu5 := PL.Room.u65 hr
    have nd := sc__law_kinds.nd
    exact (jss_cons (js_set 1 nd (je_lst (ja_cons (JE.val (je_isC (kt "InvalidInteger") k_InvalidInteger b_isinstance t_isinstance e_InvalidInteger.2 (je_var 0))) (ja_cons (JE.val (je_isC (kt "InvalidWord") k_InvalidWord b_isinstance t_isinstance e_InvalidWord.2 (je_var 0))) (ja_cons (JE.val (je_isC (kt "InvalidWords") k_InvalidWords b_isinstance t_isinstance e_InvalidWords.2 (je_var 0))) (ja_cons (JE.val (je_isC (kt "InvalidRows") k_InvalidRows b_isinstance t_isinstance e_InvalidRows.2 (je_var 0))) (ja_cons (JE.val (je_isC (kt "InvalidGraph") k_InvalidGraph b_isinstance t_isinstance e_InvalidGraph.2 (je_var 0))) ja_nil)))))))
    (jss_cons (js_set 1 nd (je_bin op_dAdd sm_dAdd (je_var 1) (je_lst (ja_cons (JE.val (je_isC (kt "InvalidSubgroup") k_InvalidSubgroup b_isinstance t_isinstance e_InvalidSubgroup.2 (je_var 0))) (ja_cons (JE.val (je_isC (kt "InvalidMapping") k_InvalidMapping b_isinstance t_isinstance e_InvalidMapping.2 (je_var 0))) (ja_cons (JE.val (je_isC (kt "InvalidTable") k_InvalidTable b_isinstance t_isinstance e_InvalidTable.2 (je_var 0))) (ja_cons (JE.val (je_isC (kt "InvalidPresentation") k_InvalidPresentation b_isinstance t_isinstance e_InvalidPresentation.2 (je_var 0))) (ja_cons (JE.val (je_isC (kt "NotFinite") k_NotFinite b_isinstance t_isinstance e_NotFinite.2 (je_var 0))) ja_nil))))))))
    (jss_cons (js_set 1 nd (je_bin op_dAdd sm_dAdd (je_var 1) (je_lst (ja_cons (JE.val (je_isC (kt "NotIncluded") k_NotIncluded b_isinstance t_isinstance e_NotIncluded.2 (je_var 0))) (ja_cons (JE.val (je_isC (kt "NotOneToOne") k_NotOneToOne b_isinstance t_isinstance e_NotOneToOne.2 (je_var 0))) (ja_cons (JE.val (je_isC (kt "NotAutomorphism") k_NotAutomorphism b_isinstance t_isinstance e_NotAutomorphism.2 (je_var 0))) (ja_cons (JE.val (je_isC (kt "NotNormal") k_NotNormal b_isinstance t_isinstance e_NotNormal.2 (je_var 0))) (ja_cons (JE.val (je_isC (kt "InvalidName") k_InvalidName b_isinstance t_isinstance e_InvalidName.2 (je_var 0))) ja_nil))))))))
    (jss_one (js_ret (je_bin op_dAdd sm_dAdd (je_var 1) (je_lst (ja_cons (JE.val (je_isC (kt "UnknownName") k_UnknownName b_isinstance t_isinstance e_UnknownName.2 (je_var 0))) (ja_cons (JE.val (je_isC (kt "NothingToUndo") k_NothingToUndo b_isinstance t_isinstance e_NothingToUndo.2 (je_var 0))) (ja_cons (JE.val (je_isC (kt "Unreadable") k_Unreadable b_isinstance t_isinstance e_Unreadable.2 (je_var 0))) (ja_cons (JE.val (je_isC (kt "InvalidCommand") k_InvalidCommand b_isinstance t_isinstance e_InvalidCommand.2 (je_var 0))) ja_nil)))))))))))
/-! ### _law_value -/
abbrev b__law_value_1 : CSt := (cRet (cOp2 dIdx (cVar 1) (cCall1 fn__law_take 0 (cConsA (cVal (cOp1 dLen (cVar 1))) cNilA))))
abbrev b__law_value : CSt := (cSeq (cSet 1 (cLst (cConsA (cVal (cC .non)) (cConsA (cVal (cC (.int 0))) (cConsA (cVal (cOp1 dNeg (cC (.int 7)))) (cConsA (cVal (cC (.bl true))) (cConsA (cVal (cC (.str [97, 98]))) (cConsA (cVal (cTup cNilA)) (cConsA (cVal (cTup (cConsA (cVal (cC (.int 1))) (cConsA (cVal (cC (.str [97]))) cNilA)))) (cConsA (cVal (cLst (cConsA (cVal (cC (.int 1))) (cConsA (cVal (cLst (cConsA (cVal (cC (.int 2))) cNilA))) cNilA)))) (cConsA (cVal (cC (.str []))) (cConsA (cVal (cOp2 dPow (cC (.int 10)) (cC (.int 30)))) (cConsA (cVal (cTup (cConsA (cVal (cC (.int 2))) (cConsA (cVal (cC (.int 1))) (cConsA (cVal (cTup (cConsA (cVal (cTup (cConsA (cVal (cC (.int 0))) (cConsA (cVal (cC (.str [97]))) (cConsA (cVal (cC (.int 0))) cNilA))))) cNilA))) cNilA))))) (cConsA (cVal (cC (.bl false))) (cConsA (cVal (cLst (cConsA (cVal (cC (.str [97]))) cNilA))) (cConsA (cVal (cTup (cConsA (cVal (cTup cNilA)) cNilA))) cNilA))))))))))))))))
    b__law_value_1)
def fn__law_value : Fn := runF (true :: noM 0) 1 b__law_value
theorem go__law_value {a0 : D} {r1 : SRes} {r : FRes} (h : b__law_value [.ow a0, .un] = r1) (h2 : endF (true :: noM 0) r1 = r) : fn__law_value [a0] = r := xRun h h2
theorem po__law_value : PoB "_law_value" (top 28) ["pot"] := fun _ _ _ _ _ _ us hl => match us, hl with | [_], _ => rfl
theorem sc__law_value : FnScope ["pot", "some"] ["pot"] (defScope (top 28)) := ⟨rfl, rfl, rfl, by decide +kernel, rfl, by decide +kernel, by decide +kernel⟩
theorem ok__law_value (b_len : mg "len" = none) (F__law_take : OkF P w K mg base (top 23) "_law_take" 2 ["pot", "many"] (true :: noM 1) fn__law_take) {f : Addr} {fd : FuncData} (FD : FunD K "_law_value" "_law_value" (defArgs (top 28)) (defBody (top 28)) (defScope (top 28)) [] [] f fd) (hg : mg "_law_value" = some (.ref f)) : OkF P w K mg base (top 28) "_law_value" 3 ["pot"] (true :: noM 0) fn__law_value :=
  okF (k := 2) FD hg po__law_value sc__law_value rfl [0] rfl fun cdv A outer s H E hr => by
    have tk := takes_of (X := cxOf (L2.CX P w) P w K mg base ["pot", "some"] "_law_value" (defScope (top 28)) f cdv A outer s H E) (E := E) rfl rfl rfl rfl
    have hu := hr.units
    have hu5 := PL.Room.u65 hr
    have nd := sc__law_value.nd
    exact (jss_cons (js_set 1 nd (je_lst (ja_cons (JE.val je_non) (ja_cons (JE.val je_int) (ja_cons (JE.val (je_un L2.un_neg sm_dNeg je_int)) (ja_cons (JE.val je_bl) (ja_cons (JE.val (je_str [97, 98])) (ja_cons (JE.val (je_tup ja_nil)) (ja_cons (JE.val (je_tup (ja_cons (JE.val je_int) (ja_cons (JE.val (je_str [97])) ja_nil)))) (ja_cons (JE.val (je_lst (ja_cons (JE.val je_int) (ja_cons (JE.val (je_lst (ja_cons (JE.val je_int) ja_nil))) ja_nil)))) (ja_cons (JE.val (je_str [])) (ja_cons (JE.val (je_bin L2.op_pow sm_dPow je_int je_int)) (ja_cons (JE.val (je_tup (ja_cons (JE.val je_int) (ja_cons (JE.val je_int) (ja_cons (JE.val (je_tup (ja_cons (JE.val (je_tup (ja_cons (JE.val je_int) (ja_cons (JE.val (je_str [97])) (ja_cons (JE.val je_int) ja_nil))))) ja_nil))) ja_nil))))) (ja_cons (JE.val je_bl) (ja_cons (JE.val (je_lst (ja_cons (JE.val (je_str [97])) ja_nil))) (ja_cons (JE.val (je_tup (ja_cons (JE.val (je_tup ja_nil)) ja_nil))) ja_nil))))))))))))))))
    (jss_one (js_ret (je_ix (je_var 1) (jc1 0 F__law_take tk (hr.mono (by decide)) (ja_cons (JE.val (je_b1 call_len sm_len b_len t_len (je_var 1))) ja_nil) (cConsA_len (fun _ _ _ => cNilA_len)))))))
/-! ### _law_caught -/
abbrev b__law_caught_2 : CSt := (cRet (cVar 3))
abbrev b__law_caught_1 : CSt := (cSeq (cTry 4 tx_FreeError (cSeq (cIf (cTru (cOp2 dLtA (cVar 0) (cC (.int 10))))
    (cExpr (cCall fn__law_raised (cConsA (cVal (cVar 0)) (cConsA (cVal (cVar 1)) (cConsA (cVal (cVar 2)) cNilA)))))
    cNil)
    (cExpr (cCall fn__law_raised_next (cConsA (cVal (cVar 0)) (cConsA (cVal (cVar 1)) (cConsA (cVal (cVar 2)) cNilA)))))) (cSet 3 (cVar 4)))
    b__law_caught_2)
abbrev b__law_caught : CSt := (cSeq (cSet 3 (cC .non))
    b__law_caught_1)
def fn__law_caught : Fn := runF (noM 3) 2 b__law_caught
theorem go__law_caught {a0 a1 a2 : D} {r1 : SRes} {r : FRes} (h : b__law_caught [.fz a0, .fz a1, .fz a2, .un, .un] = r1) (h2 : endF (noM 3) r1 = r) : fn__law_caught [a0, a1, a2] = r := xRun h h2
theorem po__law_caught : PoB "_law_caught" (top 29) ["which", "given", "named"] := fun _ _ _ _ _ _ us hl => match us, hl with | [_, _, _], _ => rfl
theorem sc__law_caught : FnScope ["which", "given", "named", "caught", "e"] ["which", "given", "named"] (defScope (top 29)) := ⟨rfl, rfl, rfl, by decide +kernel, rfl, by decide +kernel, by decide +kernel⟩
theorem ok__law_caught (e_FreeError : ExK K "FreeError" ∧ mg "FreeError" = some (.ref (He.ga K "FreeError"))) (F__law_raised : OkF P w K mg base (top 25) "_law_raised" 3 ["which", "given", "named"] (noM 3) fn__law_raised) (F__law_raised_next : OkF P w K mg base (top 26) "_law_raised_next" 3 ["which", "given", "named"] (noM 3) fn__law_raised_next) (x_FreeError : ∀ c b, tx_FreeError c = some b → PySem.W.exmOne K (.ref (He.ga K c)) (.ref (He.ga K "FreeError")) = some b) {f : Addr} {fd : FuncData} (FD : FunD K "_law_caught" "_law_caught" (defArgs (top 29)) (defBody (top 29)) (defScope (top 29)) [] [] f fd) (hg : mg "_law_caught" = some (.ref f)) : OkF P w K mg base (top 29) "_law_caught" 4 ["which", "given", "named"] (noM 3) fn__law_caught :=
  okF (k := 3) FD hg po__law_caught sc__law_caught rfl [] rfl fun cdv A outer s H E hr => by
    have tk := takes_of (X := cxOf (L2.CX P w) P w K mg base ["which", "given", "named", "caught", "e"] "_law_caught" (defScope (top 29)) f cdv A outer s H E) (E := E) rfl rfl rfl rfl
    have hu := hr.units
    have hu5 := PL.Room.u65 hr
    have nd := sc__law_caught.nd
    exact (jss_cons (js_set 3 nd je_non)
    (jss_cons (js_try 4 rfl rfl rfl nd tk x_FreeError e_FreeError.2 (fun W' pn xe tk hp => (jss_cons (js_if (jt_cmp (op_dLtA hu) sm_dLtA (je_var 0) je_int (by first | exact nomark _ | with_unfolding_all rfl))
    (jss_one (js_expr (jc F__law_raised tk (hr.mono (by decide)) (ja_cons (JE.val (je_var 0)) (ja_cons (JE.val (je_var 1)) (ja_cons (JE.val (je_var 2)) ja_nil))) (cConsA_len (cConsA_len (cConsA_len (fun _ _ _ => cNilA_len)))))))
    jss_nil)
    (jss_one (js_expr (jc F__law_raised_next tk (hr.mono (by decide)) (ja_cons (JE.val (je_var 0)) (ja_cons (JE.val (je_var 1)) (ja_cons (JE.val (je_var 2)) ja_nil))) (cConsA_len (cConsA_len (cConsA_len (fun _ _ _ => cNilA_len))))))))) (fun a pn => (jss_one (js_set 3 nd (je_var 4)))))
    (jss_one (js_ret (je_var 3)))))
/-! ### law -/
abbrev l_law_1_3 : CSt := (cIf (cOr (cTru (cOp2 dNe (cCall fn__law_kinds (cConsA (cVal (cVar 5)) cNilA)) (cLc (cRange1 (cConsA (cVal (cC (.int 19))) cNilA)) (List.map Prod.snd ([("at", 9)] : List (Str × Nat))) (gN 9) cYes (cVal (cOp2 dEq (cVar 9) (cVar 2)))))) (cTru (cOp2 dNe (cCall fn__law_kinds (cConsA (cVal (cVar 6)) cNilA)) (cCall fn__law_kinds (cConsA (cVal (cVar 5)) cNilA)))))
    (cRet (cC (.bl false)))
    cNil)
abbrev l_law_1_2 : CSt := (cSeq (cIf (cOr (cTru (cOp2 dIsN (cVar 5) (cC .non))) (cOr (cTru (cOp2 dIsN (cVar 6) (cC .non))) (cOr (cNot (cTru (cOp1 (dIsE (kt "ValueError")) (cVar 5)))) (cNot (cTru (cCall (fn__law_same 6) (cConsA (cVal (cLst (cConsA (cVal (cFld excs (cVar 5))) (cConsA (cVal (cFld excs (cVar 6))) cNilA)))) (cConsA (cVal (cLst (cConsA (cVal (cVar 3)) (cConsA (cVal (cVar 4)) cNilA)))) cNilA))))))))
    (cRet (cC (.bl false)))
    cNil)
    l_law_1_3)
abbrev l_law_1_1 : CSt := (cSeq (cPar 5 6 (cCall fn__law_caught (cConsA (cVal (cVar 2)) (cConsA (cVal (cVar 3)) (cConsA (cVal (cOp2 dEq (cCall1 fn__law_take 1 (cConsA (cVal (cC (.int 2))) cNilA)) (cC (.int 0)))) cNilA)))) (cCall fn__law_caught (cConsA (cVal (cVar 2)) (cConsA (cVal (cVar 4)) (cConsA (cVal (cOp2 dEq (cCall1 fn__law_take 1 (cConsA (cVal (cC (.int 2))) cNilA)) (cC (.int 0)))) cNilA)))))
    l_law_1_2)
abbrev l_law_1 : CSt := (cSeq (cPar 3 4 (cCall1 fn__law_value 1 cNilA) (cCall1 fn__law_value 1 cNilA))
    l_law_1_1)
abbrev b_law_4 : CSt := (cRet (cAndV (cOp1 (dIsE (kt "ValueError")) (cVar 7)) (cOp1 (dIsE (kt "FreeError")) (cVar 8))))
abbrev b_law_3 : CSt := (cSeq (cIf (cOr (cNot (cTru (cCall (fn__law_same 6) (cConsA (cVal (cLst (cConsA (cVal (cFld excs (cVar 7))) (cConsA (cVal (cFld excs (cVar 8))) cNilA)))) (cConsA (cVal (cLst (cConsA (cVal (cC (.str [120]))) (cConsA (cVal (cTup (cConsA (cVal (cC (.int 1))) (cConsA (cVal (cC (.int 2))) cNilA)))) cNilA)))) cNilA))))) (cTru (cOp2 dIn (cC (.bl true)) (cCall fn__law_kinds (cConsA (cVal (cVar 7)) cNilA)))))
    (cRet (cC (.bl false)))
    cNil)
    b_law_4)
abbrev b_law_2 : CSt := (cSeq (cPar 7 8 (cMkE "FreeError" (cVal (cC (.str [120])))) (cMkE "FreeError" (cVal (cTup (cConsA (cVal (cC (.int 1))) (cConsA (cVal (cC (.int 2))) cNilA))))))
    b_law_3)
abbrev b_law_1 : CSt := (cSeq (cFor (cRange1 (cConsA (cVal (cC (.int 19))) cNilA)) (gN 2)
    l_law_1)
    b_law_2)
abbrev b_law : CSt := (cSeq (cSet 1 (cCall fn__law_pot (cConsA (cVal (cVar 0)) cNilA)))
    b_law_1)
def fn_law : Fn := runF (noM 1) 9 b_law
theorem go_law {a0 : D} {r1 : SRes} {r : FRes} (h : b_law [.fz a0, .un, .un, .un, .un, .un, .un, .un, .un, .un] = r1) (h2 : endF (noM 1) r1 = r) : fn_law [a0] = r := xRun h h2
theorem po_law : PoB "law" (top 30) ["script"] := fun _ _ _ _ _ _ us hl => match us, hl with | [_], _ => rfl
theorem sc_law : FnScope ["script", "pot", "which", "value", "more", "one", "other", "base", "text", "at"] ["script"] (defScope (top 30)) := ⟨rfl, rfl, rfl, by decide +kernel, rfl, by decide +kernel, by decide +kernel⟩
theorem ok_law (b_ValueError : mg "ValueError" = none) (b_isinstance : mg "isinstance" = none) (b_range : mg "range" = none) (e_FreeError : ExK K "FreeError" ∧ mg "FreeError" = some (.ref (He.ga K "FreeError"))) (F__law_caught : OkF P w K mg base (top 29) "_law_caught" 4 ["which", "given", "named"] (noM 3) fn__law_caught) (F__law_kinds : OkF P w K mg base (top 27) "_law_kinds" 2 ["e"] (noM 1) fn__law_kinds) (F__law_pot : OkF P w K mg base (top 22) "_law_pot" 2 ["script"] (noM 1) fn__law_pot) (F__law_same : OkF P w K mg base (top 24) "_law_same" 8 ["got", "due"] (noM 2) (fn__law_same 6)) (F__law_take : OkF P w K mg base (top 23) "_law_take" 2 ["pot", "many"] (true :: noM 1) fn__law_take) (F__law_value : OkF P w K mg base (top 28) "_law_value" 3 ["pot"] (true :: noM 0) fn__law_value) (i_nit : IniW P w K mg base) (k_FreeError : ∀ z b, kt "FreeError" z = some b → ExK K z ∧ PySem.W.kitOne K (.ref (He.ga K z)) (.ref (He.ga K "FreeError")) = some b) (k_ValueError : ∀ z b, kt "ValueError" z = some b → ExK K z ∧ PySem.W.kitOne K (.ref (He.ga K z)) (.type "ValueError") = some b) (v_all : ∀ c ∈ excs, ExK K c) {f : Addr} {fd : FuncData} (FD : FunD K "law" "law" (defArgs (top 30)) (defBody (top 30)) (defScope (top 30)) [] [] f fd) (hg : mg "law" = some (.ref f)) : OkF P w K mg base (top 30) "law" 9 ["script"] (noM 1) fn_law :=
  okF (k := 8) FD hg po_law sc_law rfl [] rfl fun cdv A outer s H E hr => by
    have tk := takes_of (X := cxOf (L2.CX P w) P w K mg base ["script", "pot", "which", "value", "more", "one", "other", "base", "text", "at"] "law" (defScope (top 30)) f cdv A outer s H E) (E := E) rfl rfl rfl rfl
    have hu := hr.units
    have hu5 := PL.Room.u65 hr
    have nd := sc_law.nd
    exact (jss_cons (js_set 1 nd (jc F__law_pot tk (hr.mono (by decide)) (ja_cons (JE.val (je_var 0)) ja_nil) (cConsA_len (fun _ _ _ => cNilA_len))))
    (jss_cons (js_for (passes_of rfl) rfl (ji_range1 rfl b_range (ja_cons (JE.val je_int) ja_nil)) (jg_name 2 nd)
    (jss_cons (js_par 3 4 rfl nd (jc1 1 F__law_value tk (hr.mono (by decide)) ja_nil (fun _ _ _ => cNilA_len)) (jc1 1 F__law_value tk (hr.mono (by decide)) ja_nil (fun _ _ _ => cNilA_len)) (by rfl))
    (jss_cons (js_par 5 6 rfl nd (jc F__law_caught tk (hr.mono (by decide)) (ja_cons (JE.val (je_var 2)) (ja_cons (JE.val (je_var 3)) (ja_cons (JE.val (je_cmp (op_dEq hu) sm_dEq (jc1 1 F__law_take tk (hr.mono (by decide)) (ja_cons (JE.val je_int) ja_nil) (cConsA_len (fun _ _ _ => cNilA_len))) je_int (by first | exact nomark _ | with_unfolding_all rfl))) ja_nil))) (cConsA_len (cConsA_len (cConsA_len (fun _ _ _ => cNilA_len))))) (jc F__law_caught tk (hr.mono (by decide)) (ja_cons (JE.val (je_var 2)) (ja_cons (JE.val (je_var 4)) (ja_cons (JE.val (je_cmp (op_dEq hu) sm_dEq (jc1 1 F__law_take tk (hr.mono (by decide)) (ja_cons (JE.val je_int) ja_nil) (cConsA_len (fun _ _ _ => cNilA_len))) je_int (by first | exact nomark _ | with_unfolding_all rfl))) ja_nil))) (cConsA_len (cConsA_len (cConsA_len (fun _ _ _ => cNilA_len))))) (by rfl))
    (jss_cons (js_if (jw_pt (jw_or (jt_cmp L2.op_isN sm_dIsN (je_var 5) je_non (by first | exact nomark _ | with_unfolding_all rfl)) (jw_or (jt_cmp L2.op_isN sm_dIsN (je_var 6) je_non (by first | exact nomark _ | with_unfolding_all rfl)) (jw_or (jt_not (jt_val (je_isT "ValueError" (kt "ValueError") k_ValueError b_isinstance t_isinstance b_ValueError t_ValueError (je_var 5)))) (jw_or1 (jt_not (jt_val (jc F__law_same tk (hr.mono (by decide)) (ja_cons (JE.val (je_lst (ja_cons (JE.val (je_value v_all (je_var 5))) (ja_cons (JE.val (je_value v_all (je_var 6))) ja_nil)))) (ja_cons (JE.val (je_lst (ja_cons (JE.val (je_var 3)) (ja_cons (JE.val (je_var 4)) ja_nil)))) ja_nil)) (cConsA_len (cConsA_len (fun _ _ _ => cNilA_len)))))))))))
    (jss_one (js_ret je_bl))
    jss_nil)
    (jss_one (js_if (jw_pt (jw_or (jt_cmp (op_dNe hu) sm_dNe (jc F__law_kinds tk (hr.mono (by decide)) (ja_cons (JE.val (je_var 5)) ja_nil) (cConsA_len (fun _ _ _ => cNilA_len))) (je_lc [("at", 9)] rfl nd (ji_range1 rfl b_range (ja_cons (JE.val je_int) ja_nil)) (blk_ok (by kernel_rfl)) (fun s H C cl fp => (jg_name 9 nd)) (by decide) (fun s H C cl fp => jts_nil) (fun s H C cl fp => (JE.val (je_cmp (op_dEq hu) sm_dEq (je_var 9) (je_var 2) (by first | exact nomark _ | with_unfolding_all rfl))))) (by first | exact nomark _ | with_unfolding_all rfl)) (jw_or1 (jt_cmp (op_dNe hu) sm_dNe (jc F__law_kinds tk (hr.mono (by decide)) (ja_cons (JE.val (je_var 6)) ja_nil) (cConsA_len (fun _ _ _ => cNilA_len))) (jc F__law_kinds tk (hr.mono (by decide)) (ja_cons (JE.val (je_var 5)) ja_nil) (cConsA_len (fun _ _ _ => cNilA_len))) (by first | exact nomark _ | with_unfolding_all rfl)))))
    (jss_one (js_ret je_bl))
    jss_nil))))))
    (jss_cons (js_par 7 8 rfl nd (je_mkE tk e_FreeError.1 i_nit (hr.mono (by decide)) e_FreeError.2 (JE.val (je_str [120]))) (je_mkEK tk e_FreeError.1 i_nit (hr.mono (by decide)) e_FreeError.2 (JE.val (je_tup (ja_cons (JE.val je_int) (ja_cons (JE.val je_int) ja_nil))))) (by rfl))
    (jss_cons (js_if (jw_pt (jw_or (jt_not (jt_val (jc F__law_same tk (hr.mono (by decide)) (ja_cons (JE.val (je_lst (ja_cons (JE.val (je_value v_all (je_var 7))) (ja_cons (JE.val (je_value v_all (je_var 8))) ja_nil)))) (ja_cons (JE.val (je_lst (ja_cons (JE.val (je_str [120])) (ja_cons (JE.val (je_tup (ja_cons (JE.val je_int) (ja_cons (JE.val je_int) ja_nil)))) ja_nil)))) ja_nil)) (cConsA_len (cConsA_len (fun _ _ _ => cNilA_len)))))) (jw_or1 (jt_cmp (op_dIn hu5) sm_dIn je_bl (jc F__law_kinds tk (hr.mono (by decide)) (ja_cons (JE.val (je_var 7)) ja_nil) (cConsA_len (fun _ _ _ => cNilA_len))) (by first | exact nomark _ | with_unfolding_all rfl)))))
    (jss_one (js_ret je_bl))
    jss_nil)
    (jss_one (js_ret (je_and (je_isT "ValueError" (kt "ValueError") k_ValueError b_isinstance t_isinstance b_ValueError t_ValueError (je_var 7)) (je_one (je_isC (kt "FreeError") k_FreeError b_isinstance t_isinstance e_FreeError.2 (je_var 8))))))))))
end
abbrev sInit : Stmt := inClass (top 1) 0
theorem sc_init__ : FnScope ["self", "value"] ["self", "value"] (defScope sInit) := ⟨rfl, rfl, rfl, by decide +kernel, rfl, by decide +kernel, by decide +kernel⟩
theorem ok_init__ {P : Program} {w : World} {K : PySem.W.Frag} {mg : Str → Option Value} {base : Heap} {fI : Addr} {fd : FuncData} (b_ValueError : mg "ValueError" = none) (FD : FunD K "__init__" "FreeError.__init__" (defArgs sInit) (defBody sInit) (defScope sInit) [] [] fI fd) (vV : veB K = true) : FnOk P w K mg base (L2.CX P w) 1 fI fd ["self", "value"] (spI K) :=
  ok_init FD sc_init__ b_ValueError vV (fun _ _ _ _ _ _ => rfl) (fun _ _ _ _ _ _ => ⟨_, rfl⟩) (fun _ _ _ _ _ _ => by first | exact Or.inl rfl | exact Or.inr (Or.inl rfl) | exact Or.inr (Or.inr rfl)) (fun _ _ _ _ _ _ => by first | exact Or.inl rfl | exact Or.inr (Or.inl rfl) | exact Or.inr (Or.inr rfl))
/-! ### the head -/
def d__law_pot : He.DefD := ⟨("_law_pot", none), "_law_pot", "_law_pot", defArgs (top 22), defBody (top 22), defScope (top 22), [], []⟩
def d__law_take : He.DefD := ⟨("_law_take", none), "_law_take", "_law_take", defArgs (top 23), defBody (top 23), defScope (top 23), [], []⟩
def d__law_same : He.DefD := ⟨("_law_same", none), "_law_same", "_law_same", defArgs (top 24), defBody (top 24), defScope (top 24), [], []⟩
def d__law_raised : He.DefD := ⟨("_law_raised", none), "_law_raised", "_law_raised", defArgs (top 25), defBody (top 25), defScope (top 25), [], []⟩
def d__law_raised_next : He.DefD := ⟨("_law_raised_next", none), "_law_raised_next", "_law_raised_next", defArgs (top 26), defBody (top 26), defScope (top 26), [], []⟩
def d__law_kinds : He.DefD := ⟨("_law_kinds", none), "_law_kinds", "_law_kinds", defArgs (top 27), defBody (top 27), defScope (top 27), [], []⟩
def d__law_value : He.DefD := ⟨("_law_value", none), "_law_value", "_law_value", defArgs (top 28), defBody (top 28), defScope (top 28), [], []⟩
def d__law_caught : He.DefD := ⟨("_law_caught", none), "_law_caught", "_law_caught", defArgs (top 29), defBody (top 29), defScope (top 29), [], []⟩
def d_law : He.DefD := ⟨("law", none), "law", "law", defArgs (top 30), defBody (top 30), defScope (top 30), [], []⟩
def d_init__ : He.DefD := ⟨("FreeError", some "__init__"), "__init__", "FreeError.__init__", defArgs sInit, defBody sInit, defScope sInit, [], []⟩
def xcn : List Str := ["FreeError", "InvalidCommand", "InvalidGraph", "InvalidInteger", "InvalidMapping", "InvalidName", "InvalidPresentation", "InvalidRows", "InvalidSubgroup", "InvalidTable", "InvalidWord", "InvalidWords", "NotAutomorphism", "NotFinite", "NotIncluded", "NotNormal", "NotOneToOne", "NothingToUndo", "UnknownName", "Unreadable"]
def kys : List Str := ["FreeError", "InvalidCommand", "InvalidGraph", "InvalidInteger", "InvalidMapping", "InvalidName", "InvalidPresentation", "InvalidRows", "InvalidSubgroup", "InvalidTable", "InvalidWord", "InvalidWords", "NotAutomorphism", "NotFinite", "NotIncluded", "NotNormal", "NotOneToOne", "NothingToUndo", "UnknownName", "Unreadable"]
def xb (K : PySem.W.Frag) : Bool := (xcn.all fun c => exKB K c) && (veB K && (dB (PySem.W.typeIn K (.ref (He.ma K (He.ga K "FreeError") "__init__")) = some (.type "function")) && (dB (PySem.W.exmOne K (.ref (He.ga K "FreeError")) (.ref (He.ga K "FreeError")) = some true) && (dB (PySem.W.exmOne K (.ref (He.ga K "InvalidInteger")) (.ref (He.ga K "FreeError")) = some true) && (dB (PySem.W.exmOne K (.ref (He.ga K "InvalidWord")) (.ref (He.ga K "FreeError")) = some true) && (dB (PySem.W.exmOne K (.ref (He.ga K "InvalidWords")) (.ref (He.ga K "FreeError")) = some true) && (dB (PySem.W.exmOne K (.ref (He.ga K "InvalidRows")) (.ref (He.ga K "FreeError")) = some true) && (dB (PySem.W.exmOne K (.ref (He.ga K "InvalidGraph")) (.ref (He.ga K "FreeError")) = some true) && (dB (PySem.W.exmOne K (.ref (He.ga K "InvalidSubgroup")) (.ref (He.ga K "FreeError")) = some true) && (dB (PySem.W.exmOne K (.ref (He.ga K "InvalidMapping")) (.ref (He.ga K "FreeError")) = some true) && (dB (PySem.W.exmOne K (.ref (He.ga K "InvalidTable")) (.ref (He.ga K "FreeError")) = some true) && (dB (PySem.W.exmOne K (.ref (He.ga K "InvalidPresentation")) (.ref (He.ga K "FreeError")) = some true) && (dB (PySem.W.exmOne K (.ref (He.ga K "NotFinite")) (.ref (He.ga K "FreeError")) = some true) && (dB (PySem.W.exmOne K (.ref (He.ga K "NotIncluded")) (.ref (He.ga K "FreeError")) = some true) && (dB (PySem.W.exmOne K (.ref (He.ga K "NotOneToOne")) (.ref (He.ga K "FreeError")) = some true) && (dB (PySem.W.exmOne K (.ref (He.ga K "NotAutomorphism")) (.ref (He.ga K "FreeError")) = some true) && (dB (PySem.W.exmOne K (.ref (He.ga K "NotNormal")) (.ref (He.ga K "FreeError")) = some true) && (dB (PySem.W.exmOne K (.ref (He.ga K "InvalidName")) (.ref (He.ga K "FreeError")) = some true) && (dB (PySem.W.exmOne K (.ref (He.ga K "UnknownName")) (.ref (He.ga K "FreeError")) = some true) && (dB (PySem.W.exmOne K (.ref (He.ga K "NothingToUndo")) (.ref (He.ga K "FreeError")) = some true) && (dB (PySem.W.exmOne K (.ref (He.ga K "Unreadable")) (.ref (He.ga K "FreeError")) = some true) && (dB (PySem.W.exmOne K (.ref (He.ga K "InvalidCommand")) (.ref (He.ga K "FreeError")) = some true) && (excs.all (fun c => dB (PySem.W.kitOne K (.ref (He.ga K c)) (.type "ValueError") = some (isaB c "ValueError"))) && (kys.all fun y => excs.all fun c => dB (PySem.W.kitOne K (.ref (He.ga K c)) (.ref (He.ga K y)) = some (isaB c y))))))))))))))))))))))))))
def fn : List He.DefD := [d__law_pot, d__law_take, d__law_same, d__law_raised, d__law_raised_next, d__law_kinds, d__law_value, d__law_caught, d_law, d_init__]
def fa : List He.Fa := [.glo "_law_pot", .glo "_law_take", .glo "_law_same", .glo "_law_raised", .glo "_law_raised_next", .glo "_law_kinds", .glo "_law_value", .glo "_law_caught", .glo "law", .glo "FreeError", .glo "InvalidCommand", .glo "InvalidGraph", .glo "InvalidInteger", .glo "InvalidMapping", .glo "InvalidName", .glo "InvalidPresentation", .glo "InvalidRows", .glo "InvalidSubgroup", .glo "InvalidTable", .glo "InvalidWord", .glo "InvalidWords", .glo "NotAutomorphism", .glo "NotFinite", .glo "NotIncluded", .glo "NotNormal", .glo "NotOneToOne", .glo "NothingToUndo", .glo "UnknownName", .glo "Unreadable", .free "ValueError", .free "all", .free "bool", .free "int", .free "isinstance", .free "len", .free "list", .free "range", .free "str", .free "tuple"]
abbrev RR : PySem.W.OpenRow := PySem.W.OpenLaw.row PySem.Challenge.rw_wholefree_k00_errors
abbrev hk : PySem.W.Hook := PL.hookB 6 fa fn xb
def ob (s : PySem.W.SharedT) : He.AlD × Bool := PL.obsBG 6 fa fn xb (HandSHeadRun.getT s)
theorem ob_eq (s : PySem.W.SharedT) : ob s = hk.obs s.abs := PL.obsBG_eq (HandSHeadRun.getT_eq s)
theorem run (w : World) : HandSHeadRun.RunEq RR (PySem.W.view RR.prog [30]) hk ob 9000 ([("FreeError" : Str), ("InvalidInteger" : Str), ("InvalidWord" : Str), ("InvalidWords" : Str), ("InvalidRows" : Str), ("InvalidGraph" : Str), ("InvalidSubgroup" : Str), ("InvalidMapping" : Str), ("InvalidTable" : Str), ("InvalidPresentation" : Str), ("NotFinite" : Str), ("NotIncluded" : Str), ("NotOneToOne" : Str), ("NotAutomorphism" : Str), ("NotNormal" : Str), ("InvalidName" : Str), ("UnknownName" : Str), ("NothingToUndo" : Str), ("Unreadable" : Str), ("InvalidCommand" : Str), ("_law_pot" : Str), ("_law_take" : Str), ("_law_same" : Str), ("_law_raised" : Str), ("_law_raised_next" : Str), ("_law_kinds" : Str), ("_law_value" : Str), ("_law_caught" : Str)]) w := by
  intro os
  kernel_rfl
theorem facts {P : Program} {w : World} {K : PySem.W.Frag} {h : Heap} {mg : Str → Option Value} {f : Addr} (X : K.In h) (G : h.Ns mainGlobals mg) (hfa : mg ("law" : Str) = some (.ref f)) (c : He.SaysD fa fn K) (cx : xb K = true) :
    ∃ fd : FuncData, (∀ (s : Shared) (v : Value), BindsTo s fd ⟨[v], []⟩ [("script", v)]) ∧ ∀ base : Heap, FnOk P w K mg base (L2.CX P w) 9 f fd ["script"] (spOf K (noM 1) fn_law) := by
  obtain ⟨fd__law_pot, FD__law_pot⟩ := c.def_ 0 (d := d__law_pot) rfl
  obtain ⟨fd__law_take, FD__law_take⟩ := c.def_ 1 (d := d__law_take) rfl
  obtain ⟨fd__law_same, FD__law_same⟩ := c.def_ 2 (d := d__law_same) rfl
  obtain ⟨fd__law_raised, FD__law_raised⟩ := c.def_ 3 (d := d__law_raised) rfl
  obtain ⟨fd__law_raised_next, FD__law_raised_next⟩ := c.def_ 4 (d := d__law_raised_next) rfl
  obtain ⟨fd__law_kinds, FD__law_kinds⟩ := c.def_ 5 (d := d__law_kinds) rfl
  obtain ⟨fd__law_value, FD__law_value⟩ := c.def_ 6 (d := d__law_value) rfl
  obtain ⟨fd__law_caught, FD__law_caught⟩ := c.def_ 7 (d := d__law_caught) rfl
  obtain ⟨fd_law, FD_law⟩ := c.def_ 8 (d := d_law) rfl
  have b_ValueError : mg "ValueError" = none := He.free_ok X G (c.fact 29 (f := .free "ValueError") rfl)
  have b_all : mg "all" = none := He.free_ok X G (c.fact 30 (f := .free "all") rfl)
  have b_bool : mg "bool" = none := He.free_ok X G (c.fact 31 (f := .free "bool") rfl)
  have b_int : mg "int" = none := He.free_ok X G (c.fact 32 (f := .free "int") rfl)
  have b_isinstance : mg "isinstance" = none := He.free_ok X G (c.fact 33 (f := .free "isinstance") rfl)
  have b_len : mg "len" = none := He.free_ok X G (c.fact 34 (f := .free "len") rfl)
  have b_list : mg "list" = none := He.free_ok X G (c.fact 35 (f := .free "list") rfl)
  have b_range : mg "range" = none := He.free_ok X G (c.fact 36 (f := .free "range") rfl)
  have b_str : mg "str" = none := He.free_ok X G (c.fact 37 (f := .free "str") rfl)
  have b_tuple : mg "tuple" = none := He.free_ok X G (c.fact 38 (f := .free "tuple") rfl)
  have e := hfa.symm.trans (He.glo_ok X G (c.fact 8 (f := .glo "law") rfl))
  cases e
  have bb := FunD.bindsA (ps := ["script"]) FD_law fun _ _ _ _ _ _ us hl => match us, hl with | [_], _ => rfl
  refine ⟨fd_law, fun s v => bb s [v] rfl, fun base => ?_⟩
  obtain ⟨x1, cx⟩ := He.ba cx
  obtain ⟨x2, cx⟩ := He.ba cx
  obtain ⟨x3, cx⟩ := He.ba cx
  have v_all : ∀ c ∈ excs, ExK K c := fun c hc => exKB_ok (List.all_eq_true.mp x1 c (by revert c; decide +kernel))
  have e_FreeError : ExK K "FreeError" ∧ mg "FreeError" = some (.ref (He.ga K "FreeError")) := ⟨exKB_ok (List.all_eq_true.mp x1 "FreeError" (by decide +kernel)), He.glo_ok X G (c.fact 9 (f := .glo "FreeError") rfl)⟩
  have e_InvalidCommand : ExK K "InvalidCommand" ∧ mg "InvalidCommand" = some (.ref (He.ga K "InvalidCommand")) := ⟨exKB_ok (List.all_eq_true.mp x1 "InvalidCommand" (by decide +kernel)), He.glo_ok X G (c.fact 10 (f := .glo "InvalidCommand") rfl)⟩
  have e_InvalidGraph : ExK K "InvalidGraph" ∧ mg "InvalidGraph" = some (.ref (He.ga K "InvalidGraph")) := ⟨exKB_ok (List.all_eq_true.mp x1 "InvalidGraph" (by decide +kernel)), He.glo_ok X G (c.fact 11 (f := .glo "InvalidGraph") rfl)⟩
  have e_InvalidInteger : ExK K "InvalidInteger" ∧ mg "InvalidInteger" = some (.ref (He.ga K "InvalidInteger")) := ⟨exKB_ok (List.all_eq_true.mp x1 "InvalidInteger" (by decide +kernel)), He.glo_ok X G (c.fact 12 (f := .glo "InvalidInteger") rfl)⟩
  have e_InvalidMapping : ExK K "InvalidMapping" ∧ mg "InvalidMapping" = some (.ref (He.ga K "InvalidMapping")) := ⟨exKB_ok (List.all_eq_true.mp x1 "InvalidMapping" (by decide +kernel)), He.glo_ok X G (c.fact 13 (f := .glo "InvalidMapping") rfl)⟩
  have e_InvalidName : ExK K "InvalidName" ∧ mg "InvalidName" = some (.ref (He.ga K "InvalidName")) := ⟨exKB_ok (List.all_eq_true.mp x1 "InvalidName" (by decide +kernel)), He.glo_ok X G (c.fact 14 (f := .glo "InvalidName") rfl)⟩
  have e_InvalidPresentation : ExK K "InvalidPresentation" ∧ mg "InvalidPresentation" = some (.ref (He.ga K "InvalidPresentation")) := ⟨exKB_ok (List.all_eq_true.mp x1 "InvalidPresentation" (by decide +kernel)), He.glo_ok X G (c.fact 15 (f := .glo "InvalidPresentation") rfl)⟩
  have e_InvalidRows : ExK K "InvalidRows" ∧ mg "InvalidRows" = some (.ref (He.ga K "InvalidRows")) := ⟨exKB_ok (List.all_eq_true.mp x1 "InvalidRows" (by decide +kernel)), He.glo_ok X G (c.fact 16 (f := .glo "InvalidRows") rfl)⟩
  have e_InvalidSubgroup : ExK K "InvalidSubgroup" ∧ mg "InvalidSubgroup" = some (.ref (He.ga K "InvalidSubgroup")) := ⟨exKB_ok (List.all_eq_true.mp x1 "InvalidSubgroup" (by decide +kernel)), He.glo_ok X G (c.fact 17 (f := .glo "InvalidSubgroup") rfl)⟩
  have e_InvalidTable : ExK K "InvalidTable" ∧ mg "InvalidTable" = some (.ref (He.ga K "InvalidTable")) := ⟨exKB_ok (List.all_eq_true.mp x1 "InvalidTable" (by decide +kernel)), He.glo_ok X G (c.fact 18 (f := .glo "InvalidTable") rfl)⟩
  have e_InvalidWord : ExK K "InvalidWord" ∧ mg "InvalidWord" = some (.ref (He.ga K "InvalidWord")) := ⟨exKB_ok (List.all_eq_true.mp x1 "InvalidWord" (by decide +kernel)), He.glo_ok X G (c.fact 19 (f := .glo "InvalidWord") rfl)⟩
  have e_InvalidWords : ExK K "InvalidWords" ∧ mg "InvalidWords" = some (.ref (He.ga K "InvalidWords")) := ⟨exKB_ok (List.all_eq_true.mp x1 "InvalidWords" (by decide +kernel)), He.glo_ok X G (c.fact 20 (f := .glo "InvalidWords") rfl)⟩
  have e_NotAutomorphism : ExK K "NotAutomorphism" ∧ mg "NotAutomorphism" = some (.ref (He.ga K "NotAutomorphism")) := ⟨exKB_ok (List.all_eq_true.mp x1 "NotAutomorphism" (by decide +kernel)), He.glo_ok X G (c.fact 21 (f := .glo "NotAutomorphism") rfl)⟩
  have e_NotFinite : ExK K "NotFinite" ∧ mg "NotFinite" = some (.ref (He.ga K "NotFinite")) := ⟨exKB_ok (List.all_eq_true.mp x1 "NotFinite" (by decide +kernel)), He.glo_ok X G (c.fact 22 (f := .glo "NotFinite") rfl)⟩
  have e_NotIncluded : ExK K "NotIncluded" ∧ mg "NotIncluded" = some (.ref (He.ga K "NotIncluded")) := ⟨exKB_ok (List.all_eq_true.mp x1 "NotIncluded" (by decide +kernel)), He.glo_ok X G (c.fact 23 (f := .glo "NotIncluded") rfl)⟩
  have e_NotNormal : ExK K "NotNormal" ∧ mg "NotNormal" = some (.ref (He.ga K "NotNormal")) := ⟨exKB_ok (List.all_eq_true.mp x1 "NotNormal" (by decide +kernel)), He.glo_ok X G (c.fact 24 (f := .glo "NotNormal") rfl)⟩
  have e_NotOneToOne : ExK K "NotOneToOne" ∧ mg "NotOneToOne" = some (.ref (He.ga K "NotOneToOne")) := ⟨exKB_ok (List.all_eq_true.mp x1 "NotOneToOne" (by decide +kernel)), He.glo_ok X G (c.fact 25 (f := .glo "NotOneToOne") rfl)⟩
  have e_NothingToUndo : ExK K "NothingToUndo" ∧ mg "NothingToUndo" = some (.ref (He.ga K "NothingToUndo")) := ⟨exKB_ok (List.all_eq_true.mp x1 "NothingToUndo" (by decide +kernel)), He.glo_ok X G (c.fact 26 (f := .glo "NothingToUndo") rfl)⟩
  have e_UnknownName : ExK K "UnknownName" ∧ mg "UnknownName" = some (.ref (He.ga K "UnknownName")) := ⟨exKB_ok (List.all_eq_true.mp x1 "UnknownName" (by decide +kernel)), He.glo_ok X G (c.fact 27 (f := .glo "UnknownName") rfl)⟩
  have e_Unreadable : ExK K "Unreadable" ∧ mg "Unreadable" = some (.ref (He.ga K "Unreadable")) := ⟨exKB_ok (List.all_eq_true.mp x1 "Unreadable" (by decide +kernel)), He.glo_ok X G (c.fact 28 (f := .glo "Unreadable") rfl)⟩
  obtain ⟨fd_init__, FD_init__⟩ := c.def_ 9 (d := d_init__) rfl
  have i_nit : IniW P w K mg base := ⟨⟨fd_init__, ok_init__ b_ValueError FD_init__ x2, binds_of (FunD.bindsA (ps := ["self", "value"]) FD_init__ fun _ _ _ _ _ _ us hl => match us, hl with | [_, _], _ => rfl), FunD.kb FD_init__ (fun _ _ _ _ _ _ us ws h1 h2 => match us, ws, h1, h2 with | [_], [_], _, _ => rfl)⟩, of_decide_eq_true x3⟩
  obtain ⟨m_FreeError_FreeError, cx⟩ := He.ba cx
  obtain ⟨m_FreeError_InvalidInteger, cx⟩ := He.ba cx
  obtain ⟨m_FreeError_InvalidWord, cx⟩ := He.ba cx
  obtain ⟨m_FreeError_InvalidWords, cx⟩ := He.ba cx
  obtain ⟨m_FreeError_InvalidRows, cx⟩ := He.ba cx
  obtain ⟨m_FreeError_InvalidGraph, cx⟩ := He.ba cx
  obtain ⟨m_FreeError_InvalidSubgroup, cx⟩ := He.ba cx
  obtain ⟨m_FreeError_InvalidMapping, cx⟩ := He.ba cx
  obtain ⟨m_FreeError_InvalidTable, cx⟩ := He.ba cx
  obtain ⟨m_FreeError_InvalidPresentation, cx⟩ := He.ba cx
  obtain ⟨m_FreeError_NotFinite, cx⟩ := He.ba cx
  obtain ⟨m_FreeError_NotIncluded, cx⟩ := He.ba cx
  obtain ⟨m_FreeError_NotOneToOne, cx⟩ := He.ba cx
  obtain ⟨m_FreeError_NotAutomorphism, cx⟩ := He.ba cx
  obtain ⟨m_FreeError_NotNormal, cx⟩ := He.ba cx
  obtain ⟨m_FreeError_InvalidName, cx⟩ := He.ba cx
  obtain ⟨m_FreeError_UnknownName, cx⟩ := He.ba cx
  obtain ⟨m_FreeError_NothingToUndo, cx⟩ := He.ba cx
  obtain ⟨m_FreeError_Unreadable, cx⟩ := He.ba cx
  obtain ⟨m_FreeError_InvalidCommand, cx⟩ := He.ba cx
  have x_FreeError : ∀ c b, tx_FreeError c = some b → PySem.W.exmOne K (.ref (He.ga K c)) (.ref (He.ga K "FreeError")) = some b := by
    intro c b h
    unfold tx_FreeError at h
    by_cases q0 : c = "FreeError"
    · subst q0; rw [if_pos rfl] at h; cases h; exact of_decide_eq_true m_FreeError_FreeError
    rw [if_neg q0] at h
    by_cases q1 : c = "InvalidInteger"
    · subst q1; rw [if_pos rfl] at h; cases h; exact of_decide_eq_true m_FreeError_InvalidInteger
    rw [if_neg q1] at h
    by_cases q2 : c = "InvalidWord"
    · subst q2; rw [if_pos rfl] at h; cases h; exact of_decide_eq_true m_FreeError_InvalidWord
    rw [if_neg q2] at h
    by_cases q3 : c = "InvalidWords"
    · subst q3; rw [if_pos rfl] at h; cases h; exact of_decide_eq_true m_FreeError_InvalidWords
    rw [if_neg q3] at h
    by_cases q4 : c = "InvalidRows"
    · subst q4; rw [if_pos rfl] at h; cases h; exact of_decide_eq_true m_FreeError_InvalidRows
    rw [if_neg q4] at h
    by_cases q5 : c = "InvalidGraph"
    · subst q5; rw [if_pos rfl] at h; cases h; exact of_decide_eq_true m_FreeError_InvalidGraph
    rw [if_neg q5] at h
    by_cases q6 : c = "InvalidSubgroup"
    · subst q6; rw [if_pos rfl] at h; cases h; exact of_decide_eq_true m_FreeError_InvalidSubgroup
    rw [if_neg q6] at h
    by_cases q7 : c = "InvalidMapping"
    · subst q7; rw [if_pos rfl] at h; cases h; exact of_decide_eq_true m_FreeError_InvalidMapping
    rw [if_neg q7] at h
    by_cases q8 : c = "InvalidTable"
    · subst q8; rw [if_pos rfl] at h; cases h; exact of_decide_eq_true m_FreeError_InvalidTable
    rw [if_neg q8] at h
    by_cases q9 : c = "InvalidPresentation"
    · subst q9; rw [if_pos rfl] at h; cases h; exact of_decide_eq_true m_FreeError_InvalidPresentation
    rw [if_neg q9] at h
    by_cases q10 : c = "NotFinite"
    · subst q10; rw [if_pos rfl] at h; cases h; exact of_decide_eq_true m_FreeError_NotFinite
    rw [if_neg q10] at h
    by_cases q11 : c = "NotIncluded"
    · subst q11; rw [if_pos rfl] at h; cases h; exact of_decide_eq_true m_FreeError_NotIncluded
    rw [if_neg q11] at h
    by_cases q12 : c = "NotOneToOne"
    · subst q12; rw [if_pos rfl] at h; cases h; exact of_decide_eq_true m_FreeError_NotOneToOne
    rw [if_neg q12] at h
    by_cases q13 : c = "NotAutomorphism"
    · subst q13; rw [if_pos rfl] at h; cases h; exact of_decide_eq_true m_FreeError_NotAutomorphism
    rw [if_neg q13] at h
    by_cases q14 : c = "NotNormal"
    · subst q14; rw [if_pos rfl] at h; cases h; exact of_decide_eq_true m_FreeError_NotNormal
    rw [if_neg q14] at h
    by_cases q15 : c = "InvalidName"
    · subst q15; rw [if_pos rfl] at h; cases h; exact of_decide_eq_true m_FreeError_InvalidName
    rw [if_neg q15] at h
    by_cases q16 : c = "UnknownName"
    · subst q16; rw [if_pos rfl] at h; cases h; exact of_decide_eq_true m_FreeError_UnknownName
    rw [if_neg q16] at h
    by_cases q17 : c = "NothingToUndo"
    · subst q17; rw [if_pos rfl] at h; cases h; exact of_decide_eq_true m_FreeError_NothingToUndo
    rw [if_neg q17] at h
    by_cases q18 : c = "Unreadable"
    · subst q18; rw [if_pos rfl] at h; cases h; exact of_decide_eq_true m_FreeError_Unreadable
    rw [if_neg q18] at h
    by_cases q19 : c = "InvalidCommand"
    · subst q19; rw [if_pos rfl] at h; cases h; exact of_decide_eq_true m_FreeError_InvalidCommand
    rw [if_neg q19] at h
    cases h
  obtain ⟨kVE, cx⟩ := He.ba cx
  have k_ValueError : ∀ z b, kt "ValueError" z = some b → ExK K z ∧ PySem.W.kitOne K (.ref (He.ga K z)) (.type "ValueError") = some b := fun z b h => by
    unfold kt at h
    by_cases m : z ∈ excs
    · rw [if_pos m] at h; cases h; exact ⟨v_all z m, of_decide_eq_true (List.all_eq_true.mp kVE z m)⟩
    · rw [if_neg m] at h; cases h
  have k_all : ∀ y ∈ kys, ∀ z b, kt y z = some b → ExK K z ∧ PySem.W.kitOne K (.ref (He.ga K z)) (.ref (He.ga K y)) = some b := fun y hy z b h => by
    unfold kt at h
    by_cases m : z ∈ excs
    · rw [if_pos m] at h; cases h; exact ⟨v_all z m, of_decide_eq_true (List.all_eq_true.mp (List.all_eq_true.mp cx y hy) z m)⟩
    · rw [if_neg m] at h; cases h
  have k_FreeError := k_all "FreeError" (by decide +kernel)
  have k_InvalidCommand := k_all "InvalidCommand" (by decide +kernel)
  have k_InvalidGraph := k_all "InvalidGraph" (by decide +kernel)
  have k_InvalidInteger := k_all "InvalidInteger" (by decide +kernel)
  have k_InvalidMapping := k_all "InvalidMapping" (by decide +kernel)
  have k_InvalidName := k_all "InvalidName" (by decide +kernel)
  have k_InvalidPresentation := k_all "InvalidPresentation" (by decide +kernel)
  have k_InvalidRows := k_all "InvalidRows" (by decide +kernel)
  have k_InvalidSubgroup := k_all "InvalidSubgroup" (by decide +kernel)
  have k_InvalidTable := k_all "InvalidTable" (by decide +kernel)
  have k_InvalidWord := k_all "InvalidWord" (by decide +kernel)
  have k_InvalidWords := k_all "InvalidWords" (by decide +kernel)
  have k_NotAutomorphism := k_all "NotAutomorphism" (by decide +kernel)
  have k_NotFinite := k_all "NotFinite" (by decide +kernel)
  have k_NotIncluded := k_all "NotIncluded" (by decide +kernel)
  have k_NotNormal := k_all "NotNormal" (by decide +kernel)
  have k_NotOneToOne := k_all "NotOneToOne" (by decide +kernel)
  have k_NothingToUndo := k_all "NothingToUndo" (by decide +kernel)
  have k_UnknownName := k_all "UnknownName" (by decide +kernel)
  have k_Unreadable := k_all "Unreadable" (by decide +kernel)
  have F__law_pot := ok__law_pot (P := P) (w := w) (K := K) (mg := mg) (base := base) b_list FD__law_pot (He.glo_ok X G (c.fact 0 (f := .glo "_law_pot") rfl))
  have F__law_take := ok__law_take (P := P) (w := w) (K := K) (mg := mg) (base := base) b_int b_len FD__law_take (He.glo_ok X G (c.fact 1 (f := .glo "_law_take") rfl))
  have F__law_same := ok__law_same (P := P) (w := w) (K := K) (mg := mg) (base := base) b_all b_bool b_int b_isinstance b_len b_list b_range b_str b_tuple FD__law_same (He.glo_ok X G (c.fact 2 (f := .glo "_law_same") rfl)) 6
  have F__law_raised := ok__law_raised (P := P) (w := w) (K := K) (mg := mg) (base := base) e_InvalidGraph e_InvalidInteger e_InvalidMapping e_InvalidPresentation e_InvalidRows e_InvalidSubgroup e_InvalidTable e_InvalidWord e_InvalidWords e_NotFinite i_nit FD__law_raised (He.glo_ok X G (c.fact 3 (f := .glo "_law_raised") rfl))
  have F__law_raised_next := ok__law_raised_next (P := P) (w := w) (K := K) (mg := mg) (base := base) e_InvalidCommand e_InvalidName e_NotAutomorphism e_NotIncluded e_NotNormal e_NotOneToOne e_NothingToUndo e_UnknownName e_Unreadable i_nit FD__law_raised_next (He.glo_ok X G (c.fact 4 (f := .glo "_law_raised_next") rfl))
  have F__law_kinds := ok__law_kinds (P := P) (w := w) (K := K) (mg := mg) (base := base) b_isinstance e_InvalidCommand e_InvalidGraph e_InvalidInteger e_InvalidMapping e_InvalidName e_InvalidPresentation e_InvalidRows e_InvalidSubgroup e_InvalidTable e_InvalidWord e_InvalidWords e_NotAutomorphism e_NotFinite e_NotIncluded e_NotNormal e_NotOneToOne e_NothingToUndo e_UnknownName e_Unreadable k_InvalidCommand k_InvalidGraph k_InvalidInteger k_InvalidMapping k_InvalidName k_InvalidPresentation k_InvalidRows k_InvalidSubgroup k_InvalidTable k_InvalidWord k_InvalidWords k_NotAutomorphism k_NotFinite k_NotIncluded k_NotNormal k_NotOneToOne k_NothingToUndo k_UnknownName k_Unreadable FD__law_kinds (He.glo_ok X G (c.fact 5 (f := .glo "_law_kinds") rfl))
  have F__law_value := ok__law_value (P := P) (w := w) (K := K) (mg := mg) (base := base) b_len F__law_take FD__law_value (He.glo_ok X G (c.fact 6 (f := .glo "_law_value") rfl))
  have F__law_caught := ok__law_caught (P := P) (w := w) (K := K) (mg := mg) (base := base) e_FreeError F__law_raised F__law_raised_next x_FreeError FD__law_caught (He.glo_ok X G (c.fact 7 (f := .glo "_law_caught") rfl))
  have F_law := ok_law (P := P) (w := w) (K := K) (mg := mg) (base := base) b_ValueError b_isinstance b_range e_FreeError F__law_caught F__law_kinds F__law_pot F__law_same F__law_take F__law_value i_nit k_FreeError k_ValueError v_all FD_law (He.glo_ok X G (c.fact 8 (f := .glo "law") rfl))
  obtain ⟨f, fd, FD, hm, FO, _⟩ := F_law.ex
  have e1 := hfa.symm.trans hm
  cases e1
  have e2 := FD_law.same FD
  subst e2
  exact FO
end LK
open PySem PySem.W PySem.Calls PyProof.Rows in
theorem LK.holds (main : ∀ ns : List Int, ns.length ≤ 63 → LK.fn_law [.scr (ns.map .int)] = .ret (.vl (.bl true)) []) : PySem.Challenge.rw_wholefree_k00_errors.Holds := by
  w_on; o_law
  refine HandSHeadRun.head_any (r := OpenLaw.row PySem.Challenge.rw_wholefree_k00_errors) (q := view (OpenLaw.row PySem.Challenge.rw_wholefree_k00_errors).prog [30]) (H := LK.hk) (ob := LK.ob) (M := 9000) (loose := [("FreeError" : Str), ("InvalidInteger" : Str), ("InvalidWord" : Str), ("InvalidWords" : Str), ("InvalidRows" : Str), ("InvalidGraph" : Str), ("InvalidSubgroup" : Str), ("InvalidMapping" : Str), ("InvalidTable" : Str), ("InvalidPresentation" : Str), ("NotFinite" : Str), ("NotIncluded" : Str), ("NotOneToOne" : Str), ("NotAutomorphism" : Str), ("NotNormal" : Str), ("InvalidName" : Str), ("UnknownName" : Str), ("NothingToUndo" : Str), ("Unreadable" : Str), ("InvalidCommand" : Str), ("_law_pot" : Str), ("_law_take" : Str), ("_law_same" : Str), ("_law_raised" : Str), ("_law_raised_next" : Str), ("_law_kinds" : Str), ("_law_value" : Str), ("_law_caught" : Str)]) (d := HandSHeadRun.topDef (OpenLaw.row PySem.Challenge.rw_wholefree_k00_errors).prog 30) (kwd := []) LK.ob_eq
    (by kernel_rfl) (fun s => by kernel_rfl) LK.run (by kernel_rfl) (by kernel_rfl) (by kernel_rfl) (by rfl) (by first | assumption | decide +kernel) (by decide +kernel) ⟨rfl, rfl, rfl, rfl, rfl, by decide +kernel⟩ ?hw ?hc
  case hw => w_witness2
  case hc =>
    refine L2.walk_ofE (l := PySem.Challenge.rw_wholefree_k00_errors) (n := 63) (k := 9) (x := "script") (CX := PL.CXw (PySem.Challenge.rw_wholefree_k00_errors).prog) rfl (by decide) (by kernel_rfl) ⟨rfl, by decide, by decide⟩ ?F PL.CXw.none
    intro w mg fa h Y G hmg0
    obtain ⟨K, KX, c, cx⟩ := Y
    have hmg : mg ("law" : PySem.Str) = some (.ref fa) := by
      have e : (HandSHeadRun.topDef (OpenLaw.row PySem.Challenge.rw_wholefree_k00_errors).prog 30).name = ("law" : PySem.Str) := by kernel_rfl
      rw [← e]
      exact hmg0
    obtain ⟨fd, hb, hF⟩ := LK.facts (P := (PySem.Challenge.rw_wholefree_k00_errors).prog) (w := w) KX G hmg c cx
    exact ⟨K, fd, PL.spOf K (PL.noM 1) LK.fn_law, KX, hb, PL.law_sp main, fun base _ _ => PL.FnOk.any (hF base)⟩
namespace LK
open PySem PySem.Spec L2 PL
theorem ixC {n k : Nat} (h : k < n) : ixN n (k : Int) = some k := by
  unfold ixN
  rw [if_pos (by omega), if_pos (by omega)]
  simp
section
variable {α : Type} {x0 x1 x2 x3 : α} {xs : List α}
theorem ix4_0 : ixN (x0 :: x1 :: x2 :: x3 :: xs).length 0 = some 0 := ixC (k := 0) (by simp)
theorem ix4_1 : ixN (x0 :: x1 :: x2 :: x3 :: xs).length 1 = some 1 := ixC (k := 1) (by simp)
theorem ix4_2 : ixN (x0 :: x1 :: x2 :: x3 :: xs).length 2 = some 2 := ixC (k := 2) (by simp)
theorem ix4_3 : ixN (x0 :: x1 :: x2 :: x3 :: xs).length 3 = some 3 := ixC (k := 3) (by simp)
theorem at4_0 : atI (x0 :: x1 :: x2 :: x3 :: xs) 0 = some x0 := by unfold atI; rw [ix4_0]; rfl
theorem at4_1 : atI (x0 :: x1 :: x2 :: x3 :: xs) 1 = some x1 := by unfold atI; rw [ix4_1]; rfl
theorem at4_2 : atI (x0 :: x1 :: x2 :: x3 :: xs) 2 = some x2 := by unfold atI; rw [ix4_2]; rfl
theorem at4_3 : atI (x0 :: x1 :: x2 :: x3 :: xs) 3 = some x3 := by unfold atI; rw [ix4_3]; rfl
end
section
variable {x0 x1 x2 x3 z : D} {xs : List D} {ρ : Ev}
theorem get4 {k : Int} : getAt 0 (.vl (.int k)) (.ow (.lst xs) :: ρ) = atI xs k := rfl
theorem put4_0 : PL.putAt 0 z (.vl (.int 0)) (.ow (.lst (x0 :: x1 :: x2 :: x3 :: xs)) :: ρ) = some (.ow (.lst (z :: x1 :: x2 :: x3 :: xs)) :: ρ) := by
  show (ixN (x0 :: x1 :: x2 :: x3 :: xs).length 0).map _ = _
  rw [ix4_0]; rfl
theorem put4_1 : PL.putAt 0 z (.vl (.int 1)) (.ow (.lst (x0 :: x1 :: x2 :: x3 :: xs)) :: ρ) = some (.ow (.lst (x0 :: z :: x2 :: x3 :: xs)) :: ρ) := by
  show (ixN (x0 :: x1 :: x2 :: x3 :: xs).length 1).map _ = _
  rw [ix4_1]; rfl
theorem put4_2 : PL.putAt 0 z (.vl (.int 2)) (.ow (.lst (x0 :: x1 :: x2 :: x3 :: xs)) :: ρ) = some (.ow (.lst (x0 :: x1 :: z :: x3 :: xs)) :: ρ) := by
  show (ixN (x0 :: x1 :: x2 :: x3 :: xs).length 2).map _ = _
  rw [ix4_2]; rfl
theorem put4_3 : PL.putAt 0 z (.vl (.int 3)) (.ow (.lst (x0 :: x1 :: x2 :: x3 :: xs)) :: ρ) = some (.ow (.lst (x0 :: x1 :: x2 :: z :: xs)) :: ρ) := by
  show (ixN (x0 :: x1 :: x2 :: x3 :: xs).length 3).map _ = _
  rw [ix4_3]; rfl
theorem ix_l {k : Int} : dIdx (.lst xs) (.int k) = (atI xs k).map .vl := rfl
end
def potD (ns : List Int) (a b c d : Int) : D := .lst (.int a :: .int b :: .int c :: .int d :: ns.map .int)
theorem take_end (ns : List Int) (a b c d many : Int) (x2 x3 x4 : Cell) (hm : 0 < many) (hm2 : many < 2 ^ 30) (ha : 0 ≤ a) (hb : 0 ≤ b) (hb2 : b < 2 ^ 61) (hc : 0 ≤ c) (hc2 : c + 1 < 2 ^ 40) :
    ∃ (v a' b' c' : Int) (o : Opd) (x5 x6 : Cell), 0 ≤ v ∧ v < many ∧ 0 ≤ a' ∧ 0 ≤ b' ∧ b' < 2 ^ 61 ∧ 0 ≤ c' ∧ c' ≤ c + 1 ∧ b__law_take_1 [.ow (potD ns a b c d), .fz (.int many), x2, x3, x4] = .ret o [.ow (potD ns a' b' c' d), .fz (.int many), x2, x5, x6] ∧ o = .vl (.int v) := by
  have hm3 : many < 1073741824 := by omega
  by_cases h : 0 < a
  · refine ⟨a % many, a / many, b, c, .vl (.int (a % many)), .fz (.int (a % many)), x4, Int.emod_nonneg _ (by omega), Int.emod_lt_of_pos _ hm, Int.ediv_nonneg ha (by omega), hb, hb2, hc, by omega, ?_, rfl⟩
    simp [b__law_take_1, potD, e_var, u_pl, get4, put4_0, put4_1, put4_2, put4_3, ix_l, at4_0, at4_1, at4_2, at4_3, f1, f2, e_tru, fz_pl, dIAdd, orO, dII, dSS, yes2, cSetIx, e_setp, dGtA, dGt, dMod, dInt, dDiv, h, hm, hm3]
  · have e : a = 0 := by omega
    subst e
    have p0 := Int.emod_nonneg ((b + 6291469 * (c + 1)) ^ 3) (b := 2305843009213693951) (by omega)
    have p1 := Int.emod_lt_of_pos ((b + 6291469 * (c + 1)) ^ 3) (b := 2305843009213693951) (by omega)
    refine ⟨(((b + 6291469 * (c + 1)) ^ 3 % 2305843009213693951 + 97 * (c + 1)) ^ 2 % 1000000000000000003 / 64) % many, 0, b, c + 1, _, x3, .fz (.int (((b + 6291469 * (c + 1)) ^ 3 % 2305843009213693951 + 97 * (c + 1)) ^ 2 % 1000000000000000003)), Int.emod_nonneg _ (by omega), Int.emod_lt_of_pos _ hm, by omega, hb, hb2, by omega, by omega, ?_, rfl⟩
    have m1 : mulOk 6291469 (c + 1) = true := by unfold mulOk; simp
    have m2 : mulOk 97 (c + 1) = true := by unfold mulOk; simp
    have m3 : powOk (b + 6291469 * (c + 1)) 3 = true := by unfold powOk; simp; omega
    have m4 : powOk ((b + 6291469 * (c + 1)) ^ 3 % 2305843009213693951 + 97 * (c + 1)) 2 = true := by unfold powOk; simp; omega
    simp [b__law_take_1, b__law_take_2, b__law_take_3, b__law_take_4, b__law_take_5, potD, cAugIx, e_var, u_pl, get4, put4_0, put4_1, put4_2, put4_3, ix_l, at4_0, at4_1, at4_2, at4_3, f1, f2, e_tru, fz_pl, dIAdd, orO, dII, dSS, yes2, cSetIx, e_setp, dGtA, dGt, dMod, dInt, dDiv, dMul, dAdd, dPow, m1, m2, m3, m4, hm]
/-- the state of the draws, with room for n more -/
def Pot (ns : List Int) (n : Nat) (o : D) : Prop := ∃ a b c d : Int, o = potD ns a b c d ∧ 0 ≤ a ∧ 0 ≤ b ∧ b < 2 ^ 61 ∧ 0 ≤ c ∧ c + n < 2 ^ 40 ∧ 4 ≤ d ∧ d ≤ ns.length + 4
theorem Pot.mono {ns : List Int} {n m : Nat} {o : D} (h : Pot ns n o) (hm : m ≤ n) : Pot ns m o := by
  obtain ⟨a, b, c, d, rfl, h1, h2, h3, h4, h5, h6⟩ := h
  exact ⟨a, b, c, d, rfl, h1, h2, h3, h4, by omega, h6⟩
theorem take_ok {ns : List Int} {n : Nat} {o : D} {many : Int} (h : Pot ns (n + 1) o) (hl : ns.length ≤ 63) (hm : 0 < many) (hm2 : many < 2 ^ 30) :
    ∃ (v : Int) (o' : D), 0 ≤ v ∧ v < many ∧ Pot ns n o' ∧ fn__law_take [o, .int many] = .ret (.vl (.int v)) [o'] := by
  obtain ⟨a, b, c, d, rfl, ha, hb, hb2, hc, hc2, hd, hd2⟩ := h
  have go : ∀ (a b c d : Int) (x2 x3 x4 : Cell) (ds : List D), 0 ≤ a → 0 ≤ b → b < 2 ^ 61 → 0 ≤ c → c + (n + 1 : Nat) < 2 ^ 40 → 4 ≤ d → d ≤ ns.length + 4 → b__law_take (cellsM (true :: noM 1) ds ++ List.replicate 3 .un) = b__law_take_1 [.ow (potD ns a b c d), .fz (.int many), x2, x3, x4] →
      ∃ (v : Int) (o' : D), 0 ≤ v ∧ v < many ∧ Pot ns n o' ∧ fn__law_take ds = .ret (.vl (.int v)) [o'] := fun a b c d x2 x3 x4 ds ha hb hb2 hc hc2 hd hd2 e => by
    obtain ⟨v, a', b', c', o, x5, x6, h1, h2, h3, h4, h5, h6, h7, h8, h9⟩ := take_end ns a b c d many x2 x3 x4 hm hm2 ha hb hb2 hc (by omega)
    subst h9
    refine ⟨v, potD ns a' b' c' d, h1, h2, ⟨a', b', c', d, rfl, h3, h4, h5, h6, by omega, hd, hd2⟩, ?_⟩
    unfold fn__law_take runF
    rw [e, h8]
    rfl
  by_cases h0 : a = 0 ∧ d < ns.length + 4
  · obtain ⟨rfl, hdl⟩ := h0
    obtain ⟨m, rfl⟩ : ∃ m : Nat, d = (m : Int) + 4 := ⟨(d - 4).toNat, by omega⟩
    have hml : m < ns.length := by omega
    have hg : ns[m]? = some ns[m] := List.getElem?_eq_getElem hml
    have hat : atI (.int 0 :: .int b :: .int c :: .int ((m : Int) + 4) :: ns.map D.int) ((m : Int) + 4) = some (.int ns[m]) := by
      unfold atI ixN
      rw [if_pos (by omega), if_pos (by simp; omega)]
      show (D.int 0 :: .int b :: .int c :: .int ((m : Int) + 4) :: ns.map D.int)[((m : Int) + 4).toNat]? = _
      have : ((m : Int) + 4).toNat = m + 4 := by omega
      rw [this]
      simp [hg]
    have l1 : ((m : Int) + 4 < (ns.length : Int) + 1 + 1 + 1 + 1) := by omega
    by_cases hc18 : 1000000000000000000 ≤ ns[m]
    · refine go (ns[m] - 1000000000000000000) b c ((m : Int) + 4 + 1) (.fz (.int ns[m])) .un .un [potD ns 0 b c ((m : Int) + 4), .int many] (by omega) hb hb2 hc hc2 (by omega) (by omega) ?_
      simp [b__law_take, potD, cellsM, cAugIx, e_var, u_pl, get4, put4_0, put4_1, put4_2, put4_3, ix_l, at4_0, at4_1, at4_2, at4_3, f1, f2, e_tru, fz_pl, dIAdd, orO, dII, dSS, yes2, cSetIx, e_setp, dGtA, dGt, dMod, dInt, dDiv, dGeA, dGe, dLtA, dLt, dEq, dPow, powOk, dSub, dLen, hat, l1, hc18]
    · have m1 : mulOk (b + ns[m]) 12582917 = true := by unfold mulOk; simp
      have m2 : mulOk 389 ((m : Int) + 4 + 1) = true := by unfold mulOk; simp
      refine go 0 (((b + ns[m]) * 12582917 + 389 * ((m : Int) + 4 + 1)) % 2305843009213693951) c ((m : Int) + 4 + 1) (.fz (.int ns[m])) .un .un [potD ns 0 b c ((m : Int) + 4), .int many] (by omega) (Int.emod_nonneg _ (by omega)) (Int.lt_trans (Int.emod_lt_of_pos _ (by omega)) (by decide)) hc hc2 (by omega) (by omega) ?_
      simp [b__law_take, potD, cellsM, cAugIx, e_var, u_pl, get4, put4_0, put4_1, put4_2, put4_3, ix_l, at4_0, at4_1, at4_2, at4_3, f1, f2, e_tru, fz_pl, dIAdd, orO, dII, dSS, yes2, cSetIx, e_setp, dGtA, dGt, dMod, dInt, dDiv, dGeA, dGe, dLtA, dLt, dEq, dPow, powOk, dSub, dLen, dMul, dAdd, hat, l1, hc18, m1, m2]
  · refine go a b c d .un .un .un [potD ns a b c d, .int many] ha hb hb2 hc hc2 hd hd2 ?_
    by_cases h1 : a = 0
    · subst h1
      have h2 : ¬ (d < (ns.length : Int) + 1 + 1 + 1 + 1) := fun z => h0 ⟨rfl, by omega⟩
      simp [b__law_take, potD, cellsM, cAugIx, e_var, u_pl, get4, put4_0, put4_1, put4_2, put4_3, ix_l, at4_0, at4_1, at4_2, at4_3, f1, f2, e_tru, fz_pl, dIAdd, orO, dII, dSS, yes2, cSetIx, e_setp, dGtA, dGt, dMod, dInt, dDiv, dGeA, dGe, dLtA, dLt, dEq, dLen, h2]
    · simp [b__law_take, potD, cellsM, cAugIx, e_var, u_pl, get4, put4_0, put4_1, put4_2, put4_3, ix_l, at4_0, at4_1, at4_2, at4_3, f1, f2, e_tru, fz_pl, dIAdd, orO, dII, dSS, yes2, cSetIx, e_setp, dGtA, dGt, dMod, dInt, dDiv, dGeA, dGe, dLtA, dLt, dEq, dLen, h1]
end LK
namespace LK
open PySem PySem.Spec L2 PL
/-! the values that are drawn -/
def VS : List D := [.non, .int 0, .int (-7), .bl true, .str [97, 98], .tup [], .tup [.int 1, .str [97]], .lst [.int 1, .lst [.int 2]], .str [], .int 1000000000000000000000000000000, .tup [.int 2, .int 1, .tup [.tup [.int 0, .str [97], .int 0]]], .bl false, .lst [.str [97]], .tup [.tup []]]
theorem value_run (o : D) : ∃ f : CSt, b__law_value = cSeq f b__law_value_1 ∧ f [.ow o, .un] = .nx [.ow o, .ow (.lst VS)] := ⟨_, rfl, by kernel_rfl⟩
theorem value_ok {ns : List Int} {n : Nat} {o : D} (hl : ns.length ≤ 63) (h : Pot ns (n + 1) o) : ∃ v o', v ∈ VS ∧ Pot ns n o' ∧ fn__law_value [o] = .ret (.vl v) [o'] := by
  obtain ⟨k, o', k0, k1, hp, e⟩ := take_ok (many := 14) h hl (by omega) (by omega)
  obtain ⟨m, rfl⟩ : ∃ m : Nat, k = (m : Int) := ⟨k.toNat, by omega⟩
  have hm : m < VS.length := by show m < 14; omega
  have g : dIdx (.lst VS) (.int (m : Nat)) = some (.vl VS[m]) := by
    show (atI VS (m : Nat)).map Opd.vl = _
    unfold atI
    rw [ixC hm]
    show (VS[m]?).map Opd.vl = _
    rw [List.getElem?_eq_getElem hm]; rfl
  obtain ⟨f, e1, e2⟩ := value_run o
  refine ⟨VS[m], o', List.getElem_mem hm, hp, ?_⟩
  refine evRun (ρ1 := [.ow o', .ow (.lst VS)]) (bb := b__law_value) ?_ rfl trivial
  rw [e1]
  exact evS e2 (evR (ev2 rfl (evCall1 rfl (evC (evV (ev1 rfl rfl rfl) rfl) rfl) rfl e trivial rfl) rfl rfl g))
/-! what _law_same says of them -/
theorem fm_nil {P : D → Prop} : ∀ w ∈ ([] : List D), P w := fun w h => by cases h
theorem fm_cons {P : D → Prop} {x : D} {l : List D} (h : P x) (t : ∀ w ∈ l, P w) : ∀ w ∈ x :: l, P w := fun w m => by
  rcases List.mem_cons.mp m with rfl | m
  · exact h
  · exact t w m
theorem sm_0 : ∀ w ∈ VS, fn__law_same 6 [.lst [.non, w], .lst [.non, w]] = .ret (.vl (.bl true)) [] := by
  unfold VS
  repeat' (first | exact fm_nil | refine fm_cons (by kernel_rfl) ?_)
theorem sm_1 : ∀ w ∈ VS, fn__law_same 6 [.lst [.int 0, w], .lst [.int 0, w]] = .ret (.vl (.bl true)) [] := by
  unfold VS
  repeat' (first | exact fm_nil | refine fm_cons (by kernel_rfl) ?_)
theorem sm_2 : ∀ w ∈ VS, fn__law_same 6 [.lst [.int (-7), w], .lst [.int (-7), w]] = .ret (.vl (.bl true)) [] := by
  unfold VS
  repeat' (first | exact fm_nil | refine fm_cons (by kernel_rfl) ?_)
theorem sm_3 : ∀ w ∈ VS, fn__law_same 6 [.lst [.bl true, w], .lst [.bl true, w]] = .ret (.vl (.bl true)) [] := by
  unfold VS
  repeat' (first | exact fm_nil | refine fm_cons (by kernel_rfl) ?_)
theorem sm_4 : ∀ w ∈ VS, fn__law_same 6 [.lst [.str [97, 98], w], .lst [.str [97, 98], w]] = .ret (.vl (.bl true)) [] := by
  unfold VS
  repeat' (first | exact fm_nil | refine fm_cons (by kernel_rfl) ?_)
theorem sm_5 : ∀ w ∈ VS, fn__law_same 6 [.lst [.tup [], w], .lst [.tup [], w]] = .ret (.vl (.bl true)) [] := by
  unfold VS
  repeat' (first | exact fm_nil | refine fm_cons (by kernel_rfl) ?_)
theorem sm_6 : ∀ w ∈ VS, fn__law_same 6 [.lst [.tup [.int 1, .str [97]], w], .lst [.tup [.int 1, .str [97]], w]] = .ret (.vl (.bl true)) [] := by
  unfold VS
  repeat' (first | exact fm_nil | refine fm_cons (by kernel_rfl) ?_)
theorem sm_7 : ∀ w ∈ VS, fn__law_same 6 [.lst [.lst [.int 1, .lst [.int 2]], w], .lst [.lst [.int 1, .lst [.int 2]], w]] = .ret (.vl (.bl true)) [] := by
  unfold VS
  repeat' (first | exact fm_nil | refine fm_cons (by kernel_rfl) ?_)
theorem sm_8 : ∀ w ∈ VS, fn__law_same 6 [.lst [.str [], w], .lst [.str [], w]] = .ret (.vl (.bl true)) [] := by
  unfold VS
  repeat' (first | exact fm_nil | refine fm_cons (by kernel_rfl) ?_)
theorem sm_9 : ∀ w ∈ VS, fn__law_same 6 [.lst [.int 1000000000000000000000000000000, w], .lst [.int 1000000000000000000000000000000, w]] = .ret (.vl (.bl true)) [] := by
  unfold VS
  repeat' (first | exact fm_nil | refine fm_cons (by kernel_rfl) ?_)
theorem sm_10 : ∀ w ∈ VS, fn__law_same 6 [.lst [.tup [.int 2, .int 1, .tup [.tup [.int 0, .str [97], .int 0]]], w], .lst [.tup [.int 2, .int 1, .tup [.tup [.int 0, .str [97], .int 0]]], w]] = .ret (.vl (.bl true)) [] := by
  unfold VS
  repeat' (first | exact fm_nil | refine fm_cons (by kernel_rfl) ?_)
theorem sm_11 : ∀ w ∈ VS, fn__law_same 6 [.lst [.bl false, w], .lst [.bl false, w]] = .ret (.vl (.bl true)) [] := by
  unfold VS
  repeat' (first | exact fm_nil | refine fm_cons (by kernel_rfl) ?_)
theorem sm_12 : ∀ w ∈ VS, fn__law_same 6 [.lst [.lst [.str [97]], w], .lst [.lst [.str [97]], w]] = .ret (.vl (.bl true)) [] := by
  unfold VS
  repeat' (first | exact fm_nil | refine fm_cons (by kernel_rfl) ?_)
theorem sm_13 : ∀ w ∈ VS, fn__law_same 6 [.lst [.tup [.tup []], w], .lst [.tup [.tup []], w]] = .ret (.vl (.bl true)) [] := by
  unfold VS
  repeat' (first | exact fm_nil | refine fm_cons (by kernel_rfl) ?_)
theorem same_ok : ∀ v ∈ VS, ∀ w ∈ VS, fn__law_same 6 [.lst [v, w], .lst [v, w]] = .ret (.vl (.bl true)) [] := fm_cons sm_0 <| fm_cons sm_1 <| fm_cons sm_2 <| fm_cons sm_3 <| fm_cons sm_4 <| fm_cons sm_5 <| fm_cons sm_6 <| fm_cons sm_7 <| fm_cons sm_8 <| fm_cons sm_9 <| fm_cons sm_10 <| fm_cons sm_11 <| fm_cons sm_12 <| fm_cons sm_13 <| fm_nil
end LK
namespace LK
open PySem PySem.Spec L2 PL
/-! the errors, each by its number -/
structure Kd (m : Int) (c : Str) (ks : List D) : Prop where
  ca : ∀ (v : D) (b : Bool), fn__law_caught [.int m, v, .bl b] = .ret (.vl (.err c v)) []
  ki : ∀ v : D, fn__law_kinds [.err c v] = .ret (.fr (.lst ks)) []
  ls : ∀ c0 c1 c3 c4 c5 c6 c7 c8 : Cell, cLc (cRange1 (cConsA (cVal (cC (.int 19))) cNilA)) (List.map Prod.snd ([("at", 9)] : List (Str × Nat))) (gN 9) cYes (cVal (cOp2 dEq (cVar 9) (cVar 2))) [c0, c1, .fz (.int m), c3, c4, c5, c6, c7, c8, .un] = .ok (.fr (.lst ks)) [c0, c1, .fz (.int m), c3, c4, c5, c6, c7, c8, .un]
  ne : dNe (.lst ks) (.lst ks) = some (.vl (.bl false))
  me : c ∈ excs
  ve : kt "ValueError" c = some true
theorem kd_0 : Kd 0 "InvalidInteger" [.bl true, .bl false, .bl false, .bl false, .bl false, .bl false, .bl false, .bl false, .bl false, .bl false, .bl false, .bl false, .bl false, .bl false, .bl false, .bl false, .bl false, .bl false, .bl false] := ⟨fun v b => by cases b <;> kernel_rfl, fun v => by kernel_rfl, fun _ _ _ _ _ _ _ _ => by kernel_rfl, by kernel_rfl, by decide +kernel, by kernel_rfl⟩
theorem kd_1 : Kd 1 "InvalidWord" [.bl false, .bl true, .bl false, .bl false, .bl false, .bl false, .bl false, .bl false, .bl false, .bl false, .bl false, .bl false, .bl false, .bl false, .bl false, .bl false, .bl false, .bl false, .bl false] := ⟨fun v b => by cases b <;> kernel_rfl, fun v => by kernel_rfl, fun _ _ _ _ _ _ _ _ => by kernel_rfl, by kernel_rfl, by decide +kernel, by kernel_rfl⟩
theorem kd_2 : Kd 2 "InvalidWords" [.bl false, .bl false, .bl true, .bl false, .bl false, .bl false, .bl false, .bl false, .bl false, .bl false, .bl false, .bl false, .bl false, .bl false, .bl false, .bl false, .bl false, .bl false, .bl false] := ⟨fun v b => by cases b <;> kernel_rfl, fun v => by kernel_rfl, fun _ _ _ _ _ _ _ _ => by kernel_rfl, by kernel_rfl, by decide +kernel, by kernel_rfl⟩
theorem kd_3 : Kd 3 "InvalidRows" [.bl false, .bl false, .bl false, .bl true, .bl false, .bl false, .bl false, .bl false, .bl false, .bl false, .bl false, .bl false, .bl false, .bl false, .bl false, .bl false, .bl false, .bl false, .bl false] := ⟨fun v b => by cases b <;> kernel_rfl, fun v => by kernel_rfl, fun _ _ _ _ _ _ _ _ => by kernel_rfl, by kernel_rfl, by decide +kernel, by kernel_rfl⟩
theorem kd_4 : Kd 4 "InvalidGraph" [.bl false, .bl false, .bl false, .bl false, .bl true, .bl false, .bl false, .bl false, .bl false, .bl false, .bl false, .bl false, .bl false, .bl false, .bl false, .bl false, .bl false, .bl false, .bl false] := ⟨fun v b => by cases b <;> kernel_rfl, fun v => by kernel_rfl, fun _ _ _ _ _ _ _ _ => by kernel_rfl, by kernel_rfl, by decide +kernel, by kernel_rfl⟩
theorem kd_5 : Kd 5 "InvalidSubgroup" [.bl false, .bl false, .bl false, .bl false, .bl false, .bl true, .bl false, .bl false, .bl false, .bl false, .bl false, .bl false, .bl false, .bl false, .bl false, .bl false, .bl false, .bl false, .bl false] := ⟨fun v b => by cases b <;> kernel_rfl, fun v => by kernel_rfl, fun _ _ _ _ _ _ _ _ => by kernel_rfl, by kernel_rfl, by decide +kernel, by kernel_rfl⟩
theorem kd_6 : Kd 6 "InvalidMapping" [.bl false, .bl false, .bl false, .bl false, .bl false, .bl false, .bl true, .bl false, .bl false, .bl false, .bl false, .bl false, .bl false, .bl false, .bl false, .bl false, .bl false, .bl false, .bl false] := ⟨fun v b => by cases b <;> kernel_rfl, fun v => by kernel_rfl, fun _ _ _ _ _ _ _ _ => by kernel_rfl, by kernel_rfl, by decide +kernel, by kernel_rfl⟩
theorem kd_7 : Kd 7 "InvalidTable" [.bl false, .bl false, .bl false, .bl false, .bl false, .bl false, .bl false, .bl true, .bl false, .bl false, .bl false, .bl false, .bl false, .bl false, .bl false, .bl false, .bl false, .bl false, .bl false] := ⟨fun v b => by cases b <;> kernel_rfl, fun v => by kernel_rfl, fun _ _ _ _ _ _ _ _ => by kernel_rfl, by kernel_rfl, by decide +kernel, by kernel_rfl⟩
theorem kd_8 : Kd 8 "InvalidPresentation" [.bl false, .bl false, .bl false, .bl false, .bl false, .bl false, .bl false, .bl false, .bl true, .bl false, .bl false, .bl false, .bl false, .bl false, .bl false, .bl false, .bl false, .bl false, .bl false] := ⟨fun v b => by cases b <;> kernel_rfl, fun v => by kernel_rfl, fun _ _ _ _ _ _ _ _ => by kernel_rfl, by kernel_rfl, by decide +kernel, by kernel_rfl⟩
theorem kd_9 : Kd 9 "NotFinite" [.bl false, .bl false, .bl false, .bl false, .bl false, .bl false, .bl false, .bl false, .bl false, .bl true, .bl false, .bl false, .bl false, .bl false, .bl false, .bl false, .bl false, .bl false, .bl false] := ⟨fun v b => by cases b <;> kernel_rfl, fun v => by kernel_rfl, fun _ _ _ _ _ _ _ _ => by kernel_rfl, by kernel_rfl, by decide +kernel, by kernel_rfl⟩
theorem kd_10 : Kd 10 "NotIncluded" [.bl false, .bl false, .bl false, .bl false, .bl false, .bl false, .bl false, .bl false, .bl false, .bl false, .bl true, .bl false, .bl false, .bl false, .bl false, .bl false, .bl false, .bl false, .bl false] := ⟨fun v b => by cases b <;> kernel_rfl, fun v => by kernel_rfl, fun _ _ _ _ _ _ _ _ => by kernel_rfl, by kernel_rfl, by decide +kernel, by kernel_rfl⟩
theorem kd_11 : Kd 11 "NotOneToOne" [.bl false, .bl false, .bl false, .bl false, .bl false, .bl false, .bl false, .bl false, .bl false, .bl false, .bl false, .bl true, .bl false, .bl false, .bl false, .bl false, .bl false, .bl false, .bl false] := ⟨fun v b => by cases b <;> kernel_rfl, fun v => by kernel_rfl, fun _ _ _ _ _ _ _ _ => by kernel_rfl, by kernel_rfl, by decide +kernel, by kernel_rfl⟩
theorem kd_12 : Kd 12 "NotAutomorphism" [.bl false, .bl false, .bl false, .bl false, .bl false, .bl false, .bl false, .bl false, .bl false, .bl false, .bl false, .bl false, .bl true, .bl false, .bl false, .bl false, .bl false, .bl false, .bl false] := ⟨fun v b => by cases b <;> kernel_rfl, fun v => by kernel_rfl, fun _ _ _ _ _ _ _ _ => by kernel_rfl, by kernel_rfl, by decide +kernel, by kernel_rfl⟩
theorem kd_13 : Kd 13 "NotNormal" [.bl false, .bl false, .bl false, .bl false, .bl false, .bl false, .bl false, .bl false, .bl false, .bl false, .bl false, .bl false, .bl false, .bl true, .bl false, .bl false, .bl false, .bl false, .bl false] := ⟨fun v b => by cases b <;> kernel_rfl, fun v => by kernel_rfl, fun _ _ _ _ _ _ _ _ => by kernel_rfl, by kernel_rfl, by decide +kernel, by kernel_rfl⟩
theorem kd_14 : Kd 14 "InvalidName" [.bl false, .bl false, .bl false, .bl false, .bl false, .bl false, .bl false, .bl false, .bl false, .bl false, .bl false, .bl false, .bl false, .bl false, .bl true, .bl false, .bl false, .bl false, .bl false] := ⟨fun v b => by cases b <;> kernel_rfl, fun v => by kernel_rfl, fun _ _ _ _ _ _ _ _ => by kernel_rfl, by kernel_rfl, by decide +kernel, by kernel_rfl⟩
theorem kd_15 : Kd 15 "UnknownName" [.bl false, .bl false, .bl false, .bl false, .bl false, .bl false, .bl false, .bl false, .bl false, .bl false, .bl false, .bl false, .bl false, .bl false, .bl false, .bl true, .bl false, .bl false, .bl false] := ⟨fun v b => by cases b <;> kernel_rfl, fun v => by kernel_rfl, fun _ _ _ _ _ _ _ _ => by kernel_rfl, by kernel_rfl, by decide +kernel, by kernel_rfl⟩
theorem kd_16 : Kd 16 "NothingToUndo" [.bl false, .bl false, .bl false, .bl false, .bl false, .bl false, .bl false, .bl false, .bl false, .bl false, .bl false, .bl false, .bl false, .bl false, .bl false, .bl false, .bl true, .bl false, .bl false] := ⟨fun v b => by cases b <;> kernel_rfl, fun v => by kernel_rfl, fun _ _ _ _ _ _ _ _ => by kernel_rfl, by kernel_rfl, by decide +kernel, by kernel_rfl⟩
theorem kd_17 : Kd 17 "Unreadable" [.bl false, .bl false, .bl false, .bl false, .bl false, .bl false, .bl false, .bl false, .bl false, .bl false, .bl false, .bl false, .bl false, .bl false, .bl false, .bl false, .bl false, .bl true, .bl false] := ⟨fun v b => by cases b <;> kernel_rfl, fun v => by kernel_rfl, fun _ _ _ _ _ _ _ _ => by kernel_rfl, by kernel_rfl, by decide +kernel, by kernel_rfl⟩
theorem kd_18 : Kd 18 "InvalidCommand" [.bl false, .bl false, .bl false, .bl false, .bl false, .bl false, .bl false, .bl false, .bl false, .bl false, .bl false, .bl false, .bl false, .bl false, .bl false, .bl false, .bl false, .bl false, .bl true] := ⟨fun v b => by cases b <;> kernel_rfl, fun v => by kernel_rfl, fun _ _ _ _ _ _ _ _ => by kernel_rfl, by kernel_rfl, by decide +kernel, by kernel_rfl⟩
end LK
namespace LK
open PySem PySem.Spec L2 PL
theorem isV {m : Int} {c : Str} {ks : List D} (k : Kd m c ks) (x : D) : dIsE (kt "ValueError") (.err c x) = some (.vl (.bl true)) := by
  show (kt "ValueError" c).map _ = _
  rw [k.ve]; rfl
theorem three_ok {m : Int} {c : Str} {ks : List D} (k : Kd m c ks) (v w : D) (c0 c1 c7 c8 : Cell) :
    l_law_1_3 [c0, c1, .fz (.int m), .fz v, .fz w, .fz (.err c v), .fz (.err c w), c7, c8, .un] = .nx [c0, c1, .fz (.int m), .fz v, .fz w, .fz (.err c v), .fz (.err c w), c7, c8, .un] :=
  evIf (ρ1 := [c0, c1, .fz (.int m), .fz v, .fz w, .fz (.err c v), .fz (.err c w), c7, c8, .un]) (evOf (ρ1 := [c0, c1, .fz (.int m), .fz v, .fz w, .fz (.err c v), .fz (.err c w), c7, c8, .un]) (evT (ev2 (evCall (evC (evV rfl rfl) rfl) (k.ki v) trivial) (k.ls _ _ _ _ _ _ _ _) rfl rfl k.ne)) (evT (ev2 (evCall (evC (evV rfl rfl) rfl) (k.ki w) trivial) (evCall (evC (evV rfl rfl) rfl) (k.ki v) trivial) rfl rfl k.ne))) rfl
theorem two_ok {m : Int} {c : Str} {ks : List D} (k : Kd m c ks) {v w : D} (hv : v ∈ VS) (hw : w ∈ VS) (c0 c1 c7 c8 : Cell) :
    l_law_1_2 [c0, c1, .fz (.int m), .fz v, .fz w, .fz (.err c v), .fz (.err c w), c7, c8, .un] = .nx [c0, c1, .fz (.int m), .fz v, .fz w, .fz (.err c v), .fz (.err c w), c7, c8, .un] := by
  have a1 : cLst (cConsA (cVal (cFld excs (cVar 5))) (cConsA (cVal (cFld excs (cVar 6))) cNilA)) [c0, c1, .fz (.int m), .fz v, .fz w, .fz (.err c v), .fz (.err c w), c7, c8, .un] = .ok (.fr (.lst [v, w])) [c0, c1, .fz (.int m), .fz v, .fz w, .fz (.err c v), .fz (.err c w), c7, c8, .un] :=
    evLst (evC (evV (xFld rfl rfl k.me) rfl) (evC (evV (xFld rfl rfl k.me) rfl) rfl)) (by simp [sizeLine])
  have a2 : cLst (cConsA (cVal (cVar 3)) (cConsA (cVal (cVar 4)) cNilA)) [c0, c1, .fz (.int m), .fz v, .fz w, .fz (.err c v), .fz (.err c w), c7, c8, .un] = .ok (.fr (.lst [v, w])) [c0, c1, .fz (.int m), .fz v, .fz w, .fz (.err c v), .fz (.err c w), c7, c8, .un] :=
    evLst (evC (evV rfl rfl) (evC (evV rfl rfl) rfl)) (by simp [sizeLine])
  have a3 := evCall (evC (evV a1 rfl) (evC (evV a2 rfl) rfl)) (same_ok v hv w hw) trivial
  have b1 : cTru (cOp2 dIsN (cVar 5) (cC .non)) [c0, c1, .fz (.int m), .fz v, .fz w, .fz (.err c v), .fz (.err c w), c7, c8, .un] = .ok false [c0, c1, .fz (.int m), .fz v, .fz w, .fz (.err c v), .fz (.err c w), c7, c8, .un] := evT (ev2 rfl rfl rfl rfl rfl)
  have b2 : cTru (cOp2 dIsN (cVar 6) (cC .non)) [c0, c1, .fz (.int m), .fz v, .fz w, .fz (.err c v), .fz (.err c w), c7, c8, .un] = .ok false [c0, c1, .fz (.int m), .fz v, .fz w, .fz (.err c v), .fz (.err c w), c7, c8, .un] := evT (ev2 rfl rfl rfl rfl rfl)
  exact evS (evIf (evOf b1 (evOf b2 (evOf (evN (evT (ev1 rfl rfl (isV k v)))) (evN (evT a3))))) rfl) (three_ok k v w c0 c1 c7 c8)
theorem turn_ok {ns : List Int} (hl : ns.length ≤ 63) {n : Nat} {o : D} (hp : Pot ns (n + 4) o) {m : Int} {c : Str} {ks : List D} (k : Kd m c ks) (c0 c3 c4 c5 c6 c7 c8 : Cell) :
    ∃ (o' : D) (d3 d4 d5 d6 : Cell), Pot ns n o' ∧ l_law_1 [c0, .ow o, .fz (.int m), c3, c4, c5, c6, c7, c8, .un] = .nx [c0, .ow o', .fz (.int m), d3, d4, d5, d6, c7, c8, .un] := by
  obtain ⟨v, o1, hv, hp1, e1⟩ := value_ok (n := n + 3) hl hp
  obtain ⟨w, o2, hw, hp2, e2⟩ := value_ok (n := n + 2) hl hp1
  obtain ⟨a, o3, a0, a1, hp3, e3⟩ := take_ok (n := n + 1) (many := 2) hp2 hl (by omega) (by omega)
  obtain ⟨b, o4, b0, b1, hp4, e4⟩ := take_ok (n := n) (many := 2) hp3 hl (by omega) (by omega)
  refine ⟨o4, .fz v, .fz w, .fz (.err c v), .fz (.err c w), hp4, ?_⟩
  have q : dEq (.int a) (.int 0) = some (.vl (.bl (decide (a = 0)))) := rfl
  have q2 : dEq (.int b) (.int 0) = some (.vl (.bl (decide (b = 0)))) := rfl
  have s1 : l_law_1_1 [c0, .ow o2, .fz (.int m), .fz v, .fz w, c5, c6, c7, c8, .un] = .nx [c0, .ow o4, .fz (.int m), .fz v, .fz w, .fz (.err c v), .fz (.err c w), c7, c8, .un] := ?_
  · exact evS (evPar (evCall1 rfl rfl rfl e1 trivial rfl) (evCall1 rfl rfl rfl e2 trivial rfl) (ρ3 := [c0, .ow o2, .fz (.int m), .fz v, .fz w, c5, c6, c7, c8, .un]) rfl) s1
  have s2 : l_law_1_2 [c0, .ow o4, .fz (.int m), .fz v, .fz w, .fz (.err c v), .fz (.err c w), c7, c8, .un] = .nx [c0, .ow o4, .fz (.int m), .fz v, .fz w, .fz (.err c v), .fz (.err c w), c7, c8, .un] := ?_
  · exact evS (evPar (evCall (evC (evV rfl rfl) (evC (evV rfl rfl) (evC (evV (ev2 (evCall1 rfl (evC (evV rfl rfl) rfl) rfl e3 trivial rfl) rfl rfl rfl q) rfl) rfl))) (k.ca v _) trivial)
      (evCall (evC (evV rfl rfl) (evC (evV rfl rfl) (evC (evV (ev2 (evCall1 rfl (evC (evV rfl rfl) rfl) rfl e4 trivial rfl) rfl rfl rfl q2) rfl) rfl))) (k.ca w _) trivial)
      (ρ3 := [c0, .ow o4, .fz (.int m), .fz v, .fz w, .fz (.err c v), .fz (.err c w), c7, c8, .un]) rfl) s2
  exact two_ok k hv hw _ _ _ _
theorem step_ok {ns : List Int} (hl : ns.length ≤ 63) {n : Nat} {m : Int} {c : Str} {ks : List D} (k : Kd m c ks) {rest : List D} {c0 c7 c8 : Cell}
    (h : ∀ (o : D) (c2 c3 c4 c5 c6 : Cell), Pot ns n o → ∃ (o' : D) (d2 d3 d4 d5 d6 : Cell), forL (gN 2) l_law_1 rest [c0, .ow o, c2, c3, c4, c5, c6, c7, c8, .un] = .nx [c0, .ow o', d2, d3, d4, d5, d6, c7, c8, .un]) :
    ∀ (o : D) (c2 c3 c4 c5 c6 : Cell), Pot ns (n + 4) o → ∃ (o' : D) (d2 d3 d4 d5 d6 : Cell), forL (gN 2) l_law_1 (.int m :: rest) [c0, .ow o, c2, c3, c4, c5, c6, c7, c8, .un] = .nx [c0, .ow o', d2, d3, d4, d5, d6, c7, c8, .un] := fun o c2 c3 c4 c5 c6 hp => by
  obtain ⟨o1, d3, d4, d5, d6, hp1, e1⟩ := turn_ok hl hp k c0 c3 c4 c5 c6 c7 c8
  obtain ⟨o', f2, f3, f4, f5, f6, e⟩ := h o1 (.fz (.int m)) d3 d4 d5 d6 hp1
  refine ⟨o', f2, f3, f4, f5, f6, ?_⟩
  have g : gN 2 (.int m) [c0, .ow o, c2, c3, c4, c5, c6, c7, c8, .un] = some [c0, .ow o, .fz (.int m), c3, c4, c5, c6, c7, c8, .un] := rfl
  unfold forL
  rw [g]
  show (match l_law_1 [c0, .ow o, .fz (.int m), c3, c4, c5, c6, c7, c8, .un] with | _ => _) = _
  simp only [e1]
  exact e
theorem turns_ok {ns : List Int} (hl : ns.length ≤ 63) (c0 c7 c8 : Cell) : ∀ (o : D) (c2 c3 c4 c5 c6 : Cell), Pot ns 76 o → ∃ (o' : D) (d2 d3 d4 d5 d6 : Cell), forL (gN 2) l_law_1 (iota 0 19) [c0, .ow o, c2, c3, c4, c5, c6, c7, c8, .un] = .nx [c0, .ow o', d2, d3, d4, d5, d6, c7, c8, .un] := by
  have ei : iota 0 19 = [.int 0, .int 1, .int 2, .int 3, .int 4, .int 5, .int 6, .int 7, .int 8, .int 9, .int 10, .int 11, .int 12, .int 13, .int 14, .int 15, .int 16, .int 17, .int 18] := by kernel_rfl
  rw [ei]
  exact step_ok (n := 72) hl kd_0 <| step_ok (n := 68) hl kd_1 <| step_ok (n := 64) hl kd_2 <| step_ok (n := 60) hl kd_3 <| step_ok (n := 56) hl kd_4 <| step_ok (n := 52) hl kd_5 <| step_ok (n := 48) hl kd_6 <| step_ok (n := 44) hl kd_7 <| step_ok (n := 40) hl kd_8 <| step_ok (n := 36) hl kd_9 <|
    step_ok (n := 32) hl kd_10 <| step_ok (n := 28) hl kd_11 <| step_ok (n := 24) hl kd_12 <| step_ok (n := 20) hl kd_13 <| step_ok (n := 16) hl kd_14 <| step_ok (n := 12) hl kd_15 <| step_ok (n := 8) hl kd_16 <| step_ok (n := 4) hl kd_17 <| step_ok (n := 0) hl kd_18 fun o c2 c3 c4 c5 c6 _ => ⟨o, c2, c3, c4, c5, c6, rfl⟩
theorem pot_start (ns : List Int) (hl : ns.length ≤ 63) : fn__law_pot [.scr (ns.map .int)] = .ret (.fr (potD ns 0 50331653 0 4)) [] := by
  have e : dAdd (.lst [.int 0, .int 50331653, .int 0, .int 4]) (.lst (ns.map .int)) = some (.fr (potD ns 0 50331653 0 4)) := by
    have hz : sizeLine = 16777216 := rfl
    have e0 : dLL (.lst [.int 0, .int 50331653, .int 0, .int 4]) (.lst (ns.map .int)) = some (.fr (potD ns 0 50331653 0 4)) := if_pos (by simp; omega)
    simp only [dAdd, orO, dII, dSS, e0]
  unfold fn__law_pot runF
  have e2 : b__law_pot (cellsM (noM 1) [.scr (ns.map .int)] ++ List.replicate 0 .un) = .ret (.fr (potD ns 0 50331653 0 4)) [.fz (.scr (ns.map .int))] := evR (ev2 (evLst rfl (by simp [sizeLine])) (ev1 rfl rfl rfl) rfl rfl e)
  rw [e2]
  rfl
theorem end_ok (c0 c1 d2 d3 d4 d5 d6 : Cell) : ∃ ρ : Ev, b_law_2 [c0, c1, d2, d3, d4, d5, d6, .un, .un, .un] = .ret (.vl (.bl true)) [c0, c1, d2, d3, d4, d5, d6, .fz (.err "FreeError" (.str [120])), .fz (.err "FreeError" (.tup [.int 1, .int 2])), .un] := ⟨[], by kernel_rfl⟩
theorem main (ns : List Int) (hl : ns.length ≤ 63) : fn_law [.scr (ns.map .int)] = .ret (.vl (.bl true)) [] := by
  obtain ⟨o', d2, d3, d4, d5, d6, e⟩ := turns_ok hl (.fz (.scr (ns.map .int))) .un .un (potD ns 0 50331653 0 4) .un .un .un .un .un
    ⟨0, 50331653, 0, 4, rfl, by omega, by omega, by omega, by omega, by decide, by omega, by omega⟩
  obtain ⟨_, e3⟩ := end_ok (.fz (.scr (ns.map .int))) (.ow o') d2 d3 d4 d5 d6
  exact evRun (evS (evSet (evCall (evC (evV rfl rfl) rfl) (pot_start ns hl) trivial) rfl) (evS (evFor (evR1 (evC (evV rfl rfl) rfl) rfl) e) e3)) (outM_no 1 (by simp)) trivial
end LK
theorem PySem.Challenge.cw_wholefree_k00_errors_holds : PySem.Challenge.rw_wholefree_k00_errors.Holds :=
  LK.holds LK.main
